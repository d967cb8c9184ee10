/-
  No cell of these rows narrows 'for every input' (looked for: loops, veiled, ifaces, maps, wideKeys, modest, calm, conditions, laid).
  DERIVED. THE GIVEN ROWS OF THIS SEAT. 5 by the template 'for every input the law returns true; each argument reads behind the call as it read before'; 0 by the template 'total and deterministic' (their statements: YtodgadhegcjbhaaTotals.lean).
  GIVEN WITH THE SEED: the statements are not yours to turn. If you find one false, say at which input.
  Laid BY PROGRAM, IN A SANDBOX (cutbox-rows.mjs): the forced cells as the released guide's own fill.sh prints them over the translation c4fdfd76fd83d08e… (all of the seat's roots in one cut). By AI agents, Wed Nov 11 2026. No macro, syntax, notation, axiom, sorry.
-/
import Derived.Test.YtodgadhegcjbhaaChecked
import GoSem.Claim
import GoSem.ClaimJoined
import GoSem.ClaimMapViews
import Derived.JoinedTies
import Derived.KernelRfl
namespace Go.Proofs.Ytodgadhegcjbhaa
/- THE CELL 'sum', in the pinned program and in every row, IS THE sha256 OF THE DUMP (.gsa) THAT YtodgadhegcjbhaaProg.lean LOADS. Nothing in Lean hashes anything: it is a label: what it is worth is what the hold of that sum in a sandbox is worth. -/
noncomputable def Try.pinned : Pinned := { name := "ytodgadhegcjbhaa", sum := "c4fdfd76fd83d08ea7a4c8f64dd7bf050248d2bdb2799fedfd9708321d215552", checked := Try.checked }
namespace Rows
def none {H : Type} : Left H := { results := [], args := [] }

/-- 'spoorlaw11.MsgPuts': WHATEVER THE INPUT: true; the input reads as it did. -/
def msgPutsSpec : ChangeSpec := { name := "msgPuts", fn := fun _ => fun
  | [d1, d2] => { results := [.lit (.bool true)], args := [d1, d2] }
  | _ => none }
def msgPutsRow : OpenClaim := { program := "ytodgadhegcjbhaa", sum := "c4fdfd76fd83d08ea7a4c8f64dd7bf050248d2bdb2799fedfd9708321d215552", func := "spoor/spoorlaw11.MsgPuts", spec := "msgPuts", unfollowed := true, recurses := true, apart := false }
def MsgPutsSaid : Prop := msgPutsRow.holds Try.pinned (OpenSpec.ofChange msgPutsSpec)

/-- ITS FALSE NEIGHBOUR: 'it returns false'. Refute it at one input. -/
def msgPutsWrong : ChangeSpec := { name := "msgPuts", fn := fun _ => fun
  | [d1, d2] => { results := [.lit (.bool false)], args := [d1, d2] }
  | _ => none }
def MsgPutsWrongFalsely : Prop := msgPutsRow.holds Try.pinned (OpenSpec.ofChange msgPutsWrong)

/-- 'spoorlaw11.MsgParts': WHATEVER THE INPUT: true; the input reads as it did. -/
def msgPartsSpec : ChangeSpec := { name := "msgParts", fn := fun _ => fun
  | [d1, d2, d3] => { results := [.lit (.bool true)], args := [d1, d2, d3] }
  | _ => none }
def msgPartsRow : OpenClaim := { program := "ytodgadhegcjbhaa", sum := "c4fdfd76fd83d08ea7a4c8f64dd7bf050248d2bdb2799fedfd9708321d215552", func := "spoor/spoorlaw11.MsgParts", spec := "msgParts", unfollowed := true, recurses := true, apart := false }
def MsgPartsSaid : Prop := msgPartsRow.holds Try.pinned (OpenSpec.ofChange msgPartsSpec)

/-- ITS FALSE NEIGHBOUR: 'it returns false'. Refute it at one input. -/
def msgPartsWrong : ChangeSpec := { name := "msgParts", fn := fun _ => fun
  | [d1, d2, d3] => { results := [.lit (.bool false)], args := [d1, d2, d3] }
  | _ => none }
def MsgPartsWrongFalsely : Prop := msgPartsRow.holds Try.pinned (OpenSpec.ofChange msgPartsWrong)

/-- 'spoorlaw11.MsgBack': WHATEVER THE INPUT: true; the input reads as it did. -/
def msgBackSpec : ChangeSpec := { name := "msgBack", fn := fun _ => fun
  | [d1, d2] => { results := [.lit (.bool true)], args := [d1, d2] }
  | _ => none }
def msgBackRow : OpenClaim := { program := "ytodgadhegcjbhaa", sum := "c4fdfd76fd83d08ea7a4c8f64dd7bf050248d2bdb2799fedfd9708321d215552", func := "spoor/spoorlaw11.MsgBack", spec := "msgBack", unfollowed := true, recurses := true, apart := false }
def MsgBackSaid : Prop := msgBackRow.holds Try.pinned (OpenSpec.ofChange msgBackSpec)

/-- ITS FALSE NEIGHBOUR: 'it returns false'. Refute it at one input. -/
def msgBackWrong : ChangeSpec := { name := "msgBack", fn := fun _ => fun
  | [d1, d2] => { results := [.lit (.bool false)], args := [d1, d2] }
  | _ => none }
def MsgBackWrongFalsely : Prop := msgBackRow.holds Try.pinned (OpenSpec.ofChange msgBackWrong)

/-- 'spoorlaw11.MsgAlone': WHATEVER THE INPUT: true; the input reads as it did. -/
def msgAloneSpec : ChangeSpec := { name := "msgAlone", fn := fun _ => fun
  | [d1, d2, d3] => { results := [.lit (.bool true)], args := [d1, d2, d3] }
  | _ => none }
def msgAloneRow : OpenClaim := { program := "ytodgadhegcjbhaa", sum := "c4fdfd76fd83d08ea7a4c8f64dd7bf050248d2bdb2799fedfd9708321d215552", func := "spoor/spoorlaw11.MsgAlone", spec := "msgAlone", unfollowed := true, recurses := true, apart := false }
def MsgAloneSaid : Prop := msgAloneRow.holds Try.pinned (OpenSpec.ofChange msgAloneSpec)

/-- ITS FALSE NEIGHBOUR: 'it returns false'. Refute it at one input. -/
def msgAloneWrong : ChangeSpec := { name := "msgAlone", fn := fun _ => fun
  | [d1, d2, d3] => { results := [.lit (.bool false)], args := [d1, d2, d3] }
  | _ => none }
def MsgAloneWrongFalsely : Prop := msgAloneRow.holds Try.pinned (OpenSpec.ofChange msgAloneWrong)

/-- 'spoorlaw11.MsgPrefixes': WHATEVER THE INPUT: true; the input reads as it did. -/
def msgPrefixesSpec : ChangeSpec := { name := "msgPrefixes", fn := fun _ => fun
  | [d1, d2, d3] => { results := [.lit (.bool true)], args := [d1, d2, d3] }
  | _ => none }
def msgPrefixesRow : OpenClaim := { program := "ytodgadhegcjbhaa", sum := "c4fdfd76fd83d08ea7a4c8f64dd7bf050248d2bdb2799fedfd9708321d215552", func := "spoor/spoorlaw11.MsgPrefixes", spec := "msgPrefixes", unfollowed := true, recurses := true, apart := false }
def MsgPrefixesSaid : Prop := msgPrefixesRow.holds Try.pinned (OpenSpec.ofChange msgPrefixesSpec)

/-- ITS FALSE NEIGHBOUR: 'it returns false'. Refute it at one input. -/
def msgPrefixesWrong : ChangeSpec := { name := "msgPrefixes", fn := fun _ => fun
  | [d1, d2, d3] => { results := [.lit (.bool false)], args := [d1, d2, d3] }
  | _ => none }
def MsgPrefixesWrongFalsely : Prop := msgPrefixesRow.holds Try.pinned (OpenSpec.ofChange msgPrefixesWrong)

/- THE SECOND FORM. 'bulk': how many values and letters a reading holds, each counted each time it is reached (what is shared counts as often as it is met; a slice's spare places count too). A statement '..UptoSaid' is the law's where the arguments, and the package variables that the reading takes, are together of bulk at most 1048576: NARROWER than '..Said'. Prove '..Said' where nothing that the law and all that it calls make is longer than what came in: it says more and counts as full. Else prove '..UptoSaid'. A law counts once. -/
mutual
def uptoBulk {H : Type} : DataW H → Nat
  | .lit (.string bytes) => bytes.length + 1
  | .lit _ => 1
  | .nil => 1
  | .ptr d => uptoBulk d + 1
  | .slice elems spare => uptoBulkAll elems + uptoBulkAll spare + 1
  | .agg parts => uptoBulkAll parts + 1
  | .iface _ d => uptoBulk d + 1
  | .map entries => uptoBulkEntries entries + 1
  | .held _ => 1
def uptoBulkAll {H : Type} : List (DataW H) → Nat
  | [] => 0
  | d :: r => uptoBulk d + uptoBulkAll r
def uptoBulkEntries {H : Type} : List (Lit × DataW H) → Nat
  | [] => 0
  | x :: r => uptoBulkEntry x + uptoBulkEntries r
def uptoBulkEntry {H : Type} : Lit × DataW H → Nat
  | (.string bytes, d) => bytes.length + uptoBulk d + 1
  | (_, d) => uptoBulk d + 1
 end
def uptoSmall : (H : Type) → List (DataW H) → Bool := fun _ ds => decide (uptoBulkAll ds ≤ 1048576)
def OpenSpec.upto (s : _root_.Go.ChangeSpec) : _root_.Go.OpenSpec := { _root_.Go.OpenSpec.ofChange s with cond := some uptoSmall }

/-- 'spoorlaw11.MsgPuts', WHERE WHAT IT READS IS OF BULK AT MOST 1048576: true; the input reads as it did. -/
def msgPutsUptoRow : OpenClaim := { program := "ytodgadhegcjbhaa", sum := "c4fdfd76fd83d08ea7a4c8f64dd7bf050248d2bdb2799fedfd9708321d215552", func := "spoor/spoorlaw11.MsgPuts", spec := "msgPuts", unfollowed := true, recurses := true, apart := false, narrowed := true }
def MsgPutsUptoSaid : Prop := msgPutsUptoRow.holds Try.pinned (OpenSpec.upto msgPutsSpec)

/-- 'spoorlaw11.MsgParts', WHERE WHAT IT READS IS OF BULK AT MOST 1048576: true; the input reads as it did. -/
def msgPartsUptoRow : OpenClaim := { program := "ytodgadhegcjbhaa", sum := "c4fdfd76fd83d08ea7a4c8f64dd7bf050248d2bdb2799fedfd9708321d215552", func := "spoor/spoorlaw11.MsgParts", spec := "msgParts", unfollowed := true, recurses := true, apart := false, narrowed := true }
def MsgPartsUptoSaid : Prop := msgPartsUptoRow.holds Try.pinned (OpenSpec.upto msgPartsSpec)

/-- 'spoorlaw11.MsgBack', WHERE WHAT IT READS IS OF BULK AT MOST 1048576: true; the input reads as it did. -/
def msgBackUptoRow : OpenClaim := { program := "ytodgadhegcjbhaa", sum := "c4fdfd76fd83d08ea7a4c8f64dd7bf050248d2bdb2799fedfd9708321d215552", func := "spoor/spoorlaw11.MsgBack", spec := "msgBack", unfollowed := true, recurses := true, apart := false, narrowed := true }
def MsgBackUptoSaid : Prop := msgBackUptoRow.holds Try.pinned (OpenSpec.upto msgBackSpec)

/-- 'spoorlaw11.MsgAlone', WHERE WHAT IT READS IS OF BULK AT MOST 1048576: true; the input reads as it did. -/
def msgAloneUptoRow : OpenClaim := { program := "ytodgadhegcjbhaa", sum := "c4fdfd76fd83d08ea7a4c8f64dd7bf050248d2bdb2799fedfd9708321d215552", func := "spoor/spoorlaw11.MsgAlone", spec := "msgAlone", unfollowed := true, recurses := true, apart := false, narrowed := true }
def MsgAloneUptoSaid : Prop := msgAloneUptoRow.holds Try.pinned (OpenSpec.upto msgAloneSpec)

/-- 'spoorlaw11.MsgPrefixes', WHERE WHAT IT READS IS OF BULK AT MOST 1048576: true; the input reads as it did. -/
def msgPrefixesUptoRow : OpenClaim := { program := "ytodgadhegcjbhaa", sum := "c4fdfd76fd83d08ea7a4c8f64dd7bf050248d2bdb2799fedfd9708321d215552", func := "spoor/spoorlaw11.MsgPrefixes", spec := "msgPrefixes", unfollowed := true, recurses := true, apart := false, narrowed := true }
def MsgPrefixesUptoSaid : Prop := msgPrefixesUptoRow.holds Try.pinned (OpenSpec.upto msgPrefixesSpec)

end Rows
end Go.Proofs.Ytodgadhegcjbhaa
