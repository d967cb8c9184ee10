/-
  No cell of these rows narrows 'for every input' (looked for: loops, veiled, ifaces, maps, wideKeys, modest, calm, conditions, laid).
  DERIVED. THE GIVEN ROWS OF THIS SEAT. 4 by the template 'for every input the law returns true; each argument reads behind the call as it read before'; 0 by the template 'total and deterministic' (their statements: YtafclgjnomocdaaTotals.lean).
  GIVEN WITH THE SEED: the statements are not yours to turn. If you find one false, say at which input.
  Laid BY PROGRAM, IN A SANDBOX (cutbox-rows.mjs): the forced cells as the released guide's own fill.sh prints them over the translation a67c283ca54b2a91… (all of the seat's roots in one cut). By AI agents, Wed Nov 11 2026. No macro, syntax, notation, axiom, sorry.
-/
import Derived.Test.YtafclgjnomocdaaChecked
import GoSem.Claim
import GoSem.ClaimJoined
import GoSem.ClaimMapViews
import Derived.JoinedTies
import Derived.KernelRfl
namespace Go.Proofs.Ytafclgjnomocdaa
/- THE CELL 'sum', in the pinned program and in every row, IS THE sha256 OF THE DUMP (.gsa) THAT YtafclgjnomocdaaProg.lean LOADS. Nothing in Lean hashes anything: it is a label: what it is worth is what the hold of that sum in a sandbox is worth. -/
noncomputable def Try.pinned : Pinned := { name := "ytafclgjnomocdaa", sum := "a67c283ca54b2a9184f226514db9136678e540aafa540140331c48c9291795ca", checked := Try.checked }
namespace Rows
def none {H : Type} : Left H := { results := [], args := [] }

/-- 'spoorlaw09.AddrSteps': WHATEVER THE INPUT: true; the input reads as it did. -/
def addrStepsSpec : ChangeSpec := { name := "addrSteps", fn := fun _ => fun
  | [d1, d2, d3] => { results := [.lit (.bool true)], args := [d1, d2, d3] }
  | _ => none }
def addrStepsRow : OpenClaim := { program := "ytafclgjnomocdaa", sum := "a67c283ca54b2a9184f226514db9136678e540aafa540140331c48c9291795ca", func := "spoor/spoorlaw09.AddrSteps", spec := "addrSteps", inPlace := ["math/bits.Add64", "math/bits.Sub64"], apart := false }
def AddrStepsSaid : Prop := addrStepsRow.holds Try.pinned (OpenSpec.ofChange addrStepsSpec)

/-- ITS FALSE NEIGHBOUR: 'it returns false'. Refute it at one input. -/
def addrStepsWrong : ChangeSpec := { name := "addrSteps", fn := fun _ => fun
  | [d1, d2, d3] => { results := [.lit (.bool false)], args := [d1, d2, d3] }
  | _ => none }
def AddrStepsWrongFalsely : Prop := addrStepsRow.holds Try.pinned (OpenSpec.ofChange addrStepsWrong)

/-- 'spoorlaw09.AddrPrefixes': WHATEVER THE INPUT: true; the input reads as it did. -/
def addrPrefixesSpec : ChangeSpec := { name := "addrPrefixes", fn := fun _ => fun
  | [d1, d2, d3, d4] => { results := [.lit (.bool true)], args := [d1, d2, d3, d4] }
  | _ => none }
def addrPrefixesRow : OpenClaim := { program := "ytafclgjnomocdaa", sum := "a67c283ca54b2a9184f226514db9136678e540aafa540140331c48c9291795ca", func := "spoor/spoorlaw09.AddrPrefixes", spec := "addrPrefixes", inPlace := ["math/bits.Add64", "math/bits.Sub64"], apart := false }
def AddrPrefixesSaid : Prop := addrPrefixesRow.holds Try.pinned (OpenSpec.ofChange addrPrefixesSpec)

/-- ITS FALSE NEIGHBOUR: 'it returns false'. Refute it at one input. -/
def addrPrefixesWrong : ChangeSpec := { name := "addrPrefixes", fn := fun _ => fun
  | [d1, d2, d3, d4] => { results := [.lit (.bool false)], args := [d1, d2, d3, d4] }
  | _ => none }
def AddrPrefixesWrongFalsely : Prop := addrPrefixesRow.holds Try.pinned (OpenSpec.ofChange addrPrefixesWrong)

/-- 'spoorlaw09.AddrBetween': WHATEVER THE INPUT: true; the input reads as it did. -/
def addrBetweenSpec : ChangeSpec := { name := "addrBetween", fn := fun _ => fun
  | [d1, d2, d3] => { results := [.lit (.bool true)], args := [d1, d2, d3] }
  | _ => none }
def addrBetweenRow : OpenClaim := { program := "ytafclgjnomocdaa", sum := "a67c283ca54b2a9184f226514db9136678e540aafa540140331c48c9291795ca", func := "spoor/spoorlaw09.AddrBetween", spec := "addrBetween", inPlace := ["math/bits.Add64", "math/bits.Sub64"], apart := false }
def AddrBetweenSaid : Prop := addrBetweenRow.holds Try.pinned (OpenSpec.ofChange addrBetweenSpec)

/-- ITS FALSE NEIGHBOUR: 'it returns false'. Refute it at one input. -/
def addrBetweenWrong : ChangeSpec := { name := "addrBetween", fn := fun _ => fun
  | [d1, d2, d3] => { results := [.lit (.bool false)], args := [d1, d2, d3] }
  | _ => none }
def AddrBetweenWrongFalsely : Prop := addrBetweenRow.holds Try.pinned (OpenSpec.ofChange addrBetweenWrong)

/-- 'spoorlaw09.AddrHalves': WHATEVER THE INPUT: true; the input reads as it did. -/
def addrHalvesSpec : ChangeSpec := { name := "addrHalves", fn := fun _ => fun
  | [d1, d2] => { results := [.lit (.bool true)], args := [d1, d2] }
  | _ => none }
def addrHalvesRow : OpenClaim := { program := "ytafclgjnomocdaa", sum := "a67c283ca54b2a9184f226514db9136678e540aafa540140331c48c9291795ca", func := "spoor/spoorlaw09.AddrHalves", spec := "addrHalves", inPlace := ["math/bits.Add64", "math/bits.Sub64"], apart := false }
def AddrHalvesSaid : Prop := addrHalvesRow.holds Try.pinned (OpenSpec.ofChange addrHalvesSpec)

/-- ITS FALSE NEIGHBOUR: 'it returns false'. Refute it at one input. -/
def addrHalvesWrong : ChangeSpec := { name := "addrHalves", fn := fun _ => fun
  | [d1, d2] => { results := [.lit (.bool false)], args := [d1, d2] }
  | _ => none }
def AddrHalvesWrongFalsely : Prop := addrHalvesRow.holds Try.pinned (OpenSpec.ofChange addrHalvesWrong)

/- THE SECOND FORM. 'bulk': how many values and letters a reading holds, each counted each time it is reached (what is shared counts as often as it is met; a slice's spare places count too). A statement '..UptoSaid' is the law's where the arguments, and the package variables that the reading takes, are together of bulk at most 1048576: NARROWER than '..Said'. Prove '..Said' where nothing that the law and all that it calls make is longer than what came in: it says more and counts as full. Else prove '..UptoSaid'. A law counts once. -/
mutual
def uptoBulk {H : Type} : DataW H → Nat
  | .lit (.string bytes) => bytes.length + 1
  | .lit _ => 1
  | .nil => 1
  | .ptr d => uptoBulk d + 1
  | .slice elems spare => uptoBulkAll elems + uptoBulkAll spare + 1
  | .agg parts => uptoBulkAll parts + 1
  | .iface _ d => uptoBulk d + 1
  | .map entries => uptoBulkEntries entries + 1
  | .held _ => 1
def uptoBulkAll {H : Type} : List (DataW H) → Nat
  | [] => 0
  | d :: r => uptoBulk d + uptoBulkAll r
def uptoBulkEntries {H : Type} : List (Lit × DataW H) → Nat
  | [] => 0
  | x :: r => uptoBulkEntry x + uptoBulkEntries r
def uptoBulkEntry {H : Type} : Lit × DataW H → Nat
  | (.string bytes, d) => bytes.length + uptoBulk d + 1
  | (_, d) => uptoBulk d + 1
 end
def uptoSmall : (H : Type) → List (DataW H) → Bool := fun _ ds => decide (uptoBulkAll ds ≤ 1048576)
def OpenSpec.upto (s : _root_.Go.ChangeSpec) : _root_.Go.OpenSpec := { _root_.Go.OpenSpec.ofChange s with cond := some uptoSmall }

/-- 'spoorlaw09.AddrSteps', WHERE WHAT IT READS IS OF BULK AT MOST 1048576: true; the input reads as it did. -/
def addrStepsUptoRow : OpenClaim := { program := "ytafclgjnomocdaa", sum := "a67c283ca54b2a9184f226514db9136678e540aafa540140331c48c9291795ca", func := "spoor/spoorlaw09.AddrSteps", spec := "addrSteps", inPlace := ["math/bits.Add64", "math/bits.Sub64"], apart := false, narrowed := true }
def AddrStepsUptoSaid : Prop := addrStepsUptoRow.holds Try.pinned (OpenSpec.upto addrStepsSpec)

/-- 'spoorlaw09.AddrPrefixes', WHERE WHAT IT READS IS OF BULK AT MOST 1048576: true; the input reads as it did. -/
def addrPrefixesUptoRow : OpenClaim := { program := "ytafclgjnomocdaa", sum := "a67c283ca54b2a9184f226514db9136678e540aafa540140331c48c9291795ca", func := "spoor/spoorlaw09.AddrPrefixes", spec := "addrPrefixes", inPlace := ["math/bits.Add64", "math/bits.Sub64"], apart := false, narrowed := true }
def AddrPrefixesUptoSaid : Prop := addrPrefixesUptoRow.holds Try.pinned (OpenSpec.upto addrPrefixesSpec)

/-- 'spoorlaw09.AddrBetween', WHERE WHAT IT READS IS OF BULK AT MOST 1048576: true; the input reads as it did. -/
def addrBetweenUptoRow : OpenClaim := { program := "ytafclgjnomocdaa", sum := "a67c283ca54b2a9184f226514db9136678e540aafa540140331c48c9291795ca", func := "spoor/spoorlaw09.AddrBetween", spec := "addrBetween", inPlace := ["math/bits.Add64", "math/bits.Sub64"], apart := false, narrowed := true }
def AddrBetweenUptoSaid : Prop := addrBetweenUptoRow.holds Try.pinned (OpenSpec.upto addrBetweenSpec)

/-- 'spoorlaw09.AddrHalves', WHERE WHAT IT READS IS OF BULK AT MOST 1048576: true; the input reads as it did. -/
def addrHalvesUptoRow : OpenClaim := { program := "ytafclgjnomocdaa", sum := "a67c283ca54b2a9184f226514db9136678e540aafa540140331c48c9291795ca", func := "spoor/spoorlaw09.AddrHalves", spec := "addrHalves", inPlace := ["math/bits.Add64", "math/bits.Sub64"], apart := false, narrowed := true }
def AddrHalvesUptoSaid : Prop := addrHalvesUptoRow.holds Try.pinned (OpenSpec.upto addrHalvesSpec)

end Rows
end Go.Proofs.Ytafclgjnomocdaa
