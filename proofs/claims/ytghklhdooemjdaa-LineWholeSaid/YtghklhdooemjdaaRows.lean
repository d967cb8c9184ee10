/-
  No cell of these rows narrows 'for every input' (looked for: loops, veiled, ifaces, maps, wideKeys, modest, calm, conditions, laid).
  DERIVED. THE GIVEN ROWS OF THIS SEAT. 5 by the template 'for every input the law returns true; each argument reads behind the call as it read before'; 0 by the template 'total and deterministic' (their statements: YtghklhdooemjdaaTotals.lean).
  GIVEN WITH THE SEED: the statements are not yours to turn. If you find one false, say at which input.
  Laid BY PROGRAM, IN A SANDBOX (cutbox-rows.mjs): the forced cells as the released guide's own fill.sh prints them over the translation 9343aae9ab7fe5cd… (all of the seat's roots in one cut). By AI agents, Wed Nov 11 2026. No macro, syntax, notation, axiom, sorry.
-/
import Derived.Test.YtghklhdooemjdaaChecked
import GoSem.Claim
import GoSem.ClaimJoined
import GoSem.ClaimMapViews
import Derived.JoinedTies
import Derived.KernelRfl
namespace Go.Proofs.Ytghklhdooemjdaa
/- THE CELL 'sum', in the pinned program and in every row, IS THE sha256 OF THE DUMP (.gsa) THAT YtghklhdooemjdaaProg.lean LOADS. Nothing in Lean hashes anything: it is a label: what it is worth is what the hold of that sum in a sandbox is worth. -/
noncomputable def Try.pinned : Pinned := { name := "ytghklhdooemjdaa", sum := "9343aae9ab7fe5cd22527738f78baa9c53a749059037929535cda292fe0ac83f", checked := Try.checked }
namespace Rows
def none {H : Type} : Left H := { results := [], args := [] }

/-- 'spoorlaw20.LineMakes': WHATEVER THE INPUT: true; the input reads as it did. -/
def lineMakesSpec : ChangeSpec := { name := "lineMakes", fn := fun _ => fun
  | [d1, d2, d3] => { results := [.lit (.bool true)], args := [d1, d2, d3] }
  | _ => none }
def lineMakesRow : OpenClaim := { program := "ytghklhdooemjdaa", sum := "9343aae9ab7fe5cd22527738f78baa9c53a749059037929535cda292fe0ac83f", func := "spoor/spoorlaw20.LineMakes", spec := "lineMakes", unfollowed := true, recurses := true, apart := false }
def LineMakesSaid : Prop := lineMakesRow.holds Try.pinned (OpenSpec.ofChange lineMakesSpec)

/-- ITS FALSE NEIGHBOUR: 'it returns false'. Refute it at one input. -/
def lineMakesWrong : ChangeSpec := { name := "lineMakes", fn := fun _ => fun
  | [d1, d2, d3] => { results := [.lit (.bool false)], args := [d1, d2, d3] }
  | _ => none }
def LineMakesWrongFalsely : Prop := lineMakesRow.holds Try.pinned (OpenSpec.ofChange lineMakesWrong)

/-- 'spoorlaw20.LineAsks': WHATEVER THE INPUT: true; the input reads as it did. -/
def lineAsksSpec : ChangeSpec := { name := "lineAsks", fn := fun _ => fun
  | [d1, d2, d3, d4, d5, d6] => { results := [.lit (.bool true)], args := [d1, d2, d3, d4, d5, d6] }
  | _ => none }
def lineAsksRow : OpenClaim := { program := "ytghklhdooemjdaa", sum := "9343aae9ab7fe5cd22527738f78baa9c53a749059037929535cda292fe0ac83f", func := "spoor/spoorlaw20.LineAsks", spec := "lineAsks", unfollowed := true, recurses := true, apart := false }
def LineAsksSaid : Prop := lineAsksRow.holds Try.pinned (OpenSpec.ofChange lineAsksSpec)

/-- ITS FALSE NEIGHBOUR: 'it returns false'. Refute it at one input. -/
def lineAsksWrong : ChangeSpec := { name := "lineAsks", fn := fun _ => fun
  | [d1, d2, d3, d4, d5, d6] => { results := [.lit (.bool false)], args := [d1, d2, d3, d4, d5, d6] }
  | _ => none }
def LineAsksWrongFalsely : Prop := lineAsksRow.holds Try.pinned (OpenSpec.ofChange lineAsksWrong)

/-- 'spoorlaw20.LineTells': WHATEVER THE INPUT: true; the input reads as it did. -/
def lineTellsSpec : ChangeSpec := { name := "lineTells", fn := fun _ => fun
  | [d1, d2, d3] => { results := [.lit (.bool true)], args := [d1, d2, d3] }
  | _ => none }
def lineTellsRow : OpenClaim := { program := "ytghklhdooemjdaa", sum := "9343aae9ab7fe5cd22527738f78baa9c53a749059037929535cda292fe0ac83f", func := "spoor/spoorlaw20.LineTells", spec := "lineTells", unfollowed := true, recurses := true, apart := false }
def LineTellsSaid : Prop := lineTellsRow.holds Try.pinned (OpenSpec.ofChange lineTellsSpec)

/-- ITS FALSE NEIGHBOUR: 'it returns false'. Refute it at one input. -/
def lineTellsWrong : ChangeSpec := { name := "lineTells", fn := fun _ => fun
  | [d1, d2, d3] => { results := [.lit (.bool false)], args := [d1, d2, d3] }
  | _ => none }
def LineTellsWrongFalsely : Prop := lineTellsRow.holds Try.pinned (OpenSpec.ofChange lineTellsWrong)

/-- 'spoorlaw20.LineCut': WHATEVER THE INPUT: true; the input reads as it did. -/
def lineCutSpec : ChangeSpec := { name := "lineCut", fn := fun _ => fun
  | [d1, d2, d3, d4, d5] => { results := [.lit (.bool true)], args := [d1, d2, d3, d4, d5] }
  | _ => none }
def lineCutRow : OpenClaim := { program := "ytghklhdooemjdaa", sum := "9343aae9ab7fe5cd22527738f78baa9c53a749059037929535cda292fe0ac83f", func := "spoor/spoorlaw20.LineCut", spec := "lineCut", unfollowed := true, recurses := true, apart := false }
def LineCutSaid : Prop := lineCutRow.holds Try.pinned (OpenSpec.ofChange lineCutSpec)

/-- ITS FALSE NEIGHBOUR: 'it returns false'. Refute it at one input. -/
def lineCutWrong : ChangeSpec := { name := "lineCut", fn := fun _ => fun
  | [d1, d2, d3, d4, d5] => { results := [.lit (.bool false)], args := [d1, d2, d3, d4, d5] }
  | _ => none }
def LineCutWrongFalsely : Prop := lineCutRow.holds Try.pinned (OpenSpec.ofChange lineCutWrong)

/-- 'spoorlaw20.LineWhole': WHATEVER THE INPUT: true; the input reads as it did. -/
def lineWholeSpec : ChangeSpec := { name := "lineWhole", fn := fun _ => fun
  | [d1, d2] => { results := [.lit (.bool true)], args := [d1, d2] }
  | _ => none }
def lineWholeRow : OpenClaim := { program := "ytghklhdooemjdaa", sum := "9343aae9ab7fe5cd22527738f78baa9c53a749059037929535cda292fe0ac83f", func := "spoor/spoorlaw20.LineWhole", spec := "lineWhole", unfollowed := true, recurses := true, apart := false }
def LineWholeSaid : Prop := lineWholeRow.holds Try.pinned (OpenSpec.ofChange lineWholeSpec)

/-- ITS FALSE NEIGHBOUR: 'it returns false'. Refute it at one input. -/
def lineWholeWrong : ChangeSpec := { name := "lineWhole", fn := fun _ => fun
  | [d1, d2] => { results := [.lit (.bool false)], args := [d1, d2] }
  | _ => none }
def LineWholeWrongFalsely : Prop := lineWholeRow.holds Try.pinned (OpenSpec.ofChange lineWholeWrong)

/- THE SECOND FORM. 'bulk': how many values and letters a reading holds, each counted each time it is reached (what is shared counts as often as it is met; a slice's spare places count too). A statement '..UptoSaid' is the law's where the arguments, and the package variables that the reading takes, are together of bulk at most 1048576: NARROWER than '..Said'. Prove '..Said' where nothing that the law and all that it calls make is longer than what came in: it says more and counts as full. Else prove '..UptoSaid'. A law counts once. -/
mutual
def uptoBulk {H : Type} : DataW H → Nat
  | .lit (.string bytes) => bytes.length + 1
  | .lit _ => 1
  | .nil => 1
  | .ptr d => uptoBulk d + 1
  | .slice elems spare => uptoBulkAll elems + uptoBulkAll spare + 1
  | .agg parts => uptoBulkAll parts + 1
  | .iface _ d => uptoBulk d + 1
  | .map entries => uptoBulkEntries entries + 1
  | .held _ => 1
def uptoBulkAll {H : Type} : List (DataW H) → Nat
  | [] => 0
  | d :: r => uptoBulk d + uptoBulkAll r
def uptoBulkEntries {H : Type} : List (Lit × DataW H) → Nat
  | [] => 0
  | x :: r => uptoBulkEntry x + uptoBulkEntries r
def uptoBulkEntry {H : Type} : Lit × DataW H → Nat
  | (.string bytes, d) => bytes.length + uptoBulk d + 1
  | (_, d) => uptoBulk d + 1
 end
def uptoSmall : (H : Type) → List (DataW H) → Bool := fun _ ds => decide (uptoBulkAll ds ≤ 1048576)
def OpenSpec.upto (s : _root_.Go.ChangeSpec) : _root_.Go.OpenSpec := { _root_.Go.OpenSpec.ofChange s with cond := some uptoSmall }

/-- 'spoorlaw20.LineMakes', WHERE WHAT IT READS IS OF BULK AT MOST 1048576: true; the input reads as it did. -/
def lineMakesUptoRow : OpenClaim := { program := "ytghklhdooemjdaa", sum := "9343aae9ab7fe5cd22527738f78baa9c53a749059037929535cda292fe0ac83f", func := "spoor/spoorlaw20.LineMakes", spec := "lineMakes", unfollowed := true, recurses := true, apart := false, narrowed := true }
def LineMakesUptoSaid : Prop := lineMakesUptoRow.holds Try.pinned (OpenSpec.upto lineMakesSpec)

/-- 'spoorlaw20.LineAsks', WHERE WHAT IT READS IS OF BULK AT MOST 1048576: true; the input reads as it did. -/
def lineAsksUptoRow : OpenClaim := { program := "ytghklhdooemjdaa", sum := "9343aae9ab7fe5cd22527738f78baa9c53a749059037929535cda292fe0ac83f", func := "spoor/spoorlaw20.LineAsks", spec := "lineAsks", unfollowed := true, recurses := true, apart := false, narrowed := true }
def LineAsksUptoSaid : Prop := lineAsksUptoRow.holds Try.pinned (OpenSpec.upto lineAsksSpec)

/-- 'spoorlaw20.LineTells', WHERE WHAT IT READS IS OF BULK AT MOST 1048576: true; the input reads as it did. -/
def lineTellsUptoRow : OpenClaim := { program := "ytghklhdooemjdaa", sum := "9343aae9ab7fe5cd22527738f78baa9c53a749059037929535cda292fe0ac83f", func := "spoor/spoorlaw20.LineTells", spec := "lineTells", unfollowed := true, recurses := true, apart := false, narrowed := true }
def LineTellsUptoSaid : Prop := lineTellsUptoRow.holds Try.pinned (OpenSpec.upto lineTellsSpec)

/-- 'spoorlaw20.LineCut', WHERE WHAT IT READS IS OF BULK AT MOST 1048576: true; the input reads as it did. -/
def lineCutUptoRow : OpenClaim := { program := "ytghklhdooemjdaa", sum := "9343aae9ab7fe5cd22527738f78baa9c53a749059037929535cda292fe0ac83f", func := "spoor/spoorlaw20.LineCut", spec := "lineCut", unfollowed := true, recurses := true, apart := false, narrowed := true }
def LineCutUptoSaid : Prop := lineCutUptoRow.holds Try.pinned (OpenSpec.upto lineCutSpec)

/-- 'spoorlaw20.LineWhole', WHERE WHAT IT READS IS OF BULK AT MOST 1048576: true; the input reads as it did. -/
def lineWholeUptoRow : OpenClaim := { program := "ytghklhdooemjdaa", sum := "9343aae9ab7fe5cd22527738f78baa9c53a749059037929535cda292fe0ac83f", func := "spoor/spoorlaw20.LineWhole", spec := "lineWhole", unfollowed := true, recurses := true, apart := false, narrowed := true }
def LineWholeUptoSaid : Prop := lineWholeUptoRow.holds Try.pinned (OpenSpec.upto lineWholeSpec)

end Rows
end Go.Proofs.Ytghklhdooemjdaa
