/-
  No cell of these rows narrows 'for every input' (looked for: loops, veiled, ifaces, maps, wideKeys, modest, calm, conditions, laid).
  DERIVED. THE GIVEN ROWS OF THIS SEAT. 5 by the template 'for every input the law returns true; each argument reads behind the call as it read before'; 0 by the template 'total and deterministic' (their statements: YtkjjidanakmkeaaTotals.lean).
  GIVEN WITH THE SEED: the statements are not yours to turn. If you find one false, say at which input.
  Laid BY PROGRAM, IN A SANDBOX (cutbox-rows.mjs): the forced cells as the released guide's own fill.sh prints them over the translation fd7b0bf7c25b7feb… (all of the seat's roots in one cut). By AI agents, Wed Nov 11 2026. No macro, syntax, notation, axiom, sorry.
-/
import Derived.Test.YtkjjidanakmkeaaChecked
import GoSem.Claim
import GoSem.ClaimJoined
import GoSem.ClaimMapViews
import Derived.JoinedTies
import Derived.KernelRfl
namespace Go.Proofs.Ytkjjidanakmkeaa
/- THE CELL 'sum', in the pinned program and in every row, IS THE sha256 OF THE DUMP (.gsa) THAT YtkjjidanakmkeaaProg.lean LOADS. Nothing in Lean hashes anything: it is a label: what it is worth is what the hold of that sum in a sandbox is worth. -/
noncomputable def Try.pinned : Pinned := { name := "ytkjjidanakmkeaa", sum := "fd7b0bf7c25b7feba68a7eed32145f8e33f80228339f144d47390bad1cf1a695", checked := Try.checked }
namespace Rows
def none {H : Type} : Left H := { results := [], args := [] }

/-- 'spoorlaw19.IvlMakes': WHATEVER THE INPUT: true; the input reads as it did. -/
def ivlMakesSpec : ChangeSpec := { name := "ivlMakes", fn := fun _ => fun
  | [d1, d2] => { results := [.lit (.bool true)], args := [d1, d2] }
  | _ => none }
def ivlMakesRow : OpenClaim := { program := "ytkjjidanakmkeaa", sum := "fd7b0bf7c25b7feba68a7eed32145f8e33f80228339f144d47390bad1cf1a695", func := "spoor/spoorlaw19.IvlMakes", spec := "ivlMakes", unfollowed := true, recurses := true, apart := false }
def IvlMakesSaid : Prop := ivlMakesRow.holds Try.pinned (OpenSpec.ofChange ivlMakesSpec)

/-- ITS FALSE NEIGHBOUR: 'it returns false'. Refute it at one input. -/
def ivlMakesWrong : ChangeSpec := { name := "ivlMakes", fn := fun _ => fun
  | [d1, d2] => { results := [.lit (.bool false)], args := [d1, d2] }
  | _ => none }
def IvlMakesWrongFalsely : Prop := ivlMakesRow.holds Try.pinned (OpenSpec.ofChange ivlMakesWrong)

/-- 'spoorlaw19.IvlSets': WHATEVER THE INPUT: true; the input reads as it did. -/
def ivlSetsSpec : ChangeSpec := { name := "ivlSets", fn := fun _ => fun
  | [d1, d2, d3] => { results := [.lit (.bool true)], args := [d1, d2, d3] }
  | _ => none }
def ivlSetsRow : OpenClaim := { program := "ytkjjidanakmkeaa", sum := "fd7b0bf7c25b7feba68a7eed32145f8e33f80228339f144d47390bad1cf1a695", func := "spoor/spoorlaw19.IvlSets", spec := "ivlSets", unfollowed := true, recurses := true, apart := false }
def IvlSetsSaid : Prop := ivlSetsRow.holds Try.pinned (OpenSpec.ofChange ivlSetsSpec)

/-- ITS FALSE NEIGHBOUR: 'it returns false'. Refute it at one input. -/
def ivlSetsWrong : ChangeSpec := { name := "ivlSets", fn := fun _ => fun
  | [d1, d2, d3] => { results := [.lit (.bool false)], args := [d1, d2, d3] }
  | _ => none }
def IvlSetsWrongFalsely : Prop := ivlSetsRow.holds Try.pinned (OpenSpec.ofChange ivlSetsWrong)

/-- 'spoorlaw19.IvlHas': WHATEVER THE INPUT: true; the input reads as it did. -/
def ivlHasSpec : ChangeSpec := { name := "ivlHas", fn := fun _ => fun
  | [d1, d2, d3, d4] => { results := [.lit (.bool true)], args := [d1, d2, d3, d4] }
  | _ => none }
def ivlHasRow : OpenClaim := { program := "ytkjjidanakmkeaa", sum := "fd7b0bf7c25b7feba68a7eed32145f8e33f80228339f144d47390bad1cf1a695", func := "spoor/spoorlaw19.IvlHas", spec := "ivlHas", unfollowed := true, recurses := true, apart := false }
def IvlHasSaid : Prop := ivlHasRow.holds Try.pinned (OpenSpec.ofChange ivlHasSpec)

/-- ITS FALSE NEIGHBOUR: 'it returns false'. Refute it at one input. -/
def ivlHasWrong : ChangeSpec := { name := "ivlHas", fn := fun _ => fun
  | [d1, d2, d3, d4] => { results := [.lit (.bool false)], args := [d1, d2, d3, d4] }
  | _ => none }
def IvlHasWrongFalsely : Prop := ivlHasRow.holds Try.pinned (OpenSpec.ofChange ivlHasWrong)

/-- 'spoorlaw19.IvlLong': WHATEVER THE INPUT: true; the input reads as it did. -/
def ivlLongSpec : ChangeSpec := { name := "ivlLong", fn := fun _ => fun
  | [d1, d2, d3] => { results := [.lit (.bool true)], args := [d1, d2, d3] }
  | _ => none }
def ivlLongRow : OpenClaim := { program := "ytkjjidanakmkeaa", sum := "fd7b0bf7c25b7feba68a7eed32145f8e33f80228339f144d47390bad1cf1a695", func := "spoor/spoorlaw19.IvlLong", spec := "ivlLong", unfollowed := true, recurses := true, apart := false }
def IvlLongSaid : Prop := ivlLongRow.holds Try.pinned (OpenSpec.ofChange ivlLongSpec)

/-- ITS FALSE NEIGHBOUR: 'it returns false'. Refute it at one input. -/
def ivlLongWrong : ChangeSpec := { name := "ivlLong", fn := fun _ => fun
  | [d1, d2, d3] => { results := [.lit (.bool false)], args := [d1, d2, d3] }
  | _ => none }
def IvlLongWrongFalsely : Prop := ivlLongRow.holds Try.pinned (OpenSpec.ofChange ivlLongWrong)

/-- 'spoorlaw19.IvlTwice': WHATEVER THE INPUT: true; the input reads as it did. -/
def ivlTwiceSpec : ChangeSpec := { name := "ivlTwice", fn := fun _ => fun
  | [d1, d2] => { results := [.lit (.bool true)], args := [d1, d2] }
  | _ => none }
def ivlTwiceRow : OpenClaim := { program := "ytkjjidanakmkeaa", sum := "fd7b0bf7c25b7feba68a7eed32145f8e33f80228339f144d47390bad1cf1a695", func := "spoor/spoorlaw19.IvlTwice", spec := "ivlTwice", unfollowed := true, recurses := true, apart := false }
def IvlTwiceSaid : Prop := ivlTwiceRow.holds Try.pinned (OpenSpec.ofChange ivlTwiceSpec)

/-- ITS FALSE NEIGHBOUR: 'it returns false'. Refute it at one input. -/
def ivlTwiceWrong : ChangeSpec := { name := "ivlTwice", fn := fun _ => fun
  | [d1, d2] => { results := [.lit (.bool false)], args := [d1, d2] }
  | _ => none }
def IvlTwiceWrongFalsely : Prop := ivlTwiceRow.holds Try.pinned (OpenSpec.ofChange ivlTwiceWrong)

/- THE SECOND FORM. 'bulk': how many values and letters a reading holds, each counted each time it is reached (what is shared counts as often as it is met; a slice's spare places count too). A statement '..UptoSaid' is the law's where the arguments, and the package variables that the reading takes, are together of bulk at most 1048576: NARROWER than '..Said'. Prove '..Said' where nothing that the law and all that it calls make is longer than what came in: it says more and counts as full. Else prove '..UptoSaid'. A law counts once. -/
mutual
def uptoBulk {H : Type} : DataW H → Nat
  | .lit (.string bytes) => bytes.length + 1
  | .lit _ => 1
  | .nil => 1
  | .ptr d => uptoBulk d + 1
  | .slice elems spare => uptoBulkAll elems + uptoBulkAll spare + 1
  | .agg parts => uptoBulkAll parts + 1
  | .iface _ d => uptoBulk d + 1
  | .map entries => uptoBulkEntries entries + 1
  | .held _ => 1
def uptoBulkAll {H : Type} : List (DataW H) → Nat
  | [] => 0
  | d :: r => uptoBulk d + uptoBulkAll r
def uptoBulkEntries {H : Type} : List (Lit × DataW H) → Nat
  | [] => 0
  | x :: r => uptoBulkEntry x + uptoBulkEntries r
def uptoBulkEntry {H : Type} : Lit × DataW H → Nat
  | (.string bytes, d) => bytes.length + uptoBulk d + 1
  | (_, d) => uptoBulk d + 1
 end
def uptoSmall : (H : Type) → List (DataW H) → Bool := fun _ ds => decide (uptoBulkAll ds ≤ 1048576)
def OpenSpec.upto (s : _root_.Go.ChangeSpec) : _root_.Go.OpenSpec := { _root_.Go.OpenSpec.ofChange s with cond := some uptoSmall }

/-- 'spoorlaw19.IvlMakes', WHERE WHAT IT READS IS OF BULK AT MOST 1048576: true; the input reads as it did. -/
def ivlMakesUptoRow : OpenClaim := { program := "ytkjjidanakmkeaa", sum := "fd7b0bf7c25b7feba68a7eed32145f8e33f80228339f144d47390bad1cf1a695", func := "spoor/spoorlaw19.IvlMakes", spec := "ivlMakes", unfollowed := true, recurses := true, apart := false, narrowed := true }
def IvlMakesUptoSaid : Prop := ivlMakesUptoRow.holds Try.pinned (OpenSpec.upto ivlMakesSpec)

/-- 'spoorlaw19.IvlSets', WHERE WHAT IT READS IS OF BULK AT MOST 1048576: true; the input reads as it did. -/
def ivlSetsUptoRow : OpenClaim := { program := "ytkjjidanakmkeaa", sum := "fd7b0bf7c25b7feba68a7eed32145f8e33f80228339f144d47390bad1cf1a695", func := "spoor/spoorlaw19.IvlSets", spec := "ivlSets", unfollowed := true, recurses := true, apart := false, narrowed := true }
def IvlSetsUptoSaid : Prop := ivlSetsUptoRow.holds Try.pinned (OpenSpec.upto ivlSetsSpec)

/-- 'spoorlaw19.IvlHas', WHERE WHAT IT READS IS OF BULK AT MOST 1048576: true; the input reads as it did. -/
def ivlHasUptoRow : OpenClaim := { program := "ytkjjidanakmkeaa", sum := "fd7b0bf7c25b7feba68a7eed32145f8e33f80228339f144d47390bad1cf1a695", func := "spoor/spoorlaw19.IvlHas", spec := "ivlHas", unfollowed := true, recurses := true, apart := false, narrowed := true }
def IvlHasUptoSaid : Prop := ivlHasUptoRow.holds Try.pinned (OpenSpec.upto ivlHasSpec)

/-- 'spoorlaw19.IvlLong', WHERE WHAT IT READS IS OF BULK AT MOST 1048576: true; the input reads as it did. -/
def ivlLongUptoRow : OpenClaim := { program := "ytkjjidanakmkeaa", sum := "fd7b0bf7c25b7feba68a7eed32145f8e33f80228339f144d47390bad1cf1a695", func := "spoor/spoorlaw19.IvlLong", spec := "ivlLong", unfollowed := true, recurses := true, apart := false, narrowed := true }
def IvlLongUptoSaid : Prop := ivlLongUptoRow.holds Try.pinned (OpenSpec.upto ivlLongSpec)

/-- 'spoorlaw19.IvlTwice', WHERE WHAT IT READS IS OF BULK AT MOST 1048576: true; the input reads as it did. -/
def ivlTwiceUptoRow : OpenClaim := { program := "ytkjjidanakmkeaa", sum := "fd7b0bf7c25b7feba68a7eed32145f8e33f80228339f144d47390bad1cf1a695", func := "spoor/spoorlaw19.IvlTwice", spec := "ivlTwice", unfollowed := true, recurses := true, apart := false, narrowed := true }
def IvlTwiceUptoSaid : Prop := ivlTwiceUptoRow.holds Try.pinned (OpenSpec.upto ivlTwiceSpec)

end Rows
end Go.Proofs.Ytkjjidanakmkeaa
