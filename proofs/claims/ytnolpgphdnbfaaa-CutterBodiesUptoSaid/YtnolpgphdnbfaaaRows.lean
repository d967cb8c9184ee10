/-
  No cell of these rows narrows 'for every input' (looked for: loops, veiled, ifaces, maps, wideKeys, modest, calm, conditions, laid).
  DERIVED. THE GIVEN ROWS OF THIS SEAT. 4 by the template 'for every input the law returns true; each argument reads behind the call as it read before'; 0 by the template 'total and deterministic' (their statements: YtnolpgphdnbfaaaTotals.lean).
  GIVEN WITH THE SEED: the statements are not yours to turn. If you find one false, say at which input.
  Laid BY PROGRAM, IN A SANDBOX (cutbox-rows.mjs): the forced cells as the released guide's own fill.sh prints them over the translation 817fe38accce41be… (all of the seat's roots in one cut). By AI agents, Wed Nov 11 2026. No macro, syntax, notation, axiom, sorry.
-/
import Derived.Test.YtnolpgphdnbfaaaChecked
import GoSem.Claim
import GoSem.ClaimJoined
import GoSem.ClaimMapViews
import Derived.JoinedTies
import Derived.KernelRfl
namespace Go.Proofs.Ytnolpgphdnbfaaa
/- THE CELL 'sum', in the pinned program and in every row, IS THE sha256 OF THE DUMP (.gsa) THAT YtnolpgphdnbfaaaProg.lean LOADS. Nothing in Lean hashes anything: it is a label: what it is worth is what the hold of that sum in a sandbox is worth. -/
noncomputable def Try.pinned : Pinned := { name := "ytnolpgphdnbfaaa", sum := "817fe38accce41be3280eb2c2fc17c103193e2ce7c13a603e6ed30bf6d934df0", checked := Try.checked }
namespace Rows
def none {H : Type} : Left H := { results := [], args := [] }

/-- 'spoorlaw12.CutterFeeds': WHATEVER THE INPUT: true; the input reads as it did. -/
def cutterFeedsSpec : ChangeSpec := { name := "cutterFeeds", fn := fun _ => fun
  | [d1, d2, d3] => { results := [.lit (.bool true)], args := [d1, d2, d3] }
  | _ => none }
def cutterFeedsRow : OpenClaim := { program := "ytnolpgphdnbfaaa", sum := "817fe38accce41be3280eb2c2fc17c103193e2ce7c13a603e6ed30bf6d934df0", func := "spoor/spoorlaw12.CutterFeeds", spec := "cutterFeeds", inPlace := ["internal/bytealg.IndexByteString"], apart := false }
def CutterFeedsSaid : Prop := cutterFeedsRow.holds Try.pinned (OpenSpec.ofChange cutterFeedsSpec)

/-- ITS FALSE NEIGHBOUR: 'it returns false'. Refute it at one input. -/
def cutterFeedsWrong : ChangeSpec := { name := "cutterFeeds", fn := fun _ => fun
  | [d1, d2, d3] => { results := [.lit (.bool false)], args := [d1, d2, d3] }
  | _ => none }
def CutterFeedsWrongFalsely : Prop := cutterFeedsRow.holds Try.pinned (OpenSpec.ofChange cutterFeedsWrong)

/-- 'spoorlaw12.CutterChunks': WHATEVER THE INPUT: true; the input reads as it did. -/
def cutterChunksSpec : ChangeSpec := { name := "cutterChunks", fn := fun _ => fun
  | [d1, d2] => { results := [.lit (.bool true)], args := [d1, d2] }
  | _ => none }
def cutterChunksRow : OpenClaim := { program := "ytnolpgphdnbfaaa", sum := "817fe38accce41be3280eb2c2fc17c103193e2ce7c13a603e6ed30bf6d934df0", func := "spoor/spoorlaw12.CutterChunks", spec := "cutterChunks", inPlace := ["internal/bytealg.IndexByteString"], apart := false }
def CutterChunksSaid : Prop := cutterChunksRow.holds Try.pinned (OpenSpec.ofChange cutterChunksSpec)

/-- ITS FALSE NEIGHBOUR: 'it returns false'. Refute it at one input. -/
def cutterChunksWrong : ChangeSpec := { name := "cutterChunks", fn := fun _ => fun
  | [d1, d2] => { results := [.lit (.bool false)], args := [d1, d2] }
  | _ => none }
def CutterChunksWrongFalsely : Prop := cutterChunksRow.holds Try.pinned (OpenSpec.ofChange cutterChunksWrong)

/-- 'spoorlaw12.CutterBodies': WHATEVER THE INPUT: true; the input reads as it did. -/
def cutterBodiesSpec : ChangeSpec := { name := "cutterBodies", fn := fun _ => fun
  | [d1, d2] => { results := [.lit (.bool true)], args := [d1, d2] }
  | _ => none }
def cutterBodiesRow : OpenClaim := { program := "ytnolpgphdnbfaaa", sum := "817fe38accce41be3280eb2c2fc17c103193e2ce7c13a603e6ed30bf6d934df0", func := "spoor/spoorlaw12.CutterBodies", spec := "cutterBodies", inPlace := ["internal/bytealg.IndexByteString"], apart := false }
def CutterBodiesSaid : Prop := cutterBodiesRow.holds Try.pinned (OpenSpec.ofChange cutterBodiesSpec)

/-- ITS FALSE NEIGHBOUR: 'it returns false'. Refute it at one input. -/
def cutterBodiesWrong : ChangeSpec := { name := "cutterBodies", fn := fun _ => fun
  | [d1, d2] => { results := [.lit (.bool false)], args := [d1, d2] }
  | _ => none }
def CutterBodiesWrongFalsely : Prop := cutterBodiesRow.holds Try.pinned (OpenSpec.ofChange cutterBodiesWrong)

/-- 'spoorlaw12.CutterSmall': WHATEVER THE INPUT: true; the input reads as it did. -/
def cutterSmallSpec : ChangeSpec := { name := "cutterSmall", fn := fun _ => fun
  | [d1, d2] => { results := [.lit (.bool true)], args := [d1, d2] }
  | _ => none }
def cutterSmallRow : OpenClaim := { program := "ytnolpgphdnbfaaa", sum := "817fe38accce41be3280eb2c2fc17c103193e2ce7c13a603e6ed30bf6d934df0", func := "spoor/spoorlaw12.CutterSmall", spec := "cutterSmall", inPlace := ["internal/bytealg.IndexByteString"], apart := false }
def CutterSmallSaid : Prop := cutterSmallRow.holds Try.pinned (OpenSpec.ofChange cutterSmallSpec)

/-- ITS FALSE NEIGHBOUR: 'it returns false'. Refute it at one input. -/
def cutterSmallWrong : ChangeSpec := { name := "cutterSmall", fn := fun _ => fun
  | [d1, d2] => { results := [.lit (.bool false)], args := [d1, d2] }
  | _ => none }
def CutterSmallWrongFalsely : Prop := cutterSmallRow.holds Try.pinned (OpenSpec.ofChange cutterSmallWrong)

/- THE SECOND FORM. 'bulk': how many values and letters a reading holds, each counted each time it is reached (what is shared counts as often as it is met; a slice's spare places count too). A statement '..UptoSaid' is the law's where the arguments, and the package variables that the reading takes, are together of bulk at most 1048576: NARROWER than '..Said'. Prove '..Said' where nothing that the law and all that it calls make is longer than what came in: it says more and counts as full. Else prove '..UptoSaid'. A law counts once. -/
mutual
def uptoBulk {H : Type} : DataW H → Nat
  | .lit (.string bytes) => bytes.length + 1
  | .lit _ => 1
  | .nil => 1
  | .ptr d => uptoBulk d + 1
  | .slice elems spare => uptoBulkAll elems + uptoBulkAll spare + 1
  | .agg parts => uptoBulkAll parts + 1
  | .iface _ d => uptoBulk d + 1
  | .map entries => uptoBulkEntries entries + 1
  | .held _ => 1
def uptoBulkAll {H : Type} : List (DataW H) → Nat
  | [] => 0
  | d :: r => uptoBulk d + uptoBulkAll r
def uptoBulkEntries {H : Type} : List (Lit × DataW H) → Nat
  | [] => 0
  | x :: r => uptoBulkEntry x + uptoBulkEntries r
def uptoBulkEntry {H : Type} : Lit × DataW H → Nat
  | (.string bytes, d) => bytes.length + uptoBulk d + 1
  | (_, d) => uptoBulk d + 1
 end
def uptoSmall : (H : Type) → List (DataW H) → Bool := fun _ ds => decide (uptoBulkAll ds ≤ 1048576)
def OpenSpec.upto (s : _root_.Go.ChangeSpec) : _root_.Go.OpenSpec := { _root_.Go.OpenSpec.ofChange s with cond := some uptoSmall }

/-- 'spoorlaw12.CutterFeeds', WHERE WHAT IT READS IS OF BULK AT MOST 1048576: true; the input reads as it did. -/
def cutterFeedsUptoRow : OpenClaim := { program := "ytnolpgphdnbfaaa", sum := "817fe38accce41be3280eb2c2fc17c103193e2ce7c13a603e6ed30bf6d934df0", func := "spoor/spoorlaw12.CutterFeeds", spec := "cutterFeeds", inPlace := ["internal/bytealg.IndexByteString"], apart := false, narrowed := true }
def CutterFeedsUptoSaid : Prop := cutterFeedsUptoRow.holds Try.pinned (OpenSpec.upto cutterFeedsSpec)

/-- 'spoorlaw12.CutterChunks', WHERE WHAT IT READS IS OF BULK AT MOST 1048576: true; the input reads as it did. -/
def cutterChunksUptoRow : OpenClaim := { program := "ytnolpgphdnbfaaa", sum := "817fe38accce41be3280eb2c2fc17c103193e2ce7c13a603e6ed30bf6d934df0", func := "spoor/spoorlaw12.CutterChunks", spec := "cutterChunks", inPlace := ["internal/bytealg.IndexByteString"], apart := false, narrowed := true }
def CutterChunksUptoSaid : Prop := cutterChunksUptoRow.holds Try.pinned (OpenSpec.upto cutterChunksSpec)

/-- 'spoorlaw12.CutterBodies', WHERE WHAT IT READS IS OF BULK AT MOST 1048576: true; the input reads as it did. -/
def cutterBodiesUptoRow : OpenClaim := { program := "ytnolpgphdnbfaaa", sum := "817fe38accce41be3280eb2c2fc17c103193e2ce7c13a603e6ed30bf6d934df0", func := "spoor/spoorlaw12.CutterBodies", spec := "cutterBodies", inPlace := ["internal/bytealg.IndexByteString"], apart := false, narrowed := true }
def CutterBodiesUptoSaid : Prop := cutterBodiesUptoRow.holds Try.pinned (OpenSpec.upto cutterBodiesSpec)

/-- 'spoorlaw12.CutterSmall', WHERE WHAT IT READS IS OF BULK AT MOST 1048576: true; the input reads as it did. -/
def cutterSmallUptoRow : OpenClaim := { program := "ytnolpgphdnbfaaa", sum := "817fe38accce41be3280eb2c2fc17c103193e2ce7c13a603e6ed30bf6d934df0", func := "spoor/spoorlaw12.CutterSmall", spec := "cutterSmall", inPlace := ["internal/bytealg.IndexByteString"], apart := false, narrowed := true }
def CutterSmallUptoSaid : Prop := cutterSmallUptoRow.holds Try.pinned (OpenSpec.upto cutterSmallSpec)

end Rows
end Go.Proofs.Ytnolpgphdnbfaaa
