/-
  No cell of these rows narrows 'for every input' (looked for: loops, veiled, ifaces, maps, wideKeys, modest, calm, conditions, laid).
  DERIVED. THE GIVEN ROWS OF THIS SEAT. 5 by the template 'for every input the law returns true; each argument reads behind the call as it read before'; 0 by the template 'total and deterministic' (their statements: YthkdfojmhloofaaTotals.lean).
  GIVEN WITH THE SEED: the statements are not yours to turn. If you find one false, say at which input.
  Laid BY PROGRAM, IN A SANDBOX (cutbox-rows.mjs): the forced cells as the released guide's own fill.sh prints them over the translation 6256724d8c4a67b7… (all of the seat's roots in one cut). By AI agents, Wed Nov 11 2026. No macro, syntax, notation, axiom, sorry.
-/
import Derived.Test.YthkdfojmhloofaaChecked
import GoSem.Claim
import GoSem.ClaimJoined
import GoSem.ClaimMapViews
import Derived.JoinedTies
import Derived.KernelRfl
namespace Go.Proofs.Ythkdfojmhloofaa
/- THE CELL 'sum', in the pinned program and in every row, IS THE sha256 OF THE DUMP (.gsa) THAT YthkdfojmhloofaaProg.lean LOADS. Nothing in Lean hashes anything: it is a label: what it is worth is what the hold of that sum in a sandbox is worth. -/
noncomputable def Try.pinned : Pinned := { name := "ythkdfojmhloofaa", sum := "6256724d8c4a67b73fd4f203685a6a000c5585a4117c8ace74c69b40f2b7f2fa", checked := Try.checked }
namespace Rows
def none {H : Type} : Left H := { results := [], args := [] }

/-- 'spoorlaw13.GramReads': WHATEVER THE INPUT: true; the input reads as it did. -/
def gramReadsSpec : ChangeSpec := { name := "gramReads", fn := fun _ => fun
  | [d1, d2] => { results := [.lit (.bool true)], args := [d1, d2] }
  | _ => none }
def gramReadsRow : OpenClaim := { program := "ythkdfojmhloofaa", sum := "6256724d8c4a67b73fd4f203685a6a000c5585a4117c8ace74c69b40f2b7f2fa", func := "spoor/spoorlaw13.GramReads", spec := "gramReads", inPlace := ["internal/abi.NoEscape", "internal/bytealg.IndexByteString"], unfollowed := true, recurses := true, apart := false }
def GramReadsSaid : Prop := gramReadsRow.holds Try.pinned (OpenSpec.ofChange gramReadsSpec)

/-- ITS FALSE NEIGHBOUR: 'it returns false'. Refute it at one input. -/
def gramReadsWrong : ChangeSpec := { name := "gramReads", fn := fun _ => fun
  | [d1, d2] => { results := [.lit (.bool false)], args := [d1, d2] }
  | _ => none }
def GramReadsWrongFalsely : Prop := gramReadsRow.holds Try.pinned (OpenSpec.ofChange gramReadsWrong)

/-- 'spoorlaw13.GramStreams': WHATEVER THE INPUT: true; the input reads as it did. -/
def gramStreamsSpec : ChangeSpec := { name := "gramStreams", fn := fun _ => fun
  | [d] => { results := [.lit (.bool true)], args := [d] }
  | _ => none }
def gramStreamsRow : OpenClaim := { program := "ythkdfojmhloofaa", sum := "6256724d8c4a67b73fd4f203685a6a000c5585a4117c8ace74c69b40f2b7f2fa", func := "spoor/spoorlaw13.GramStreams", spec := "gramStreams", inPlace := ["internal/abi.NoEscape", "internal/bytealg.IndexByteString"], unfollowed := true, recurses := true, apart := false }
def GramStreamsSaid : Prop := gramStreamsRow.holds Try.pinned (OpenSpec.ofChange gramStreamsSpec)

/-- ITS FALSE NEIGHBOUR: 'it returns false'. Refute it at one input. -/
def gramStreamsWrong : ChangeSpec := { name := "gramStreams", fn := fun _ => fun
  | [d] => { results := [.lit (.bool false)], args := [d] }
  | _ => none }
def GramStreamsWrongFalsely : Prop := gramStreamsRow.holds Try.pinned (OpenSpec.ofChange gramStreamsWrong)

/-- 'spoorlaw13.GramBack': WHATEVER THE INPUT: true; the input reads as it did. -/
def gramBackSpec : ChangeSpec := { name := "gramBack", fn := fun _ => fun
  | [d1, d2] => { results := [.lit (.bool true)], args := [d1, d2] }
  | _ => none }
def gramBackRow : OpenClaim := { program := "ythkdfojmhloofaa", sum := "6256724d8c4a67b73fd4f203685a6a000c5585a4117c8ace74c69b40f2b7f2fa", func := "spoor/spoorlaw13.GramBack", spec := "gramBack", inPlace := ["internal/abi.NoEscape", "internal/bytealg.IndexByteString"], unfollowed := true, recurses := true, apart := false }
def GramBackSaid : Prop := gramBackRow.holds Try.pinned (OpenSpec.ofChange gramBackSpec)

/-- ITS FALSE NEIGHBOUR: 'it returns false'. Refute it at one input. -/
def gramBackWrong : ChangeSpec := { name := "gramBack", fn := fun _ => fun
  | [d1, d2] => { results := [.lit (.bool false)], args := [d1, d2] }
  | _ => none }
def GramBackWrongFalsely : Prop := gramBackRow.holds Try.pinned (OpenSpec.ofChange gramBackWrong)

/-- 'spoorlaw13.GramNoise': WHATEVER THE INPUT: true; the input reads as it did. -/
def gramNoiseSpec : ChangeSpec := { name := "gramNoise", fn := fun _ => fun
  | [d1, d2, d3] => { results := [.lit (.bool true)], args := [d1, d2, d3] }
  | _ => none }
def gramNoiseRow : OpenClaim := { program := "ythkdfojmhloofaa", sum := "6256724d8c4a67b73fd4f203685a6a000c5585a4117c8ace74c69b40f2b7f2fa", func := "spoor/spoorlaw13.GramNoise", spec := "gramNoise", inPlace := ["internal/abi.NoEscape", "internal/bytealg.IndexByteString"], unfollowed := true, recurses := true, apart := false }
def GramNoiseSaid : Prop := gramNoiseRow.holds Try.pinned (OpenSpec.ofChange gramNoiseSpec)

/-- ITS FALSE NEIGHBOUR: 'it returns false'. Refute it at one input. -/
def gramNoiseWrong : ChangeSpec := { name := "gramNoise", fn := fun _ => fun
  | [d1, d2, d3] => { results := [.lit (.bool false)], args := [d1, d2, d3] }
  | _ => none }
def GramNoiseWrongFalsely : Prop := gramNoiseRow.holds Try.pinned (OpenSpec.ofChange gramNoiseWrong)

/-- 'spoorlaw13.GramCut': WHATEVER THE INPUT: true; the input reads as it did. -/
def gramCutSpec : ChangeSpec := { name := "gramCut", fn := fun _ => fun
  | [d] => { results := [.lit (.bool true)], args := [d] }
  | _ => none }
def gramCutRow : OpenClaim := { program := "ythkdfojmhloofaa", sum := "6256724d8c4a67b73fd4f203685a6a000c5585a4117c8ace74c69b40f2b7f2fa", func := "spoor/spoorlaw13.GramCut", spec := "gramCut", inPlace := ["internal/abi.NoEscape", "internal/bytealg.IndexByteString"], unfollowed := true, recurses := true, apart := false }
def GramCutSaid : Prop := gramCutRow.holds Try.pinned (OpenSpec.ofChange gramCutSpec)

/-- ITS FALSE NEIGHBOUR: 'it returns false'. Refute it at one input. -/
def gramCutWrong : ChangeSpec := { name := "gramCut", fn := fun _ => fun
  | [d] => { results := [.lit (.bool false)], args := [d] }
  | _ => none }
def GramCutWrongFalsely : Prop := gramCutRow.holds Try.pinned (OpenSpec.ofChange gramCutWrong)

/- THE SECOND FORM. 'bulk': how many values and letters a reading holds, each counted each time it is reached (what is shared counts as often as it is met; a slice's spare places count too). A statement '..UptoSaid' is the law's where the arguments, and the package variables that the reading takes, are together of bulk at most 1048576: NARROWER than '..Said'. Prove '..Said' where nothing that the law and all that it calls make is longer than what came in: it says more and counts as full. Else prove '..UptoSaid'. A law counts once. -/
mutual
def uptoBulk {H : Type} : DataW H → Nat
  | .lit (.string bytes) => bytes.length + 1
  | .lit _ => 1
  | .nil => 1
  | .ptr d => uptoBulk d + 1
  | .slice elems spare => uptoBulkAll elems + uptoBulkAll spare + 1
  | .agg parts => uptoBulkAll parts + 1
  | .iface _ d => uptoBulk d + 1
  | .map entries => uptoBulkEntries entries + 1
  | .held _ => 1
def uptoBulkAll {H : Type} : List (DataW H) → Nat
  | [] => 0
  | d :: r => uptoBulk d + uptoBulkAll r
def uptoBulkEntries {H : Type} : List (Lit × DataW H) → Nat
  | [] => 0
  | x :: r => uptoBulkEntry x + uptoBulkEntries r
def uptoBulkEntry {H : Type} : Lit × DataW H → Nat
  | (.string bytes, d) => bytes.length + uptoBulk d + 1
  | (_, d) => uptoBulk d + 1
 end
def uptoSmall : (H : Type) → List (DataW H) → Bool := fun _ ds => decide (uptoBulkAll ds ≤ 1048576)
def OpenSpec.upto (s : _root_.Go.ChangeSpec) : _root_.Go.OpenSpec := { _root_.Go.OpenSpec.ofChange s with cond := some uptoSmall }

/-- 'spoorlaw13.GramReads', WHERE WHAT IT READS IS OF BULK AT MOST 1048576: true; the input reads as it did. -/
def gramReadsUptoRow : OpenClaim := { program := "ythkdfojmhloofaa", sum := "6256724d8c4a67b73fd4f203685a6a000c5585a4117c8ace74c69b40f2b7f2fa", func := "spoor/spoorlaw13.GramReads", spec := "gramReads", inPlace := ["internal/abi.NoEscape", "internal/bytealg.IndexByteString"], unfollowed := true, recurses := true, apart := false, narrowed := true }
def GramReadsUptoSaid : Prop := gramReadsUptoRow.holds Try.pinned (OpenSpec.upto gramReadsSpec)

/-- 'spoorlaw13.GramStreams', WHERE WHAT IT READS IS OF BULK AT MOST 1048576: true; the input reads as it did. -/
def gramStreamsUptoRow : OpenClaim := { program := "ythkdfojmhloofaa", sum := "6256724d8c4a67b73fd4f203685a6a000c5585a4117c8ace74c69b40f2b7f2fa", func := "spoor/spoorlaw13.GramStreams", spec := "gramStreams", inPlace := ["internal/abi.NoEscape", "internal/bytealg.IndexByteString"], unfollowed := true, recurses := true, apart := false, narrowed := true }
def GramStreamsUptoSaid : Prop := gramStreamsUptoRow.holds Try.pinned (OpenSpec.upto gramStreamsSpec)

/-- 'spoorlaw13.GramBack', WHERE WHAT IT READS IS OF BULK AT MOST 1048576: true; the input reads as it did. -/
def gramBackUptoRow : OpenClaim := { program := "ythkdfojmhloofaa", sum := "6256724d8c4a67b73fd4f203685a6a000c5585a4117c8ace74c69b40f2b7f2fa", func := "spoor/spoorlaw13.GramBack", spec := "gramBack", inPlace := ["internal/abi.NoEscape", "internal/bytealg.IndexByteString"], unfollowed := true, recurses := true, apart := false, narrowed := true }
def GramBackUptoSaid : Prop := gramBackUptoRow.holds Try.pinned (OpenSpec.upto gramBackSpec)

/-- 'spoorlaw13.GramNoise', WHERE WHAT IT READS IS OF BULK AT MOST 1048576: true; the input reads as it did. -/
def gramNoiseUptoRow : OpenClaim := { program := "ythkdfojmhloofaa", sum := "6256724d8c4a67b73fd4f203685a6a000c5585a4117c8ace74c69b40f2b7f2fa", func := "spoor/spoorlaw13.GramNoise", spec := "gramNoise", inPlace := ["internal/abi.NoEscape", "internal/bytealg.IndexByteString"], unfollowed := true, recurses := true, apart := false, narrowed := true }
def GramNoiseUptoSaid : Prop := gramNoiseUptoRow.holds Try.pinned (OpenSpec.upto gramNoiseSpec)

/-- 'spoorlaw13.GramCut', WHERE WHAT IT READS IS OF BULK AT MOST 1048576: true; the input reads as it did. -/
def gramCutUptoRow : OpenClaim := { program := "ythkdfojmhloofaa", sum := "6256724d8c4a67b73fd4f203685a6a000c5585a4117c8ace74c69b40f2b7f2fa", func := "spoor/spoorlaw13.GramCut", spec := "gramCut", inPlace := ["internal/abi.NoEscape", "internal/bytealg.IndexByteString"], unfollowed := true, recurses := true, apart := false, narrowed := true }
def GramCutUptoSaid : Prop := gramCutUptoRow.holds Try.pinned (OpenSpec.upto gramCutSpec)

end Rows
end Go.Proofs.Ythkdfojmhloofaa
