/-
  No cell of these rows narrows 'for every input' (looked for: loops, veiled, ifaces, maps, wideKeys, modest, calm, conditions, laid).
  DERIVED. THE GIVEN ROWS OF THIS SEAT. 4 by the template 'for every input the law returns true; each argument reads behind the call as it read before'; 0 by the template 'total and deterministic' (their statements: YtalkiicjdafhdaaTotals.lean).
  GIVEN WITH THE SEED: the statements are not yours to turn. If you find one false, say at which input.
  Laid BY PROGRAM, IN A SANDBOX (cutbox-rows.mjs): the forced cells as the released guide's own fill.sh prints them over the translation 244efbca7dde2ff2… (all of the seat's roots in one cut). By AI agents, Wed Nov 11 2026. No macro, syntax, notation, axiom, sorry.
-/
import Derived.Test.YtalkiicjdafhdaaChecked
import GoSem.Claim
import GoSem.ClaimJoined
import GoSem.ClaimMapViews
import Derived.JoinedTies
import Derived.KernelRfl
namespace Go.Proofs.Ytalkiicjdafhdaa
/- THE CELL 'sum', in the pinned program and in every row, IS THE sha256 OF THE DUMP (.gsa) THAT YtalkiicjdafhdaaProg.lean LOADS. Nothing in Lean hashes anything: it is a label: what it is worth is what the hold of that sum in a sandbox is worth. -/
noncomputable def Try.pinned : Pinned := { name := "ytalkiicjdafhdaa", sum := "244efbca7dde2ff2187f897708b5b236872abadb1b2172693858aa8947a2d97a", checked := Try.checked }
namespace Rows
def none {H : Type} : Left H := { results := [], args := [] }

/-- 'spoorlaw16.LinksChange': WHATEVER THE INPUT: true; the input reads as it did. -/
def linksChangeSpec : ChangeSpec := { name := "linksChange", fn := fun _ => fun
  | [d1, d2, d3] => { results := [.lit (.bool true)], args := [d1, d2, d3] }
  | _ => none }
def linksChangeRow : OpenClaim := { program := "ytalkiicjdafhdaa", sum := "244efbca7dde2ff2187f897708b5b236872abadb1b2172693858aa8947a2d97a", func := "spoor/spoorlaw16.LinksChange", spec := "linksChange", inPlace := ["slices.overlaps[spoor/api.Link]"], unfollowed := true, recurses := true, apart := false }
def LinksChangeSaid : Prop := linksChangeRow.holds Try.pinned (OpenSpec.ofChange linksChangeSpec)

/-- ITS FALSE NEIGHBOUR: 'it returns false'. Refute it at one input. -/
def linksChangeWrong : ChangeSpec := { name := "linksChange", fn := fun _ => fun
  | [d1, d2, d3] => { results := [.lit (.bool false)], args := [d1, d2, d3] }
  | _ => none }
def LinksChangeWrongFalsely : Prop := linksChangeRow.holds Try.pinned (OpenSpec.ofChange linksChangeWrong)

/-- 'spoorlaw16.LinksAsk': WHATEVER THE INPUT: true; the input reads as it did. -/
def linksAskSpec : ChangeSpec := { name := "linksAsk", fn := fun _ => fun
  | [d1, d2] => { results := [.lit (.bool true)], args := [d1, d2] }
  | _ => none }
def linksAskRow : OpenClaim := { program := "ytalkiicjdafhdaa", sum := "244efbca7dde2ff2187f897708b5b236872abadb1b2172693858aa8947a2d97a", func := "spoor/spoorlaw16.LinksAsk", spec := "linksAsk", inPlace := ["slices.overlaps[spoor/api.Link]"], unfollowed := true, recurses := true, apart := false }
def LinksAskSaid : Prop := linksAskRow.holds Try.pinned (OpenSpec.ofChange linksAskSpec)

/-- ITS FALSE NEIGHBOUR: 'it returns false'. Refute it at one input. -/
def linksAskWrong : ChangeSpec := { name := "linksAsk", fn := fun _ => fun
  | [d1, d2] => { results := [.lit (.bool false)], args := [d1, d2] }
  | _ => none }
def LinksAskWrongFalsely : Prop := linksAskRow.holds Try.pinned (OpenSpec.ofChange linksAskWrong)

/-- 'spoorlaw16.LinksFound': WHATEVER THE INPUT: true; the input reads as it did. -/
def linksFoundSpec : ChangeSpec := { name := "linksFound", fn := fun _ => fun
  | [d1, d2, d3, d4] => { results := [.lit (.bool true)], args := [d1, d2, d3, d4] }
  | _ => none }
def linksFoundRow : OpenClaim := { program := "ytalkiicjdafhdaa", sum := "244efbca7dde2ff2187f897708b5b236872abadb1b2172693858aa8947a2d97a", func := "spoor/spoorlaw16.LinksFound", spec := "linksFound", inPlace := ["slices.overlaps[spoor/api.Link]"], unfollowed := true, recurses := true, apart := false }
def LinksFoundSaid : Prop := linksFoundRow.holds Try.pinned (OpenSpec.ofChange linksFoundSpec)

/-- ITS FALSE NEIGHBOUR: 'it returns false'. Refute it at one input. -/
def linksFoundWrong : ChangeSpec := { name := "linksFound", fn := fun _ => fun
  | [d1, d2, d3, d4] => { results := [.lit (.bool false)], args := [d1, d2, d3, d4] }
  | _ => none }
def LinksFoundWrongFalsely : Prop := linksFoundRow.holds Try.pinned (OpenSpec.ofChange linksFoundWrong)

/-- 'spoorlaw16.LinksPeers': WHATEVER THE INPUT: true; the input reads as it did. -/
def linksPeersSpec : ChangeSpec := { name := "linksPeers", fn := fun _ => fun
  | [d1, d2] => { results := [.lit (.bool true)], args := [d1, d2] }
  | _ => none }
def linksPeersRow : OpenClaim := { program := "ytalkiicjdafhdaa", sum := "244efbca7dde2ff2187f897708b5b236872abadb1b2172693858aa8947a2d97a", func := "spoor/spoorlaw16.LinksPeers", spec := "linksPeers", inPlace := ["slices.overlaps[spoor/api.Link]"], unfollowed := true, recurses := true, apart := false }
def LinksPeersSaid : Prop := linksPeersRow.holds Try.pinned (OpenSpec.ofChange linksPeersSpec)

/-- ITS FALSE NEIGHBOUR: 'it returns false'. Refute it at one input. -/
def linksPeersWrong : ChangeSpec := { name := "linksPeers", fn := fun _ => fun
  | [d1, d2] => { results := [.lit (.bool false)], args := [d1, d2] }
  | _ => none }
def LinksPeersWrongFalsely : Prop := linksPeersRow.holds Try.pinned (OpenSpec.ofChange linksPeersWrong)

/- THE SECOND FORM. 'bulk': how many values and letters a reading holds, each counted each time it is reached (what is shared counts as often as it is met; a slice's spare places count too). A statement '..UptoSaid' is the law's where the arguments, and the package variables that the reading takes, are together of bulk at most 1048576: NARROWER than '..Said'. Prove '..Said' where nothing that the law and all that it calls make is longer than what came in: it says more and counts as full. Else prove '..UptoSaid'. A law counts once. -/
mutual
def uptoBulk {H : Type} : DataW H → Nat
  | .lit (.string bytes) => bytes.length + 1
  | .lit _ => 1
  | .nil => 1
  | .ptr d => uptoBulk d + 1
  | .slice elems spare => uptoBulkAll elems + uptoBulkAll spare + 1
  | .agg parts => uptoBulkAll parts + 1
  | .iface _ d => uptoBulk d + 1
  | .map entries => uptoBulkEntries entries + 1
  | .held _ => 1
def uptoBulkAll {H : Type} : List (DataW H) → Nat
  | [] => 0
  | d :: r => uptoBulk d + uptoBulkAll r
def uptoBulkEntries {H : Type} : List (Lit × DataW H) → Nat
  | [] => 0
  | x :: r => uptoBulkEntry x + uptoBulkEntries r
def uptoBulkEntry {H : Type} : Lit × DataW H → Nat
  | (.string bytes, d) => bytes.length + uptoBulk d + 1
  | (_, d) => uptoBulk d + 1
 end
def uptoSmall : (H : Type) → List (DataW H) → Bool := fun _ ds => decide (uptoBulkAll ds ≤ 1048576)
def OpenSpec.upto (s : _root_.Go.ChangeSpec) : _root_.Go.OpenSpec := { _root_.Go.OpenSpec.ofChange s with cond := some uptoSmall }

/-- 'spoorlaw16.LinksChange', WHERE WHAT IT READS IS OF BULK AT MOST 1048576: true; the input reads as it did. -/
def linksChangeUptoRow : OpenClaim := { program := "ytalkiicjdafhdaa", sum := "244efbca7dde2ff2187f897708b5b236872abadb1b2172693858aa8947a2d97a", func := "spoor/spoorlaw16.LinksChange", spec := "linksChange", inPlace := ["slices.overlaps[spoor/api.Link]"], unfollowed := true, recurses := true, apart := false, narrowed := true }
def LinksChangeUptoSaid : Prop := linksChangeUptoRow.holds Try.pinned (OpenSpec.upto linksChangeSpec)

/-- 'spoorlaw16.LinksAsk', WHERE WHAT IT READS IS OF BULK AT MOST 1048576: true; the input reads as it did. -/
def linksAskUptoRow : OpenClaim := { program := "ytalkiicjdafhdaa", sum := "244efbca7dde2ff2187f897708b5b236872abadb1b2172693858aa8947a2d97a", func := "spoor/spoorlaw16.LinksAsk", spec := "linksAsk", inPlace := ["slices.overlaps[spoor/api.Link]"], unfollowed := true, recurses := true, apart := false, narrowed := true }
def LinksAskUptoSaid : Prop := linksAskUptoRow.holds Try.pinned (OpenSpec.upto linksAskSpec)

/-- 'spoorlaw16.LinksFound', WHERE WHAT IT READS IS OF BULK AT MOST 1048576: true; the input reads as it did. -/
def linksFoundUptoRow : OpenClaim := { program := "ytalkiicjdafhdaa", sum := "244efbca7dde2ff2187f897708b5b236872abadb1b2172693858aa8947a2d97a", func := "spoor/spoorlaw16.LinksFound", spec := "linksFound", inPlace := ["slices.overlaps[spoor/api.Link]"], unfollowed := true, recurses := true, apart := false, narrowed := true }
def LinksFoundUptoSaid : Prop := linksFoundUptoRow.holds Try.pinned (OpenSpec.upto linksFoundSpec)

/-- 'spoorlaw16.LinksPeers', WHERE WHAT IT READS IS OF BULK AT MOST 1048576: true; the input reads as it did. -/
def linksPeersUptoRow : OpenClaim := { program := "ytalkiicjdafhdaa", sum := "244efbca7dde2ff2187f897708b5b236872abadb1b2172693858aa8947a2d97a", func := "spoor/spoorlaw16.LinksPeers", spec := "linksPeers", inPlace := ["slices.overlaps[spoor/api.Link]"], unfollowed := true, recurses := true, apart := false, narrowed := true }
def LinksPeersUptoSaid : Prop := linksPeersUptoRow.holds Try.pinned (OpenSpec.upto linksPeersSpec)

end Rows
end Go.Proofs.Ytalkiicjdafhdaa
