-- Merged and trimmed by this session's program wip/tools/trim.py.
import Derived.Test.YtghklhdooemjdaaProg
import Derived.Below
import Derived.Deep.Draws
import Derived.Deep.AppendLies
import Derived.Maps.AppendAt
import Derived.OwnWalk
import Derived.Laws.BytesArg
import Derived.Laws.MakeOwn
import Derived.Laws.OwnMore
import Derived.Deep.OwnRows
import Derived.Tactics
import Derived.Lib.ConvBytes
import Derived.Laws.Slices
import Derived.WalkKit
import Derived.KernelRfl
import Derived.RowKit3
import Derived.Deep.LoopGhost
import Derived.Deep.QuietTactic
import Derived.BigQuiet
import Derived.WideLaws
import Derived.Deep.DeepCutAuto
import Derived.Deep.CutBlock
import Derived.Deep.RegionHeld3
import Derived.Laws.Rows
import Derived.Lib.AppendStr
import Derived.ArgAppend
import Derived.Laws.IdiomCopy
import Derived.OrdersHeld
import Derived.Laws.BitsLemmas
import Derived.RowKit
import Derived.Deep.RegionLaw
import Derived.Deep.RegionWith
import Derived.Laws.EntriesVeiled
import Derived.Shelf.RegionOpen
import Derived.Outline
import Derived.Test.YtghklhdooemjdaaTLineWhole0
section
namespace Go.Proofs.Ytghklhdooemjdaa.Q
open Go.RowKit Go.Proofs.YtghklhdooemjdaaW.PrintWords Go.Proofs.YtghklhdooemjdaaW.PrintLast Go.Proofs.YtghklhdooemjdaaW.PrintMore
attribute [local go_sem] max2_int min2_int max_two min_two max_three min_three max_four min_four   -- for this text's walks alone
set_option linter.unusedVariables false
set_option linter.unusedSimpArgs false
def errW : Option Int → Value
  | none => .nilIface
  | some c => .iface 0 (.int .i64 c)
theorem errW_none : errW none = .nilIface := rfl
theorem errW_some (c : Int) : errW (some c) = .iface 0 (.int .i64 c) := rfl
theorem bw0 {P Q  : Prop} (q : Q) (h : Q → P := by intro q_; repeat (first | (with_reducible first | exact q_ | apply below_alloc | apply pw_below_drewN | apply below_drew1) | exact q_)) : P := h q
theorem bf0 {P Q  : Prop} (q : Q) (h : Q → P := by intro q_; (with_reducible repeat (first | refine blk_drewN ?_ _ | refine blk_drew ?_ | refine blk_alloc ?_ _)); exact q_) : P := h q
theorem bw1 {P Q G0 : Prop} (q : Q) (g0 : G0) (h : Q → G0 → P := by intro q_ g0_; repeat (first | (with_reducible first | exact q_ | apply below_alloc | apply pw_below_drewN | apply below_drew1 | refine below_set ?_ g0_) | exact q_)) : P := h q g0
theorem bw2 {P Q G0 G1 : Prop} (q : Q) (g0 : G0) (g1 : G1) (h : Q → G0 → G1 → P := by intro q_ g0_ g1_; repeat (first | (with_reducible first | exact q_ | apply below_alloc | apply pw_below_drewN | apply below_drew1 | refine below_set ?_ g0_ | refine below_set ?_ g1_) | exact q_)) : P := h q g0 g1
theorem bf2 {P Q G0 G1 : Prop} (q : Q) (g0 : G0) (g1 : G1) (h : Q → G0 → G1 → P := by intro q_ g0_ g1_; (with_reducible repeat (first | refine blk_drewN ?_ _ | refine blk_drew ?_ | refine blk_alloc ?_ _)); refine blk_far ?_ g0_ _; (with_reducible repeat (first | refine blk_drewN ?_ _ | refine blk_drew ?_ | refine blk_alloc ?_ _)); refine blk_far ?_ g1_ _; (with_reducible repeat (first | refine blk_drewN ?_ _ | refine blk_drew ?_ | refine blk_alloc ?_ _)); exact q_) : P := h q g0 g1
theorem bw3 {P Q G0 G1 G2 : Prop} (q : Q) (g0 : G0) (g1 : G1) (g2 : G2) (h : Q → G0 → G1 → G2 → P := by intro q_ g0_ g1_ g2_; repeat (first | (with_reducible first | exact q_ | apply below_alloc | apply pw_below_drewN | apply below_drew1 | refine below_set ?_ g0_ | refine below_set ?_ g1_ | refine below_set ?_ g2_) | exact q_)) : P := h q g0 g1 g2
theorem bw4 {P Q G0 G1 G2 G3 : Prop} (q : Q) (g0 : G0) (g1 : G1) (g2 : G2) (g3 : G3) (h : Q → G0 → G1 → G2 → G3 → P := by intro q_ g0_ g1_ g2_ g3_; repeat (first | (with_reducible first | exact q_ | apply below_alloc | apply pw_below_drewN | apply below_drew1 | refine below_set ?_ g0_ | refine below_set ?_ g1_ | refine below_set ?_ g2_ | refine below_set ?_ g3_) | exact q_)) : P := h q g0 g1 g2 g3
theorem bf4 {P Q G0 G1 G2 G3 : Prop} (q : Q) (g0 : G0) (g1 : G1) (g2 : G2) (g3 : G3) (h : Q → G0 → G1 → G2 → G3 → P := by intro q_ g0_ g1_ g2_ g3_; (with_reducible repeat (first | refine blk_drewN ?_ _ | refine blk_drew ?_ | refine blk_alloc ?_ _)); refine blk_far ?_ g0_ _; (with_reducible repeat (first | refine blk_drewN ?_ _ | refine blk_drew ?_ | refine blk_alloc ?_ _)); refine blk_far ?_ g1_ _; (with_reducible repeat (first | refine blk_drewN ?_ _ | refine blk_drew ?_ | refine blk_alloc ?_ _)); refine blk_far ?_ g2_ _; (with_reducible repeat (first | refine blk_drewN ?_ _ | refine blk_drew ?_ | refine blk_alloc ?_ _)); refine blk_far ?_ g3_ _; (with_reducible repeat (first | refine blk_drewN ?_ _ | refine blk_drew ?_ | refine blk_alloc ?_ _)); exact q_) : P := h q g0 g1 g2 g3
theorem bw5 {P Q G0 G1 G2 G3 G4 : Prop} (q : Q) (g0 : G0) (g1 : G1) (g2 : G2) (g3 : G3) (g4 : G4) (h : Q → G0 → G1 → G2 → G3 → G4 → P := by intro q_ g0_ g1_ g2_ g3_ g4_; repeat (first | (with_reducible first | exact q_ | apply below_alloc | apply pw_below_drewN | apply below_drew1 | refine below_set ?_ g0_ | refine below_set ?_ g1_ | refine below_set ?_ g2_ | refine below_set ?_ g3_ | refine below_set ?_ g4_) | exact q_)) : P := h q g0 g1 g2 g3 g4
theorem Bx0 {W W1 w : World} {g : Nat} {o : Obj} (q : Aside0 (W.heap[g]? = some o)) (hb : Below W1.heap.size W1 w) (h : W.heap[g]? = some o → W1.heap[g]? = some o := by intro q_; (with_reducible repeat (first | refine blk_drewN ?_ _ | refine blk_drew ?_ | refine blk_alloc ?_ _)); exact q_) : Aside0 (w.heap[g]? = some o) := ⟨blk_below (h q.out) hb⟩
theorem Nl0 {W W1 : World} {g g' : Nat} {o : Obj} (q : Aside0 (W.heap[g]? = some o)) (hg : g' = W1.heap.size) (h : W.heap[g]? = some o → W1.heap[g]? = some o := by intro q_; (with_reducible repeat (first | refine blk_drewN ?_ _ | refine blk_drew ?_ | refine blk_alloc ?_ _)); exact q_) : Aside0 (g ≠ g') := ⟨by rw [hg]; exact Nat.ne_of_lt (blk_lt (h q.out))⟩
theorem Nr0 {W W1 : World} {g g' : Nat} {o : Obj} (q : Aside0 (W.heap[g]? = some o)) (hg : g' = W1.heap.size) (h : W.heap[g]? = some o → W1.heap[g]? = some o := by intro q_; (with_reducible repeat (first | refine blk_drewN ?_ _ | refine blk_drew ?_ | refine blk_alloc ?_ _)); exact q_) : Aside0 (g' ≠ g) := ⟨by rw [hg]; exact Nat.ne_of_gt (blk_lt (h q.out))⟩
theorem Bs0 {w W W1 w2 : World} (q : Aside0 (Below w.heap.size w W)) (hb : Below W1.heap.size W1 w2) (h : Below w.heap.size w W → Below w.heap.size w W1 := by intro q_; repeat (first | (with_reducible first | exact q_ | apply below_alloc | apply pw_below_drewN | apply below_drew1) | exact q_)) : Aside0 (Below w.heap.size w w2) := ⟨below_step (h q.out) hb⟩
theorem Gw0 {w W W1 : World} {g : Nat} (q : Aside0 (Below w.heap.size w W)) (hg : g = W1.heap.size) (h : Below w.heap.size w W → Below w.heap.size w W1 := by intro q_; repeat (first | (with_reducible first | exact q_ | apply below_alloc | apply pw_below_drewN | apply below_drew1) | exact q_)) : Aside0 (w.heap.size ≤ g) := ⟨by rw [hg]; exact below_size (h q.out)⟩
theorem Bs1 {w W W1 w2 : World} {G0 : Prop} (q : Aside0 (Below w.heap.size w W)) (hb : Below W1.heap.size W1 w2) (g0 : G0) (h : Below w.heap.size w W → G0 → Below w.heap.size w W1 := by intro q_ g0_; repeat (first | (with_reducible first | exact q_ | apply below_alloc | apply pw_below_drewN | apply below_drew1 | refine below_set ?_ g0_) | exact q_)) : Aside0 (Below w.heap.size w w2) := ⟨below_step (h q.out g0) hb⟩
theorem Gw1 {w W W1 : World} {g : Nat} {G0 : Prop} (q : Aside0 (Below w.heap.size w W)) (hg : g = W1.heap.size) (g0 : G0) (h : Below w.heap.size w W → G0 → Below w.heap.size w W1 := by intro q_ g0_; repeat (first | (with_reducible first | exact q_ | apply below_alloc | apply pw_below_drewN | apply below_drew1 | refine below_set ?_ g0_) | exact q_)) : Aside0 (w.heap.size ≤ g) := ⟨by rw [hg]; exact below_size (h q.out g0)⟩
theorem Bx2 {W W1 w : World} {g : Nat} {o : Obj} {G0 G1 : Prop} (q : Aside0 (W.heap[g]? = some o)) (hb : Below W1.heap.size W1 w) (g0 : G0) (g1 : G1) (h : W.heap[g]? = some o → G0 → G1 → W1.heap[g]? = some o := by intro q_ g0_ g1_; (with_reducible repeat (first | refine blk_drewN ?_ _ | refine blk_drew ?_ | refine blk_alloc ?_ _)); refine blk_far ?_ g0_ _; (with_reducible repeat (first | refine blk_drewN ?_ _ | refine blk_drew ?_ | refine blk_alloc ?_ _)); refine blk_far ?_ g1_ _; (with_reducible repeat (first | refine blk_drewN ?_ _ | refine blk_drew ?_ | refine blk_alloc ?_ _)); exact q_) : Aside0 (w.heap[g]? = some o) := ⟨blk_below (h q.out g0 g1) hb⟩
theorem Bs2 {w W W1 w2 : World} {G0 G1 : Prop} (q : Aside0 (Below w.heap.size w W)) (hb : Below W1.heap.size W1 w2) (g0 : G0) (g1 : G1) (h : Below w.heap.size w W → G0 → G1 → Below w.heap.size w W1 := by intro q_ g0_ g1_; repeat (first | (with_reducible first | exact q_ | apply below_alloc | apply pw_below_drewN | apply below_drew1 | refine below_set ?_ g0_ | refine below_set ?_ g1_) | exact q_)) : Aside0 (Below w.heap.size w w2) := ⟨below_step (h q.out g0 g1) hb⟩
theorem Gw2 {w W W1 : World} {g : Nat} {G0 G1 : Prop} (q : Aside0 (Below w.heap.size w W)) (hg : g = W1.heap.size) (g0 : G0) (g1 : G1) (h : Below w.heap.size w W → G0 → G1 → Below w.heap.size w W1 := by intro q_ g0_ g1_; repeat (first | (with_reducible first | exact q_ | apply below_alloc | apply pw_below_drewN | apply below_drew1 | refine below_set ?_ g0_ | refine below_set ?_ g1_) | exact q_)) : Aside0 (w.heap.size ≤ g) := ⟨by rw [hg]; exact below_size (h q.out g0 g1)⟩
theorem Bs3 {w W W1 w2 : World} {G0 G1 G2 : Prop} (q : Aside0 (Below w.heap.size w W)) (hb : Below W1.heap.size W1 w2) (g0 : G0) (g1 : G1) (g2 : G2) (h : Below w.heap.size w W → G0 → G1 → G2 → Below w.heap.size w W1 := by intro q_ g0_ g1_ g2_; repeat (first | (with_reducible first | exact q_ | apply below_alloc | apply pw_below_drewN | apply below_drew1 | refine below_set ?_ g0_ | refine below_set ?_ g1_ | refine below_set ?_ g2_) | exact q_)) : Aside0 (Below w.heap.size w w2) := ⟨below_step (h q.out g0 g1 g2) hb⟩
theorem Gw3 {w W W1 : World} {g : Nat} {G0 G1 G2 : Prop} (q : Aside0 (Below w.heap.size w W)) (hg : g = W1.heap.size) (g0 : G0) (g1 : G1) (g2 : G2) (h : Below w.heap.size w W → G0 → G1 → G2 → Below w.heap.size w W1 := by intro q_ g0_ g1_ g2_; repeat (first | (with_reducible first | exact q_ | apply below_alloc | apply pw_below_drewN | apply below_drew1 | refine below_set ?_ g0_ | refine below_set ?_ g1_ | refine below_set ?_ g2_) | exact q_)) : Aside0 (w.heap.size ≤ g) := ⟨by rw [hg]; exact below_size (h q.out g0 g1 g2)⟩
theorem Bx4 {W W1 w : World} {g : Nat} {o : Obj} {G0 G1 G2 G3 : Prop} (q : Aside0 (W.heap[g]? = some o)) (hb : Below W1.heap.size W1 w) (g0 : G0) (g1 : G1) (g2 : G2) (g3 : G3) (h : W.heap[g]? = some o → G0 → G1 → G2 → G3 → W1.heap[g]? = some o := by intro q_ g0_ g1_ g2_ g3_; (with_reducible repeat (first | refine blk_drewN ?_ _ | refine blk_drew ?_ | refine blk_alloc ?_ _)); refine blk_far ?_ g0_ _; (with_reducible repeat (first | refine blk_drewN ?_ _ | refine blk_drew ?_ | refine blk_alloc ?_ _)); refine blk_far ?_ g1_ _; (with_reducible repeat (first | refine blk_drewN ?_ _ | refine blk_drew ?_ | refine blk_alloc ?_ _)); refine blk_far ?_ g2_ _; (with_reducible repeat (first | refine blk_drewN ?_ _ | refine blk_drew ?_ | refine blk_alloc ?_ _)); refine blk_far ?_ g3_ _; (with_reducible repeat (first | refine blk_drewN ?_ _ | refine blk_drew ?_ | refine blk_alloc ?_ _)); exact q_) : Aside0 (w.heap[g]? = some o) := ⟨blk_below (h q.out g0 g1 g2 g3) hb⟩
theorem Bs4 {w W W1 w2 : World} {G0 G1 G2 G3 : Prop} (q : Aside0 (Below w.heap.size w W)) (hb : Below W1.heap.size W1 w2) (g0 : G0) (g1 : G1) (g2 : G2) (g3 : G3) (h : Below w.heap.size w W → G0 → G1 → G2 → G3 → Below w.heap.size w W1 := by intro q_ g0_ g1_ g2_ g3_; repeat (first | (with_reducible first | exact q_ | apply below_alloc | apply pw_below_drewN | apply below_drew1 | refine below_set ?_ g0_ | refine below_set ?_ g1_ | refine below_set ?_ g2_ | refine below_set ?_ g3_) | exact q_)) : Aside0 (Below w.heap.size w w2) := ⟨below_step (h q.out g0 g1 g2 g3) hb⟩
theorem Gw4 {w W W1 : World} {g : Nat} {G0 G1 G2 G3 : Prop} (q : Aside0 (Below w.heap.size w W)) (hg : g = W1.heap.size) (g0 : G0) (g1 : G1) (g2 : G2) (g3 : G3) (h : Below w.heap.size w W → G0 → G1 → G2 → G3 → Below w.heap.size w W1 := by intro q_ g0_ g1_ g2_ g3_; repeat (first | (with_reducible first | exact q_ | apply below_alloc | apply pw_below_drewN | apply below_drew1 | refine below_set ?_ g0_ | refine below_set ?_ g1_ | refine below_set ?_ g2_ | refine below_set ?_ g3_) | exact q_)) : Aside0 (w.heap.size ≤ g) := ⟨by rw [hg]; exact below_size (h q.out g0 g1 g2 g3)⟩
theorem Bs5 {w W W1 w2 : World} {G0 G1 G2 G3 G4 : Prop} (q : Aside0 (Below w.heap.size w W)) (hb : Below W1.heap.size W1 w2) (g0 : G0) (g1 : G1) (g2 : G2) (g3 : G3) (g4 : G4) (h : Below w.heap.size w W → G0 → G1 → G2 → G3 → G4 → Below w.heap.size w W1 := by intro q_ g0_ g1_ g2_ g3_ g4_; repeat (first | (with_reducible first | exact q_ | apply below_alloc | apply pw_below_drewN | apply below_drew1 | refine below_set ?_ g0_ | refine below_set ?_ g1_ | refine below_set ?_ g2_ | refine below_set ?_ g3_ | refine below_set ?_ g4_) | exact q_)) : Aside0 (Below w.heap.size w w2) := ⟨below_step (h q.out g0 g1 g2 g3 g4) hb⟩
theorem cl2 {W : World} {g : Nat} {t : TypeId} {x0 x1 : Value} (h : Aside0 (W.heap[g]? = some (.cells #[x0, x1] t (0, 0)))) : W.cell? ⟨g, 0, none⟩ = some x0 ∧ W.cell? ⟨g, 1, none⟩ = some x1 ∧ W.frozen? ⟨g, 0, none⟩ = false ∧ W.frozen? ⟨g, 1, none⟩ = false := ⟨(blk_cell h.out 0).trans rfl, (blk_cell h.out 1).trans rfl, blk_frozen h.out 0, blk_frozen h.out 1⟩
theorem cl4 {W : World} {g : Nat} {t : TypeId} {x0 x1 x2 x3 : Value} (h : Aside0 (W.heap[g]? = some (.cells #[x0, x1, x2, x3] t (0, 0)))) : W.cell? ⟨g, 0, none⟩ = some x0 ∧ W.cell? ⟨g, 1, none⟩ = some x1 ∧ W.cell? ⟨g, 2, none⟩ = some x2 ∧ W.cell? ⟨g, 3, none⟩ = some x3 ∧ W.frozen? ⟨g, 0, none⟩ = false ∧ W.frozen? ⟨g, 1, none⟩ = false ∧ W.frozen? ⟨g, 2, none⟩ = false ∧ W.frozen? ⟨g, 3, none⟩ = false := ⟨(blk_cell h.out 0).trans rfl, (blk_cell h.out 1).trans rfl, (blk_cell h.out 2).trans rfl, (blk_cell h.out 3).trans rfl, blk_frozen h.out 0, blk_frozen h.out 1, blk_frozen h.out 2, blk_frozen h.out 3⟩
theorem cl10 {W : World} {g : Nat} {t : TypeId} {x0 x1 x2 x3 x4 x5 x6 x7 x8 x9 : Value} (h : Aside0 (W.heap[g]? = some (.cells #[x0, x1, x2, x3, x4, x5, x6, x7, x8, x9] t (0, 0)))) : W.cell? ⟨g, 0, none⟩ = some x0 ∧ W.cell? ⟨g, 1, none⟩ = some x1 ∧ W.cell? ⟨g, 2, none⟩ = some x2 ∧ W.cell? ⟨g, 3, none⟩ = some x3 ∧ W.cell? ⟨g, 4, none⟩ = some x4 ∧ W.cell? ⟨g, 5, none⟩ = some x5 ∧ W.cell? ⟨g, 6, none⟩ = some x6 ∧ W.cell? ⟨g, 7, none⟩ = some x7 ∧ W.cell? ⟨g, 8, none⟩ = some x8 ∧ W.cell? ⟨g, 9, none⟩ = some x9 ∧ W.frozen? ⟨g, 0, none⟩ = false ∧ W.frozen? ⟨g, 1, none⟩ = false ∧ W.frozen? ⟨g, 2, none⟩ = false ∧ W.frozen? ⟨g, 3, none⟩ = false ∧ W.frozen? ⟨g, 4, none⟩ = false ∧ W.frozen? ⟨g, 5, none⟩ = false ∧ W.frozen? ⟨g, 6, none⟩ = false ∧ W.frozen? ⟨g, 7, none⟩ = false ∧ W.frozen? ⟨g, 8, none⟩ = false ∧ W.frozen? ⟨g, 9, none⟩ = false := ⟨(blk_cell h.out 0).trans rfl, (blk_cell h.out 1).trans rfl, (blk_cell h.out 2).trans rfl, (blk_cell h.out 3).trans rfl, (blk_cell h.out 4).trans rfl, (blk_cell h.out 5).trans rfl, (blk_cell h.out 6).trans rfl, (blk_cell h.out 7).trans rfl, (blk_cell h.out 8).trans rfl, (blk_cell h.out 9).trans rfl, blk_frozen h.out 0, blk_frozen h.out 1, blk_frozen h.out 2, blk_frozen h.out 3, blk_frozen h.out 4, blk_frozen h.out 5, blk_frozen h.out 6, blk_frozen h.out 7, blk_frozen h.out 8, blk_frozen h.out 9⟩
theorem eS {P : Prop} (h : P := by first | rfl | (simp [errW_none, errW_some] <;> rfl) | (simp [*, errW_none, errW_some] <;> rfl)) : P := h
theorem Ax {p : Prop} (h : p) : Aside0 p := ⟨h⟩
abbrev tr : Bool := true
abbrev fa : Bool := false
theorem rS {P : Prop} (h : P := by first | rfl | (simp; done) | (simp [*]; done)) : P := h
theorem gS {P : Prop} (h : P := by (try simp only [List.map_toArray, List.map_cons, List.map_nil]); first | done | rfl | (simp only [List.length_drop, List.length_take]; rfl) | (simp only [Int.toNat_natCast, ByteArray.extract_zero_size]; rfl) | (simp only [Int.toNat_natCast, ByteArray.extract_zero_size]; done)) : P := h
theorem sP : (∀ (a : Act) (d : Tmp) (v : Value), Act.put a (some d) v = { a with tmps := a.tmps.setIfInBounds d v }) ∧ (∀ (a : Act) (v : Value), Act.put a none v = a) ∧ (∀ (l : List Value) (i : Nat) (a : Value), l.toArray.setIfInBounds i a = (l.set i a).toArray) ∧ (∀ (l : List Value) (x a : Value), (x :: l).set 0 a = a :: l) ∧ (∀ (l : List Value) (x a : Value) (n : Nat), (x :: l).set (n + 1) a = x :: l.set n a) ∧ (∀ n : Int, IntKind.i64.wrap n = Go.RowKit.wrap64 n) ∧ (∀ n : Int, IntKind.i32.wrap n = Go.RowKit.wrap32 n) := ⟨fun _ _ _ => rfl, fun _ _ => rfl, fun _ _ _ => List.setIfInBounds_toArray .., fun _ _ _ => rfl, fun _ _ _ _ => rfl, i64_w, i32_w⟩
theorem info23 : (Try.prog.info? 23).map (fun i => (i.zero, i.size, i.bytes)) = some (some (.agg #[(.int .i64 0), (.int .i64 0)]), 2, 16) := by kernel_rfl
theorem info52 : (Try.prog.info? 52).map (fun i => (i.zero, i.size, i.bytes)) = some (some (.agg #[(.int .i64 0), (.int .i64 0), (.int .u8 0), (.int .i64 0)]), 4, 32) := by kernel_rfl
theorem info102 : (Try.prog.info? 102).map (fun i => (i.zero, i.size, i.bytes)) = some (some (.agg #[(.int .i64 0), (.int .i64 0)]), 2, 16) := by kernel_rfl
structure S23 where
  f0 : Int
  f1 : Int
def z23 : S23 := ⟨(0 : Int), (0 : Int)⟩
def k23 : Kd S23 := Kd.iso (Kd.pair (Kd.int .i64) (Kd.int .i64)) (fun x : S23 => (x.f0, x.f1))
theorem k23_open {w : World} {x : S23} {cs : List Value} (h : k23.K w x cs) : cs = [.int .i64 x.f0, .int .i64 x.f1] := by
  obtain ⟨_, _, rfl, rfl, rfl⟩ := h
  exact rfl
theorem k23_openM {w : World} {base : Nat} {ok : Nat → Prop} {x : S23} {cs : List Value} (h : k23.M w base ok x cs) : cs = [.int .i64 x.f0, .int .i64 x.f1] := by
  obtain ⟨_, _, rfl, rfl, rfl⟩ := h
  exact rfl
theorem k23_mkM (w : World) (base : Nat) (ok : Nat → Prop) (x : S23)  : k23.M w base ok x [.int .i64 x.f0, .int .i64 x.f1] := ⟨[.int .i64 x.f0], [.int .i64 x.f1], rfl, rfl, rfl⟩
def rd_T23 (xs : List S23) (i : Int) : S23 := xs.getD i.toNat z23
theorem at_T23 {w : World} {A : Option Addr} {n : Nat} {xs : List S23} (h : Kd.C k23 w A n xs) (i : Int) (h0 : 0 ≤ i) (h1 : i < n) : ∃ ad , A = some ad ∧ w.cell? (ad.add (i.toNat * 2)) = some (.int .i64 (rd_T23 xs i).f0) ∧ w.cell? ⟨(ad.add (i.toNat * 2)).block, (ad.add (i.toNat * 2)).off + 1, none⟩ = some (.int .i64 (rd_T23 xs i).f1) := by
  obtain ⟨ad, c, e, _, hK, hc0⟩ := Kd.C_get h z23 i h0 h1
  have hc : ∀ j u, c[j]? = some u → w.cell? (ad.add (i.toNat * 2 + j)) = some u := hc0
  obtain rfl := k23_open hK
  exact ⟨ad, e, hc 0 _ rfl, by rw [← add_field _ _ 1 (by omega)]; exact hc 1 _ rfl⟩
structure S102 where
  f0 : Int
  f1 : Int
def z102 : S102 := ⟨(0 : Int), (0 : Int)⟩
def k102 : Kd S102 := Kd.iso (Kd.pair (Kd.int .i64) (Kd.int .i64)) (fun x : S102 => (x.f0, x.f1))
theorem k102_open {w : World} {x : S102} {cs : List Value} (h : k102.K w x cs) : cs = [.int .i64 x.f0, .int .i64 x.f1] := by
  obtain ⟨_, _, rfl, rfl, rfl⟩ := h
  exact rfl
theorem k102_openM {w : World} {base : Nat} {ok : Nat → Prop} {x : S102} {cs : List Value} (h : k102.M w base ok x cs) : cs = [.int .i64 x.f0, .int .i64 x.f1] := by
  obtain ⟨_, _, rfl, rfl, rfl⟩ := h
  exact rfl
theorem k102_mkM (w : World) (base : Nat) (ok : Nat → Prop) (x : S102)  : k102.M w base ok x [.int .i64 x.f0, .int .i64 x.f1] := ⟨[.int .i64 x.f0], [.int .i64 x.f1], rfl, rfl, rfl⟩
def rd_T102 (xs : List S102) (i : Int) : S102 := xs.getD i.toNat z102
theorem at_T102 {w : World} {A : Option Addr} {n : Nat} {xs : List S102} (h : Kd.C k102 w A n xs) (i : Int) (h0 : 0 ≤ i) (h1 : i < n) : ∃ ad , A = some ad ∧ w.cell? (ad.add (i.toNat * 2)) = some (.int .i64 (rd_T102 xs i).f0) ∧ w.cell? ⟨(ad.add (i.toNat * 2)).block, (ad.add (i.toNat * 2)).off + 1, none⟩ = some (.int .i64 (rd_T102 xs i).f1) := by
  obtain ⟨ad, c, e, _, hK, hc0⟩ := Kd.C_get h z102 i h0 h1
  have hc : ∀ j u, c[j]? = some u → w.cell? (ad.add (i.toNat * 2 + j)) = some u := hc0
  obtain rfl := k102_open hK
  exact ⟨ad, e, hc 0 _ rfl, by rw [← add_field _ _ 1 (by omega)]; exact hc 1 _ rfl⟩
structure S35 where
  f0 : Int
  f1 : Int
def z35 : S35 := ⟨(0 : Int), (0 : Int)⟩
def k35 : Kd S35 := Kd.iso (Kd.pair (Kd.int .u8) (Kd.int .i64)) (fun x : S35 => (x.f0, x.f1))
theorem k35_open {w : World} {x : S35} {cs : List Value} (h : k35.K w x cs) : cs = [.int .u8 x.f0, .int .i64 x.f1] := by
  obtain ⟨_, _, rfl, rfl, rfl⟩ := h
  exact rfl
theorem k35_openM {w : World} {base : Nat} {ok : Nat → Prop} {x : S35} {cs : List Value} (h : k35.M w base ok x cs) : cs = [.int .u8 x.f0, .int .i64 x.f1] := by
  obtain ⟨_, _, rfl, rfl, rfl⟩ := h
  exact rfl
theorem k35_mkM (w : World) (base : Nat) (ok : Nat → Prop) (x : S35)  : k35.M w base ok x [.int .u8 x.f0, .int .i64 x.f1] := ⟨[.int .u8 x.f0], [.int .i64 x.f1], rfl, rfl, rfl⟩
structure S97 where
  f0 : S23
  f1 : S35
def z97 : S97 := ⟨z23, z35⟩
def k97 : Kd S97 := Kd.iso (Kd.pair k23 k35) (fun x : S97 => (x.f0, x.f1))
theorem k97_open {w : World} {x : S97} {cs : List Value} (h : k97.K w x cs) : cs = [.int .i64 x.f0.f0, .int .i64 x.f0.f1, .int .u8 x.f1.f0, .int .i64 x.f1.f1] := by
  obtain ⟨_, _, rfl, s0, s2⟩ := h
  obtain rfl := k23_open s0
  obtain rfl := k35_open s2
  exact rfl
theorem k97_openM {w : World} {base : Nat} {ok : Nat → Prop} {x : S97} {cs : List Value} (h : k97.M w base ok x cs) : cs = [.int .i64 x.f0.f0, .int .i64 x.f0.f1, .int .u8 x.f1.f0, .int .i64 x.f1.f1] := by
  obtain ⟨_, _, rfl, s0, s2⟩ := h
  obtain rfl := k23_openM s0
  obtain rfl := k35_openM s2
  exact rfl
theorem k97_mkM (w : World) (base : Nat) (ok : Nat → Prop) (x : S97)  : k97.M w base ok x [.int .i64 x.f0.f0, .int .i64 x.f0.f1, .int .u8 x.f1.f0, .int .i64 x.f1.f1] := ⟨[.int .i64 x.f0.f0, .int .i64 x.f0.f1], [.int .u8 x.f1.f0, .int .i64 x.f1.f1], rfl, (k23_mkM w base ok x.f0 ), (k35_mkM w base ok x.f1 )⟩
def rd_T97 (xs : List S97) (i : Int) : S97 := xs.getD i.toNat z97
theorem at_T97 {w : World} {A : Option Addr} {n : Nat} {xs : List S97} (h : Kd.C k97 w A n xs) (i : Int) (h0 : 0 ≤ i) (h1 : i < n) : ∃ ad , A = some ad ∧ w.cell? (ad.add (i.toNat * 4)) = some (.int .i64 (rd_T97 xs i).f0.f0) ∧ w.cell? ⟨(ad.add (i.toNat * 4)).block, (ad.add (i.toNat * 4)).off + 1, none⟩ = some (.int .i64 (rd_T97 xs i).f0.f1) ∧ w.cell? ⟨(ad.add (i.toNat * 4)).block, (ad.add (i.toNat * 4)).off + 2, none⟩ = some (.int .u8 (rd_T97 xs i).f1.f0) ∧ w.cell? ⟨(ad.add (i.toNat * 4)).block, (ad.add (i.toNat * 4)).off + 3, none⟩ = some (.int .i64 (rd_T97 xs i).f1.f1) := by
  obtain ⟨ad, c, e, _, hK, hc0⟩ := Kd.C_get h z97 i h0 h1
  have hc : ∀ j u, c[j]? = some u → w.cell? (ad.add (i.toNat * 4 + j)) = some u := hc0
  obtain rfl := k97_open hK
  exact ⟨ad, e, hc 0 _ rfl, by rw [← add_field _ _ 1 (by omega)]; exact hc 1 _ rfl, by rw [← add_field _ _ 2 (by omega)]; exact hc 2 _ rfl, by rw [← add_field _ _ 3 (by omega)]; exact hc 3 _ rfl⟩
structure S52 where
  f0 : S23
  f1 : S35
def z52 : S52 := ⟨z23, z35⟩
def k52 : Kd S52 := Kd.iso (Kd.pair k23 k35) (fun x : S52 => (x.f0, x.f1))
theorem k52_open {w : World} {x : S52} {cs : List Value} (h : k52.K w x cs) : cs = [.int .i64 x.f0.f0, .int .i64 x.f0.f1, .int .u8 x.f1.f0, .int .i64 x.f1.f1] := by
  obtain ⟨_, _, rfl, s0, s2⟩ := h
  obtain rfl := k23_open s0
  obtain rfl := k35_open s2
  exact rfl
theorem k52_mkM (w : World) (base : Nat) (ok : Nat → Prop) (x : S52)  : k52.M w base ok x [.int .i64 x.f0.f0, .int .i64 x.f0.f1, .int .u8 x.f1.f0, .int .i64 x.f1.f1] := ⟨[.int .i64 x.f0.f0, .int .i64 x.f0.f1], [.int .u8 x.f1.f0, .int .i64 x.f1.f1], rfl, (k23_mkM w base ok x.f0 ), (k35_mkM w base ok x.f1 )⟩
def rd_T52 (xs : List S52) (i : Int) : S52 := xs.getD i.toNat z52
theorem at_T52 {w : World} {A : Option Addr} {n : Nat} {xs : List S52} (h : Kd.C k52 w A n xs) (i : Int) (h0 : 0 ≤ i) (h1 : i < n) : ∃ ad , A = some ad ∧ w.cell? (ad.add (i.toNat * 4)) = some (.int .i64 (rd_T52 xs i).f0.f0) ∧ w.cell? ⟨(ad.add (i.toNat * 4)).block, (ad.add (i.toNat * 4)).off + 1, none⟩ = some (.int .i64 (rd_T52 xs i).f0.f1) ∧ w.cell? ⟨(ad.add (i.toNat * 4)).block, (ad.add (i.toNat * 4)).off + 2, none⟩ = some (.int .u8 (rd_T52 xs i).f1.f0) ∧ w.cell? ⟨(ad.add (i.toNat * 4)).block, (ad.add (i.toNat * 4)).off + 3, none⟩ = some (.int .i64 (rd_T52 xs i).f1.f1) := by
  obtain ⟨ad, c, e, _, hK, hc0⟩ := Kd.C_get h z52 i h0 h1
  have hc : ∀ j u, c[j]? = some u → w.cell? (ad.add (i.toNat * 4 + j)) = some u := hc0
  obtain rfl := k52_open hK
  exact ⟨ad, e, hc 0 _ rfl, by rw [← add_field _ _ 1 (by omega)]; exact hc 1 _ rfl, by rw [← add_field _ _ 2 (by omega)]; exact hc 2 _ rfl, by rw [← add_field _ _ 3 (by omega)]; exact hc 3 _ rfl⟩
structure S46 where
  f0 : Int
  f1 : S35
def z46 : S46 := ⟨(0 : Int), z35⟩
def k46 : Kd S46 := Kd.iso (Kd.pair (Kd.int .i64) k35) (fun x : S46 => (x.f0, x.f1))
theorem k46_open {w : World} {x : S46} {cs : List Value} (h : k46.K w x cs) : cs = [.int .i64 x.f0, .int .u8 x.f1.f0, .int .i64 x.f1.f1] := by
  obtain ⟨_, _, rfl, rfl, s1⟩ := h
  obtain rfl := k35_open s1
  exact rfl
theorem k46_mkM (w : World) (base : Nat) (ok : Nat → Prop) (x : S46)  : k46.M w base ok x [.int .i64 x.f0, .int .u8 x.f1.f0, .int .i64 x.f1.f1] := ⟨[.int .i64 x.f0], [.int .u8 x.f1.f0, .int .i64 x.f1.f1], rfl, rfl, (k35_mkM w base ok x.f1 )⟩
def rd_T46 (xs : List S46) (i : Int) : S46 := xs.getD i.toNat z46
theorem at_T46 {w : World} {A : Option Addr} {n : Nat} {xs : List S46} (h : Kd.C k46 w A n xs) (i : Int) (h0 : 0 ≤ i) (h1 : i < n) : ∃ ad , A = some ad ∧ w.cell? (ad.add (i.toNat * 3)) = some (.int .i64 (rd_T46 xs i).f0) ∧ w.cell? ⟨(ad.add (i.toNat * 3)).block, (ad.add (i.toNat * 3)).off + 1, none⟩ = some (.int .u8 (rd_T46 xs i).f1.f0) ∧ w.cell? ⟨(ad.add (i.toNat * 3)).block, (ad.add (i.toNat * 3)).off + 2, none⟩ = some (.int .i64 (rd_T46 xs i).f1.f1) := by
  obtain ⟨ad, c, e, _, hK, hc0⟩ := Kd.C_get h z46 i h0 h1
  have hc : ∀ j u, c[j]? = some u → w.cell? (ad.add (i.toNat * 3 + j)) = some u := hc0
  obtain rfl := k46_open hK
  exact ⟨ad, e, hc 0 _ rfl, by rw [← add_field _ _ 1 (by omega)]; exact hc 1 _ rfl, by rw [← add_field _ _ 2 (by omega)]; exact hc 2 _ rfl⟩
structure S80 where
  f0 : S23
  f1 : Bool
def z80 : S80 := ⟨z23, false⟩
def k80 : Kd S80 := Kd.iso (Kd.pair k23 Kd.bool) (fun x : S80 => (x.f0, x.f1))
theorem k80_open {w : World} {x : S80} {cs : List Value} (h : k80.K w x cs) : cs = [.int .i64 x.f0.f0, .int .i64 x.f0.f1, .bool x.f1] := by
  obtain ⟨_, _, rfl, s0, rfl⟩ := h
  obtain rfl := k23_open s0
  exact rfl
theorem k80_openM {w : World} {base : Nat} {ok : Nat → Prop} {x : S80} {cs : List Value} (h : k80.M w base ok x cs) : cs = [.int .i64 x.f0.f0, .int .i64 x.f0.f1, .bool x.f1] := by
  obtain ⟨_, _, rfl, s0, rfl⟩ := h
  obtain rfl := k23_openM s0
  exact rfl
theorem k80_mkM (w : World) (base : Nat) (ok : Nat → Prop) (x : S80)  : k80.M w base ok x [.int .i64 x.f0.f0, .int .i64 x.f0.f1, .bool x.f1] := ⟨[.int .i64 x.f0.f0, .int .i64 x.f0.f1], [.bool x.f1], rfl, (k23_mkM w base ok x.f0 ), rfl⟩
def rd_T80 (xs : List S80) (i : Int) : S80 := xs.getD i.toNat z80
theorem at_T80 {w : World} {A : Option Addr} {n : Nat} {xs : List S80} (h : Kd.C k80 w A n xs) (i : Int) (h0 : 0 ≤ i) (h1 : i < n) : ∃ ad , A = some ad ∧ w.cell? (ad.add (i.toNat * 3)) = some (.int .i64 (rd_T80 xs i).f0.f0) ∧ w.cell? ⟨(ad.add (i.toNat * 3)).block, (ad.add (i.toNat * 3)).off + 1, none⟩ = some (.int .i64 (rd_T80 xs i).f0.f1) ∧ w.cell? ⟨(ad.add (i.toNat * 3)).block, (ad.add (i.toNat * 3)).off + 2, none⟩ = some (.bool (rd_T80 xs i).f1) := by
  obtain ⟨ad, c, e, _, hK, hc0⟩ := Kd.C_get h z80 i h0 h1
  have hc : ∀ j u, c[j]? = some u → w.cell? (ad.add (i.toNat * 3 + j)) = some u := hc0
  obtain rfl := k80_open hK
  exact ⟨ad, e, hc 0 _ rfl, by rw [← add_field _ _ 1 (by omega)]; exact hc 1 _ rfl, by rw [← add_field _ _ 2 (by omega)]; exact hc 2 _ rfl⟩
def rd_L10 (xs : List (List S23)) (i : Int) : (List S23) := xs.getD i.toNat ([] : List S23)
theorem at_L10 {w : World} {A : Option Addr} {n : Nat} {xs : List (List S23)} (h : Kd.C (Kd.slice 23 k23) w A n xs) (i : Int) (h0 : 0 ≤ i) (h1 : i < n) : ∃ ad A0 c0, A = some ad ∧ w.cell? (ad.add i.toNat) = some (.slice A0 (rd_L10 xs i).length c0) ∧ (rd_L10 xs i).length ≤ c0 ∧ k23.C w A0 (rd_L10 xs i).length (rd_L10 xs i) := by
  obtain ⟨ad, c, e, _, hK, hc0⟩ := Kd.C_get h ([] : List S23) i h0 h1
  have hc : ∀ j u, c[j]? = some u → w.cell? (ad.add (i.toNat * 1 + j)) = some u := hc0
  obtain ⟨A0, c0, rfl, l0, g0⟩ := hK
  exact ⟨ad, A0, c0, e, by have hq := hc 0 _ rfl; rwa [Nat.mul_one, Nat.add_zero] at hq, l0, g0⟩
end Go.Proofs.Ytghklhdooemjdaa.Q
end
section
namespace Go.Proofs.Ytghklhdooemjdaa.Q
open Go.RowKit Go.Proofs.YtghklhdooemjdaaW.PrintWords Go.Proofs.YtghklhdooemjdaaW.PrintLast Go.Proofs.YtghklhdooemjdaaW.PrintMore
attribute [local go_sem] max2_int min2_int max_two min_two max_three min_three max_four min_four   -- for this text's walks alone
set_option linter.unusedVariables false
set_option linter.unusedSimpArgs false
theorem eqA35 (d : Nat) (w : World) (x0 y0 : Int) (x1 y1 : Int) :
    (Op.equalIn (d + 2) 35 (.agg #[.int .u8 x0, .int .i64 x1]) (.agg #[.int .u8 y0, .int .i64 y1])).run Try.prog w = .ok (x0 == y0 && (x1 == y1)) w := by
  refine eqA_of Try.underlying35 (by kernel_rfl) ?_
  refine eqf_cons (by rfl) (by go_simp; rfl) (by go_simp; rfl) (by go_simp) ?_
  exact eqf_last (by rfl) (by go_simp; rfl) (by go_simp; rfl) (by go_simp)
end Go.Proofs.Ytghklhdooemjdaa.Q
end
section
namespace Go.Proofs.Ytghklhdooemjdaa.Q
open Go.RowKit Go.Proofs.YtghklhdooemjdaaW.PrintWords Go.Proofs.YtghklhdooemjdaaW.PrintLast Go.Proofs.YtghklhdooemjdaaW.PrintMore
attribute [local go_sem] max2_int min2_int max_two min_two max_three min_three max_four min_four   -- for this text's walks alone
set_option linter.unusedVariables false
set_option linter.unusedSimpArgs false
theorem eqA23 (d : Nat) (w : World) (x0 y0 : Int) (x1 y1 : Int) :
    (Op.equalIn (d + 2) 23 (.agg #[.int .i64 x0, .int .i64 x1]) (.agg #[.int .i64 y0, .int .i64 y1])).run Try.prog w = .ok (x0 == y0 && (x1 == y1)) w := by
  refine eqA_of Try.underlying23 (by kernel_rfl) ?_
  refine eqf_cons (by rfl) (by go_simp; rfl) (by go_simp; rfl) (by go_simp) ?_
  exact eqf_last (by rfl) (by go_simp; rfl) (by go_simp; rfl) (by go_simp)
end Go.Proofs.Ytghklhdooemjdaa.Q
end
section
namespace Go.Proofs.Ytghklhdooemjdaa.Q
open Go.RowKit Go.Proofs.YtghklhdooemjdaaW.PrintWords Go.Proofs.YtghklhdooemjdaaW.PrintLast Go.Proofs.YtghklhdooemjdaaW.PrintMore
attribute [local go_sem] max2_int min2_int max_two min_two max_three min_three max_four min_four   -- for this text's walks alone
set_option linter.unusedVariables false
set_option linter.unusedSimpArgs false
theorem eqA52 (d : Nat) (w : World) (x0 y0 : Int) (x1 y1 : Int) (x2 y2 : Int) (x3 y3 : Int) :
    (Op.equalIn (d + 3) 52 (.agg #[.int .i64 x0, .int .i64 x1, .int .u8 x2, .int .i64 x3]) (.agg #[.int .i64 y0, .int .i64 y1, .int .u8 y2, .int .i64 y3])).run Try.prog w = .ok ((x0 == y0 && (x1 == y1)) && ((x2 == y2 && (x3 == y3)))) w := by
  refine eqA_of Try.underlying52 (by kernel_rfl) ?_
  refine eqf_cons (by rfl) (by go_simp) (by go_simp) (eqA23 (d + 0) w _ _ _ _) ?_
  exact eqf_last (by rfl) (by go_simp) (by go_simp) (eqA35 (d + 0) w _ _ _ _)
end Go.Proofs.Ytghklhdooemjdaa.Q
end
section
namespace Go.Proofs.Ytghklhdooemjdaa.Q
open Go.RowKit Go.Proofs.YtghklhdooemjdaaW.PrintWords Go.Proofs.YtghklhdooemjdaaW.PrintLast Go.Proofs.YtghklhdooemjdaaW.PrintMore
attribute [local go_sem] max2_int min2_int max_two min_two max_three min_three max_four min_four   -- for this text's walks alone
set_option linter.unusedVariables false
set_option linter.unusedSimpArgs false
def ivl_runs.l0 : Nat → List (S102) → List (S23) → Int → Int → Option ((List (S102)))
 | 0, _, _, _, _ => none
 | k + 1, x3, x9, x10, x11 => if x11 < x10 then (if 0 ≤ x11 then (if x11 < (x9.length : Int) then (if x11 < (x3.length : Int) then (ivl_runs.l0 k (x3.set (x11 : Int).toNat (⟨(rd_T23 x9 x11).f0, (rd_T23 x9 x11).f1⟩ : S102)) x9 x10 (wrap64 (x11 + 1))) else (none)) else (none)) else (none)) else (some x3)
def ivl_runs.f (k : Nat) (l0 : List (S23)) : Option ((List (S102))) := if 0 ≤ (l0.length : Int) then (if ((l0.length : Int) : Int).toNat ≤ 17592186044416 then (ivl_runs.l0 k (List.replicate ((l0.length : Int) : Int).toNat z102) l0 (l0.length : Int) 0) else (none)) else (none)
theorem ivl_runs.mono_l : ∀ k, (∀ y0 y1 y2 y3, LeO (ivl_runs.l0 k y0 y1 y2 y3) (ivl_runs.l0 (k + 1) y0 y1 y2 y3))
 | 0 => fun _ _ _ _ r h => by simp [ivl_runs.l0] at h
 | k + 1 => by
  have ih0 := ivl_runs.mono_l k
  ·intro y0 y1 y2 y3
   unfold ivl_runs.l0
   repeat' first
   | (with_reducible exact ih0 _ _ _ _)
   | (with_reducible exact LeO.refl _)
   | (with_reducible exact LeO.none _)
   | (with_reducible refine LeO.ite ?_ ?_)
   | (with_reducible refine LeO.bind ?_ (fun _ => ?_))
   | exact ih0 _ _ _ _
   | exact LeO.none _
   | refine LeO.ite ?_ ?_
   | refine LeO.bind ?_ (fun _ => ?_)
theorem ivl_runs.mono : ∀ a0 k, LeO (ivl_runs.f k a0) (ivl_runs.f (k + 1) a0) := by
 intro a0 k
 have ih0 := ivl_runs.mono_l k
 unfold ivl_runs.f
 repeat' first
   | (with_reducible exact ih0 _ _ _ _)
   | (with_reducible exact LeO.refl _)
   | (with_reducible exact LeO.none _)
   | (with_reducible refine LeO.ite ?_ ?_)
   | (with_reducible refine LeO.bind ?_ (fun _ => ?_))
   | exact ih0 _ _ _ _
   | exact LeO.none _
   | refine LeO.ite ?_ ?_
   | refine LeO.bind ?_ (fun _ => ?_)
set_option maxHeartbeats 8000000 in
set_option maxRecDepth 100000 in
theorem ivl_runs.calls (k : Nat) (A0 : Option Addr) (c0 : Nat) (l0 : List (S23)) (r : List (S102)) (w : World) (hr0 : Kd.C k23 w A0 l0.length l0) (hc0 : l0.length ≤ c0) (h : ivl_runs.f k l0 = some r) :
  Calls Try.prog 46 #[.slice A0 l0.length c0] w fun e w' => ∃ v0_ : Value, e = .returned (v0_) ∧ Kd.R k102 102 w' w.heap.size (fun _ => True) v0_ r ∧ Below w.heap.size w w' := by
 have hu23 := Try.underlying23
 have hu102 := Try.underlying102
 have HR0 := Ax hr0
 have HC0 := Ax hc0
 clear hr0 hc0
 have HB := Ax (Below.refl w.heap.size w)
 have H : (if 0 ≤ (l0.length : Int) then (if ((l0.length : Int) : Int).toNat ≤ 17592186044416 then (ivl_runs.l0 k (List.replicate ((l0.length : Int) : Int).toNat z102) l0 (l0.length : Int) 0) else (none)) else (none)) = some r := h
 clear h
 by_cases c2 : 0 ≤ (l0.length : Int)
 ·rw [if_pos c2] at H
  have c2b0 := eq_true c2
  have c2b1 : decide (0 ≤ (l0.length : Int)) = true := decide_eq_true c2
  clear c2
  by_cases c3 : ((l0.length : Int) : Int).toNat ≤ 17592186044416
  ·rw [if_pos c3] at H
   have c3b0 := eq_true c3
   have c3b1 : decide (((l0.length : Int) : Int).toNat ≤ 17592186044416) = true := decide_eq_true c3
   clear c3
   obtain ⟨y103, hy103⟩ : ∃ y_ : List (S102), y_ = (List.replicate ((l0.length : Int) : Int).toNat z102) := ⟨_, rfl⟩
   replace H : (ivl_runs.l0 k y103 l0 (l0.length : Int) 0) = some r := by first | (rw [hy103]; with_reducible exact H) | (have H2_ := (Option.bind_some _ _).symm.trans H; rw [hy103]; with_reducible exact H2_) | (have H2_ := (Option.bind_some _ _).symm.trans H; with_reducible exact H2_) | with_reducible exact H | (rw [hy103]; exact H) | exact H
   have Ny103 := Ax hy103
   clear hy103
   have H' := Ax H
   clear H
   go_enter Try.func46, Try.ntmps46
   go_wp2_with (first | ((with_reducible refine gate_dst (N := 8) rfl ?_); refine Kd.R_make k102 _ 102 rfl (N := 8) rfl 87 _ _ rfl (l0.length : Int) rfl rfl Try.underlying87 (.agg #[(.int .i64 0), (.int .i64 0)]) 16 info102 rfl (by decide) (by omega) z102 (ok := fun _ => True) (okp := fun _ => True) (k102_mkM _ _ _ z102 ) (fun _ hk => hk) trivial (of_decide_eq_true (by first | (with_reducible assumption) | assumption)) (Nat.le_trans (Nat.mul_le_mul_right _ (of_decide_eq_true (by first | (with_reducible assumption) | assumption) : (l0.length : Int).toNat ≤ 17592186044416)) (by omega)) (Below.refl _ _) (Nat.le_refl _) ?_; intro v104 w4 ho5 hb hg_ hnew_; clear hg_ hnew_; (first | rw [← Ny103.out] at ho5 | (simp only [Int.reduceToNat] at ho5; rw [← Ny103.out] at ho5)); have HO105 := Ax (Kd.R_lower ho5 (below_size (bw0 HB.out))); replace HB := Bs0 HB hb; clear hb ho5))
   go_loopg [11] k (fun kq v11 w' => ∃ (x3_1 : List (S102)) (x11_1 : Int), v11 = .int .i64 x11_1 ∧ Aside0 (ivl_runs.l0 kq x3_1 l0 (l0.length : Int) x11_1 = some r) ∧ Aside0 (kq ≤ k) ∧ Aside0 (Kd.R k102 102 w' w.heap.size (fun _ => True) v104 x3_1) ∧ Aside0 (Below w.heap.size w w'))
   case atStart => exact ⟨(y103), (0), rS, H', ⟨Nat.le_refl _⟩, ⟨by (with_reducible repeat (first | apply Kd.R_alloc | apply Kd.R_drewN | apply Kd.R_drew)); exact HO105.out⟩, ⟨bw0 HB.out⟩⟩
   case round =>
    clear H'
    try clear c2
    try clear c2b0
    try clear c2b1
    try clear p2
    try clear c3
    try clear c3b0
    try clear c3b1
    try clear c4
    obtain ⟨x3_1, x11_1, rfl, HA, HK1, HO_3, HB⟩ := hrel
    cases gk with
    | zero => exact absurd HA.out (by simp [ivl_runs.l0])
    | succ k1 =>
     have H := HA.out
     clear HA
     simp only [ivl_runs.l0] at H
     by_cases c6 : x11_1 < (l0.length : Int)
     ·rw [if_pos c6] at H
      have c6b0 : decide (x11_1 < (l0.length : Int)) = true := decide_eq_true c6
      clear c6
      by_cases c7 : 0 ≤ x11_1
      ·rw [if_pos c7] at H
       have c7b0 : decide (0 ≤ x11_1) = true := decide_eq_true c7
       clear c7
       by_cases c8 : x11_1 < (l0.length : Int)
       ·rw [if_pos c8] at H
        have c8b0 : decide (x11_1 < (l0.length : Int)) = true := decide_eq_true c8
        clear c8
        by_cases c9 : x11_1 < (x3_1.length : Int)
        ·rw [if_pos c9] at H
         have c9b0 : decide (x11_1 < (x3_1.length : Int)) = true := decide_eq_true c9
         clear c9
         obtain ⟨y108, hy108⟩ : ∃ y_ : List (S102), y_ = (x3_1.set (x11_1 : Int).toNat (⟨(rd_T23 l0 x11_1).f0, (rd_T23 l0 x11_1).f1⟩ : S102)) := ⟨_, rfl⟩
         replace H : (ivl_runs.l0 k1 y108 l0 (l0.length : Int) (wrap64 (x11_1 + 1))) = some r := by first | (rw [hy108]; with_reducible exact H) | (have H2_ := (Option.bind_some _ _).symm.trans H; rw [hy108]; with_reducible exact H2_) | (have H2_ := (Option.bind_some _ _).symm.trans H; with_reducible exact H2_) | with_reducible exact H | (rw [hy108]; exact H) | exact H
         have Ny108 := Ax hy108
         clear hy108
         have H' := Ax H
         clear H
         have p106 : 0 ≤ (x11_1 : Int) := of_decide_eq_true (by first | (with_reducible assumption) | assumption)
         have q106 : x11_1 < (l0.length : Int) := of_decide_eq_true (by first | (with_reducible assumption) | assumption)
         obtain ⟨ad106, e106, hx106_0, hx106_1⟩ := at_T23 HR0.out x11_1 p106 q106
         cases e106
         replace hx106_0 := (HB.out.cell (World.block_lt_of_cell? w _ hx106_0)).trans hx106_0
         replace hx106_1 := (HB.out.cell (World.block_lt_of_cell? w _ hx106_1)).trans hx106_1
         replace p106 := eq_true p106
         replace q106 := eq_true q106
         go_wp2_with (first | ((with_reducible refine gate_dst (N := 5) rfl ?_); refine box_event ?hg (N := 5) ?hd (cs := #[.int .i64 0, .int .i64 0]) (t := 23) ?hr ?_; (case hd => rfl); (case hg => rfl); (case hr => first | (go_simp; done) | (go_simp; rfl)); intro gb107 hg w11 hbox hb; have n0_ := Ax (Kd.R_below (by (with_reducible repeat (first | apply Kd.R_alloc | apply Kd.R_drewN | apply Kd.R_drew)); exact HO_3.out) hb); have n1_ := Bs0 HB hb; have n2_ := Ax (hbox); have n3_ := Gw0 HB hg; have n4_ := Gw0 HB hg; clear HO_3; clear HB; have HO_3 := n0_; have HB := n1_; have BK107 := n2_; have GW107 := n3_; have GE107 := n4_; clear n0_ n1_ n2_ n3_ n4_; clear hb hbox hg; obtain ⟨hcz12_0, hcz12_1, hfz12_0, hfz12_1⟩ := cl2 BK107) | ((with_reducible refine gate_store (t := 23) (p := 5) rfl ?_); refine store_event (t := 23) (p := 5) (v := ?vo_w13) (w1 := ((w11.setCell ⟨gb107, 0, none⟩ (.int .i64 ((rd_T23 l0 x11_1).f0))).setCell ⟨gb107, 1, none⟩ (.int .i64 ((rd_T23 l0 x11_1).f1)))) ?hg ?ho ?hn ?hr ?_; (case ho => rfl); (case hg => rfl); (case hn => rfl); (case hr => first | (go_simp; done) | (go_simp; rfl)); intro w13 hw; have n0_ : Aside0 (Kd.R k102 102 w13 w.heap.size (fun _ => True) v104 x3_1) := ⟨(by rw [hw]; exact (by (with_reducible repeat (first | apply Kd.R_alloc | apply Kd.R_drewN | apply Kd.R_drew)); exact Kd.R_mono (Kd.R_far (p := ⟨gb107, 1, none⟩) (Kd.R_far (p := ⟨gb107, 0, none⟩) (Kd.R_types HO_3.out BK107.out (by decide)) (fun _ hk => hk.2) (.int .i64 ((rd_T23 l0 x11_1).f0))) (fun _ hk => hk.2) (.int .i64 ((rd_T23 l0 x11_1).f1))) (fun _ hk => trivial)))⟩; have n1_ : Aside0 (w13.heap[gb107]? = some (.cells #[.int .i64 ((rd_T23 l0 x11_1).f0), .int .i64 ((rd_T23 l0 x11_1).f1)] 23 (0, 0))) := ⟨(by rw [hw]; exact (by (with_reducible repeat (first | refine blk_drewN ?_ _ | refine blk_drew ?_ | refine blk_alloc ?_ _)); refine blk_put (cs := #[.int .i64 ((rd_T23 l0 x11_1).f0), .int .i64 0]) ?_ 1 _ rfl; (with_reducible repeat (first | refine blk_drewN ?_ _ | refine blk_drew ?_ | refine blk_alloc ?_ _)); refine blk_put (cs := #[.int .i64 0, .int .i64 0]) ?_ 0 _ rfl; (with_reducible repeat (first | refine blk_drewN ?_ _ | refine blk_drew ?_ | refine blk_alloc ?_ _)); exact BK107.out))⟩; have n2_ : Aside0 (Below w.heap.size w w13) := ⟨(by rw [hw]; exact (bw1 HB.out GE107.out))⟩; clear hw; clear HO_3; clear BK107; clear HB; have HO_3 := n0_; have BK107 := n1_; have HB := n2_; clear n0_ n1_ n2_; obtain ⟨hcz14_0, hcz14_1, hfz14_0, hfz14_1⟩ := cl2 BK107; have p10 : 0 ≤ (x11_1 : Int) := of_decide_eq_true (by first | (with_reducible assumption) | assumption); have q10 : (x11_1 : Int) < ((x3_1.length : Int) : Int) := of_decide_eq_true (by first | (with_reducible assumption) | assumption); obtain ⟨go10, co10, eo10, gb10, gl10, cl10, HG10⟩ := Kd.R_form HO_3.out (by omega); (first | cases eo10 | (injection eo10 with ea_ en_ ec_; (first | subst ea_ | (injection ea_ with ea_; subst ea_)); subst ec_; clear en_)); have GB10 := Ax gb10; have GG10 := Ax HG10; clear gb10 gl10 HG10; obtain ⟨ce10, hcl10, hM10, hcc10, hfr10⟩ := Kd.R_elem HO_3.out z102 (x11_1 : Int) p10 q10; obtain rfl := k102_openM hM10; have hx10_0 : w13.cell? ⟨go10, (x11_1 : Int).toNat * 2, none⟩ = some (.int .i64 ((rd_T102 x3_1 x11_1).f0)) := hcc10 0 _ rfl; have hx10_1 : w13.cell? ⟨go10, (x11_1 : Int).toNat * 2 + 1, none⟩ = some (.int .i64 ((rd_T102 x3_1 x11_1).f1)) := hcc10 1 _ rfl; have hf10_0 : w13.frozen? ⟨go10, (x11_1 : Int).toNat * 2, none⟩ = false := hfr10 0; have hf10_1 : w13.frozen? ⟨go10, (x11_1 : Int).toNat * 2 + 1, none⟩ = false := hfr10 1; clear hcl10 hcc10 hfr10 hM10; replace p10 := eq_true p10; replace q10 := eq_true q10; have HX15 := Ax (show Kd.R k102 102 w13 w.heap.size (fun _ => True) (.slice (some ⟨go10, 0, none⟩) x3_1.length co10) x3_1 from (by (with_reducible repeat (first | apply Kd.R_alloc | apply Kd.R_drewN | apply Kd.R_drew)); exact HO_3.out)); obtain ⟨ce15, hcl15, hM15, hcc15, hfr15⟩ := Kd.R_elem HX15.out z102 (x11_1 : Int) (of_decide_eq_true (by first | (with_reducible assumption) | assumption)) (by have h_ : (x11_1 : Int) < ((x3_1.length : Int) : Int) := of_decide_eq_true (by first | (with_reducible assumption) | assumption); first | exact h_ | (have e_ := (Kd.R_reads' HO_3.out).1; omega) | simpa using h_); obtain rfl := k102_openM hM15; have HP15 := Kd.R_seg HX15.out (x11_1 : Int) (of_decide_eq_true (by first | (with_reducible assumption) | assumption)) (by have h_ : (x11_1 : Int) < ((x3_1.length : Int) : Int) := of_decide_eq_true (by first | (with_reducible assumption) | assumption); first | exact h_ | (have e_ := (Kd.R_reads' HO_3.out).1; omega) | simpa using h_) (seg := [.int .i64 ((rd_T23 l0 x11_1).f0), .int .i64 ((rd_T23 l0 x11_1).f1)]) (j := 0) hcl15 hcc15 (show 2 ≤ 2 from by decide) (x' := (⟨(rd_T23 l0 x11_1).f0, (rd_T23 l0 x11_1).f1⟩ : S102)) (k102_mkM _ _ _ (⟨(rd_T23 l0 x11_1).f0, (rd_T23 l0 x11_1).f1⟩ : S102) ) (fun _ hk => hk); have hx15_0 := hcc15 0 _ rfl; (try simp only [show (k102).sz = 2 from rfl, Nat.mul_one, Nat.add_zero] at hx15_0); have hf15_0 := hfr15 0; (try simp only [show (k102).sz = 2 from rfl, Nat.mul_one, Nat.add_zero] at hf15_0); have hx15_1 := hcc15 1 _ rfl; (try simp only [show (k102).sz = 2 from rfl, Nat.mul_one, Nat.add_zero] at hx15_1); have hf15_1 := hfr15 1; (try simp only [show (k102).sz = 2 from rfl, Nat.mul_one, Nat.add_zero] at hf15_1); clear hcl15 hcc15 hfr15 hM15) | ((with_reducible refine gate_store (t := 102) (p := 19) rfl ?_); refine store_event (t := 102) (p := 19) (v := ?vo_w16) (w1 := ((w13.setCell ⟨go10, (x11_1 : Int).toNat * 2, none⟩ (.int .i64 ((rd_T23 l0 x11_1).f0))).setCell ⟨go10, (x11_1 : Int).toNat * 2 + 1, none⟩ (.int .i64 ((rd_T23 l0 x11_1).f1)))) ?hg ?ho ?hn ?hr ?_; (case ho => rfl); (case hg => rfl); (case hn => rfl); (case hr => first | (go_simp; done) | (go_simp; rfl)); intro w16 hw; have hg : w13.grownBy w16 (some go10) := (by rw [hw]; exact HP15.2); have hp_ : Kd.R k102 102 w16 w.heap.size (fun _ => True) (.slice (some ⟨go10, 0, none⟩) x3_1.length co10) y108 := (by rw [hw, Ny108.out]; exact HP15.1); clear HP15; have n0_ := Ax (hp_); have n1_ := Ax (blk_grown (g := gb107) (o := .cells #[.int .i64 ((rd_T23 l0 x11_1).f0), .int .i64 ((rd_T23 l0 x11_1).f1)] 23 (0, 0)) (bf0 BK107.out) hg (Kd.R_ne HO_3.out BK107.out (by decide))); have n2_ := Ax ((by rw [hw]; exact below_set (below_set (HB.out) GB10.out) GB10.out : Below w.heap.size w w16)); clear HO_3; clear BK107; clear HB; have HO_3 := n0_; have BK107 := n1_; have HB := n2_; clear n0_ n1_ n2_; clear hg hw hp_))
         go_roundg k1
         case measure => have := HK1.out; omega
         case rel => exact ⟨(y108), (wrap64 (x11_1 + 1)), rS, H', ⟨by have := HK1.out; omega⟩, ⟨by (with_reducible repeat (first | apply Kd.R_alloc | apply Kd.R_drewN | apply Kd.R_drew)); exact HO_3.out⟩, ⟨bw1 HB.out GE107.out⟩⟩
        ·rw [if_neg c9] at H
         exact absurd H (by simp)
       ·rw [if_neg c8] at H
        exact absurd H (by simp)
      ·rw [if_neg c7] at H
       exact absurd H (by simp)
     ·rw [if_neg c6] at H
      have c6b0 : decide (x11_1 < (l0.length : Int)) = false := decide_eq_false c6
      clear c6
      obtain rfl := Option.some.inj H
      go_wp2
      go_ret
      exact ⟨_, eS, by (with_reducible repeat (first | apply Kd.R_alloc | apply Kd.R_drewN | apply Kd.R_drew)); exact HO_3.out, bw0 HB.out⟩
  ·rw [if_neg c3] at H
   exact absurd H (by simp)
 ·rw [if_neg c2] at H
  exact absurd H (by simp)
def cmpI (a b : Int) : Int := if a < b then -1 else if b < a then 1 else 0
theorem cmpI_gt (a b : Int) : decide (0 < cmpI a b) = decide (b < a) := by unfold cmpI; (repeat' split) <;> simp <;> omega
theorem cmpI_ge (a b : Int) : decide (0 ≤ cmpI a b) = decide (b ≤ a) := by unfold cmpI; (repeat' split) <;> simp <;> omega
theorem isnan_is (a : Int) (w : World) : Calls Try.prog 58 #[.int .i64 a] w fun e w' => e = .returned (.bool false) ∧ w' = w := by
  go_enter Try.func58, Try.ntmps58
  go_wp2
  repeat (go_quiet (fail); try go_wp2)
  go_ret
  exact ⟨rfl, rfl⟩
theorem cmp_is (a b : Int) (w : World) : Calls Try.prog 51 #[.int .i64 a, .int .i64 b] w fun e w' => e = .returned (.int .i64 (cmpI a b)) ∧ w' = w := by
  unfold cmpI
  by_cases h : a < b
  · have hd : decide (a < b) = true := decide_eq_true h
    rw [if_pos h]
    clear h
    go_enter Try.func51, Try.ntmps51
    go_wp2_with (go_at_call 58; refine (isnan_is _ _).mono ?_; rintro e w' ⟨rfl, rfl⟩)
    go_ret
    exact ⟨rfl, rfl⟩
  · have hd : decide (a < b) = false := decide_eq_false h
    rw [if_neg h]
    clear h
    by_cases h : b < a
    · have hd2 : decide (b < a) = true := decide_eq_true h
      rw [if_pos h]
      clear h
      go_enter Try.func51, Try.ntmps51
      go_wp2_with (go_at_call 58; refine (isnan_is _ _).mono ?_; rintro e w' ⟨rfl, rfl⟩)
      go_ret
      exact ⟨rfl, rfl⟩
    · have hd2 : decide (b < a) = false := decide_eq_false h
      rw [if_neg h]
      clear h
      go_enter Try.func51, Try.ntmps51
      go_wp2_with (go_at_call 58; refine (isnan_is _ _).mono ?_; rintro e w' ⟨rfl, rfl⟩)
      go_ret
      exact ⟨rfl, rfl⟩
theorem next_is (a : Int) (h0 : 0 ≤ a + 1) (h1 : a + 1 ≤ 9223372036854775807) (w : World) : Calls Try.prog 52 #[.int .i64 a] w fun e w' => e = .returned (.int .i64 (a + 1)) ∧ w' = w := by
  go_enter Try.func52, Try.ntmps52
  go_wp2
  go_ret
  exact ⟨rfl, rfl⟩
def fieldT : Value := .agg #[.int .i64 0, .int .i64 1099511627776, .func (.func 51) #[] #[], .func (.func 52) #[] #[], .func (.func 53) #[] #[]]
theorem times_is (w : World) : Calls Try.prog 44 #[] w fun e w' => e = .returned fieldT ∧ Below w.heap.size w w' := by
  go_enter Try.func44, Try.ntmps44
  go_wp2
  refine bodyPost_ret (results_cell_row rfl _ _ w.heap.size 91 #[.int .i64 0, .int .i64 1099511627776, .func (.func 51) #[] #[], .func (.func 52) #[] #[], .func (.func 53) #[] #[]] (0, 0) _ rfl (heap_alloc_new _ _) Try.underlying91 rfl (by kernel_rfl)) rfl ?_
  exact ⟨rfl, below_alloc (Below.refl _ _) _⟩
theorem cell_alloc_ {W : World} {a : Addr} {v : Value} (o : Obj) (h : W.cell? a = some v) : (W.alloc o).cell? a = some v := (World.grownBy_alloc W o none).cell h (by simp)
def soundL : Option Int → List S102 → Bool
  | _, [] => true
  | p, x :: xs => if x.f0 < 0 ∨ x.f1 < x.f0 ∨ 1099511627776 < x.f1 then false else
    match p with
    | none => soundL (some x.f1) xs
    | some t => if t = 1099511627776 ∨ x.f0 ≤ t + 1 then false else soundL (some x.f1) xs
set_option maxRecDepth 100000 in
set_option maxHeartbeats 4000000 in
theorem sound_is (A1 : Option Addr) (c1 : Nat) (l1 : List S102) (r : Bool) (h : soundL none l1 = r) (w : World) (hr1 : Kd.C k102 w A1 l1.length l1) (hc1 : l1.length ≤ c1) :
    Calls Try.prog 49 #[fieldT, .slice A1 l1.length c1] w fun e w' => e = .returned (.bool r) ∧ Below w.heap.size w w' := by
  have HR1 := Aside0.mk hr1
  have HC1 := Aside0.mk hc1
  have HM := Aside0.mk (Kd.C_max hr1)
  have H0 := Aside0.mk h
  clear hr1 hc1 h
  unfold fieldT
  go_enter Try.func49, Try.ntmps49
  go_wp2
  have BF0 := Aside0.mk (heap_alloc_new w (.cells #[.int .i64 0, .int .i64 1099511627776, .func (.func 51) #[] #[], .func (.func 52) #[] #[], .func (.func 53) #[] #[]] 91))
  have hb0 := Aside0.mk (below_alloc (Below.refl w.heap.size w) (.cells #[.int .i64 0, .int .i64 1099511627776, .func (.func 51) #[] #[], .func (.func 52) #[] #[], .func (.func 53) #[] #[]] 91))
  generalize hw1 : w.alloc (.cells #[.int .i64 0, .int .i64 1099511627776, .func (.func 51) #[] #[], .func (.func 52) #[] #[], .func (.func 53) #[] #[]] 91) = w1 at BF0 hb0 ⊢
  clear hw1
  go_loopg [9] l1.length (fun kq v9 w' => ∃ (i : Nat) (p : Option Int), v9 = .int .i64 (i : Int) ∧ Aside0 (i ≤ l1.length ∧ kq = l1.length - i) ∧ Aside0 (soundL p (l1.drop i) = r) ∧ Aside0 (p = if 0 < i then some (rd_T102 l1 ((i - 1 : Nat) : Int)).f1 else none) ∧ Aside0 (∀ t, p = some t → 0 ≤ t ∧ t ≤ 1099511627776) ∧ Aside0 (w'.heap[w.heap.size]? = some (.cells #[.int .i64 0, .int .i64 1099511627776, .func (.func 51) #[] #[], .func (.func 52) #[] #[], .func (.func 53) #[] #[]] 91 (0, 0))) ∧ Aside0 (Below w.heap.size w w'))
  case atStart => exact ⟨0, none, rfl, ⟨Nat.zero_le _, rfl⟩, H0, ⟨rfl⟩, ⟨fun _ h => by cases h⟩, BF0, hb0⟩
  case round =>
    clear BF0 hb0 H0
    obtain ⟨i, p, rfl, HI, HA, HP, HPB, BF, Hb⟩ := hrel
    have hm := HM.out
    by_cases hi : i < l1.length
    · have hd : decide ((i : Int) < (l1.length : Int)) = true := decide_eq_true (by omega)
      have hdn : decide (i < l1.length) = true := decide_eq_true hi
      have hrd : l1.drop i = rd_T102 l1 (i : Int) :: l1.drop (i + 1) := by
        rw [List.drop_eq_getElem_cons hi]
        simp [rd_T102, List.getD_eq_getElem?_getD, hi]
      have ha0 := HA.out
      rw [hrd] at ha0
      have p0 : (0 : Int) ≤ (i : Int) := by omega
      have q0 : (i : Int) < (l1.length : Int) := by omega
      have HC := Aside0.mk (Kd.C_below HR1.out Hb.out)
      obtain ⟨ad, ead, hx0, hx1⟩ := at_T102 HC.out (i : Int) p0 q0
      cases ead
      simp only [Int.toNat_natCast] at hx0 hx1
      obtain ⟨x, hx⟩ : ∃ x, rd_T102 l1 (i : Int) = x := ⟨_, rfl⟩
      have HX := Aside0.mk hx
      rw [hx] at hx0 hx1 ha0
      have HA2 := Aside0.mk ha0
      clear hx ha0 hrd HA
      replace p0 := eq_true p0
      replace q0 := eq_true q0
      have HII := Aside0.mk hi
      have e1 : decide (0 < cmpI 0 x.f0) = decide (x.f0 < 0) := cmpI_gt _ _
      have hg0 : (wr.alloc (.cells #[.int .i64 x.f0, .int .i64 x.f1] 102)).cell? ⟨w.heap.size, 0, none⟩ = some (.int .i64 0) := (blk_cell (blk_alloc BF.out _) 0).trans rfl
      have hg1 : (wr.alloc (.cells #[.int .i64 x.f0, .int .i64 x.f1] 102)).cell? ⟨w.heap.size, 1, none⟩ = some (.int .i64 1099511627776) := (blk_cell (blk_alloc BF.out _) 1).trans rfl
      have hg2 : (wr.alloc (.cells #[.int .i64 x.f0, .int .i64 x.f1] 102)).cell? ⟨w.heap.size, 2, none⟩ = some (.func (.func 51) #[] #[]) := (blk_cell (blk_alloc BF.out _) 2).trans rfl
      have hg3 : (wr.alloc (.cells #[.int .i64 x.f0, .int .i64 x.f1] 102)).cell? ⟨w.heap.size, 3, none⟩ = some (.func (.func 52) #[] #[]) := (blk_cell (blk_alloc BF.out _) 3).trans rfl
      have ha := HA2.out
      simp only [soundL] at ha
      have e2 : decide (0 < cmpI x.f0 x.f1) = decide (x.f1 < x.f0) := cmpI_gt _ _
      have e3 : decide (0 < cmpI x.f1 1099511627776) = decide (1099511627776 < x.f1) := cmpI_gt _ _
      by_cases c1 : x.f0 < 0
      · have d1 : decide (x.f0 < 0) = true := decide_eq_true c1
        rw [if_pos (.inl c1)] at ha
        clear HA2
        subst ha
        go_wp2_with (first | (go_at_call 51; refine (cmp_is _ _ _).mono ?_; rintro e w' ⟨rfl, rfl⟩))
        go_ret
        exact ⟨rfl, below_alloc Hb.out _⟩
      have d1 : decide (x.f0 < 0) = false := decide_eq_false c1
      by_cases c2 : x.f1 < x.f0
      · have d2 : decide (x.f1 < x.f0) = true := decide_eq_true c2
        rw [if_pos (.inr (.inl c2))] at ha
        clear HA2
        subst ha
        go_wp2_with (first | (go_at_call 51; refine (cmp_is _ _ _).mono ?_; rintro e w' ⟨rfl, rfl⟩))
        go_ret
        exact ⟨rfl, below_alloc Hb.out _⟩
      have d2 : decide (x.f1 < x.f0) = false := decide_eq_false c2
      by_cases c3 : 1099511627776 < x.f1
      · have d3 : decide (1099511627776 < x.f1) = true := decide_eq_true c3
        rw [if_pos (.inr (.inr c3))] at ha
        clear HA2
        subst ha
        go_wp2_with (first | (go_at_call 51; refine (cmp_is _ _ _).mono ?_; rintro e w' ⟨rfl, rfl⟩))
        go_ret
        exact ⟨rfl, below_alloc Hb.out _⟩
      have d3 : decide (1099511627776 < x.f1) = false := decide_eq_false c3
      rw [if_neg (by omega)] at ha
      have HA3 := Aside0.mk ha
      have HX01 := Aside0.mk (show 0 ≤ x.f1 ∧ x.f1 ≤ 1099511627776 by omega)
      clear ha HA2
      by_cases ci : 0 < i
      · obtain ⟨t, ht⟩ : ∃ t, rd_T102 l1 ((i - 1 : Nat) : Int) = t := ⟨_, rfl⟩
        obtain ⟨ad', ead', hy0, hy1⟩ := at_T102 HC.out ((i - 1 : Nat) : Int) (by omega) (by omega)
        cases ead'
        simp only [Int.toNat_natCast] at hy0 hy1
        rw [ht] at hy0 hy1
        have hp := HP.out
        rw [if_pos ci, ht] at hp
        subst hp
        have hb := HPB.out t.f1 rfl
        have ha := HA3.out
        simp only at ha
        have di : decide (0 < (i : Int)) = true := decide_eq_true (by omega)
        have din : decide (0 < i) = true := decide_eq_true ci
        have wi : IntKind.i64.wrap ((i : Int) - 1) = (i : Int) - 1 := by rw [i64_w]; unfold wrap64; omega
        have ti : ((i : Int) - 1).toNat = i - 1 := by omega
        have pi0 : (0 ≤ (i : Int) - 1) = True := eq_true (by omega)
        have qi0 : ((i : Int) - 1 < (l1.length : Int)) = True := eq_true (by omega)
        have e4 : decide (0 ≤ cmpI (t.f1 + 1) x.f0) = decide (x.f0 ≤ t.f1 + 1) := cmpI_ge _ _
        have hz0 : (wr.alloc (.cells #[.int .i64 x.f0, .int .i64 x.f1] 102)).cell? (ad.add ((i - 1) * 2)) = some (.int .i64 t.f0) := cell_alloc_ _ hy0
        have hz1 : (wr.alloc (.cells #[.int .i64 x.f0, .int .i64 x.f1] 102)).cell? ⟨(ad.add ((i - 1) * 2)).block, (ad.add ((i - 1) * 2)).off + 1, none⟩ = some (.int .i64 t.f1) := cell_alloc_ _ hy1
        have Hb2 := below_alloc Hb.out (.cells #[.int .i64 x.f0, .int .i64 x.f1] 102)
        have BF2 := blk_alloc BF.out (.cells #[.int .i64 x.f0, .int .i64 x.f1] 102)
        have HB2 := Aside0.mk Hb2
        have BF2' := Aside0.mk BF2
        clear hy0 hy1 Hb2 BF2
        by_cases c4 : t.f1 = 1099511627776
        · have d4 : (t.f1 == 1099511627776) = true := beq_iff_eq.mpr c4
          rw [if_pos (.inl c4)] at ha
          subst ha
          clear HA3
          go_wp2_with (first | (go_at_call 51; refine (cmp_is _ _ _).mono ?_; rintro e w' ⟨rfl, rfl⟩))
          go_quiet ((first | (go_at_call 51; exact Calls.quiet_of_same (cmp_is _ _ _)) | (go_at_call 52; exact Calls.quiet_of_same (next_is _ (by omega) (by omega) _))))
          go_wp2
          go_ret
          exact ⟨rfl, pw_below_drewN HB2.out _⟩
        · have d4 : (t.f1 == 1099511627776) = false := beq_eq_false_iff_ne.mpr c4
          by_cases c5 : x.f0 ≤ t.f1 + 1
          · have d5 : decide (x.f0 ≤ t.f1 + 1) = true := decide_eq_true c5
            rw [if_pos (.inr c5)] at ha
            subst ha
            clear HA3
            go_wp2_with (first | (go_at_call 51; refine (cmp_is _ _ _).mono ?_; rintro e w' ⟨rfl, rfl⟩))
            go_quiet ((first | (go_at_call 51; exact Calls.quiet_of_same (cmp_is _ _ _)) | (go_at_call 52; exact Calls.quiet_of_same (next_is _ (by omega) (by omega) _))))
            go_wp2
            go_ret
            exact ⟨rfl, pw_below_drewN HB2.out _⟩
          · have d5 : decide (x.f0 ≤ t.f1 + 1) = false := decide_eq_false c5
            rw [if_neg (by omega)] at ha
            have HA4 := Aside0.mk ha
            clear ha HA3
            go_wp2_with (first | (go_at_call 51; refine (cmp_is _ _ _).mono ?_; rintro e w' ⟨rfl, rfl⟩))
            go_quiet ((first | (go_at_call 51; exact Calls.quiet_of_same (cmp_is _ _ _)) | (go_at_call 52; exact Calls.quiet_of_same (next_is _ (by omega) (by omega) _))))
            go_wp2
            go_roundg (l1.length - (i + 1))
            case measure => have := HI.out; omega
            case rel => exact ⟨i + 1, some x.f1, by go_num, ⟨by omega, rfl⟩, HA4, ⟨by rw [if_pos (by omega), ← HX.out]; simp⟩, ⟨fun t h => by obtain rfl := Option.some.inj h; exact HX01.out⟩, ⟨blk_drewN BF2'.out _⟩, ⟨pw_below_drewN HB2.out _⟩⟩
      · obtain rfl : i = 0 := by omega
        have hp := HP.out
        rw [if_neg (by omega)] at hp
        subst hp
        have ha := HA3.out
        simp only at ha
        have HA4 := Aside0.mk ha
        have di : decide ((0 : Int) < (0 : Int)) = false := by decide
        have HB2 := Aside0.mk (below_alloc Hb.out (.cells #[.int .i64 x.f0, .int .i64 x.f1] 102))
        have BF2' := Aside0.mk (blk_alloc BF.out (.cells #[.int .i64 x.f0, .int .i64 x.f1] 102))
        clear ha HA3
        simp only [Nat.zero_mul, Addr.add_zero'] at hx0 hx1
        go_wp2_with (first | (go_at_call 51; refine (cmp_is _ _ _).mono ?_; rintro e w' ⟨rfl, rfl⟩))
        go_quiet ((first | (go_at_call 51; exact Calls.quiet_of_same (cmp_is _ _ _)) | (go_at_call 52; exact Calls.quiet_of_same (next_is _ (by omega) (by omega) _))))
        go_wp2
        go_roundg (l1.length - 1)
        case measure => have := HI.out; omega
        case rel => exact ⟨1, some x.f1, by go_num, ⟨by omega, rfl⟩, HA4, ⟨by rw [if_pos (by omega), ← HX.out]⟩, ⟨fun t h => by obtain rfl := Option.some.inj h; exact HX01.out⟩, ⟨blk_drewN BF2'.out _⟩, ⟨pw_below_drewN HB2.out _⟩⟩
    · have hd : decide ((i : Int) < (l1.length : Int)) = false := decide_eq_false (by omega)
      have hdn : decide (i < l1.length) = false := decide_eq_false hi
      have ha := HA.out
      rw [List.drop_eq_nil_of_le (by omega)] at ha
      cases p <;> (simp only [soundL] at ha; subst ha; clear HA; go_wp2; go_ret; exact ⟨rfl, Hb.out⟩)
def ivl_Check.f (k : Nat) (l0 : List (S23)) : Option (Int) := if 1024 < (l0.length : Int) then some 2 else (ivl_runs.f k l0).bind fun rs => some (if soundL none rs then 0 else 2)
theorem ivl_Check.mono : ∀ a0 k, LeO (ivl_Check.f k a0) (ivl_Check.f (k + 1) a0) := by
  intro a0 k
  unfold ivl_Check.f
  repeat' first
      | (with_reducible exact ivl_runs.mono _ _)
      | (with_reducible exact LeO.refl _)
      | (with_reducible exact LeO.none _)
      | (with_reducible refine LeO.ite ?_ ?_)
      | (with_reducible refine LeO.bind ?_ (fun _ => ?_))
      | exact ivl_runs.mono _ _
      | exact LeO.none _
      | refine LeO.ite ?_ ?_
      | refine LeO.bind ?_ (fun _ => ?_)
set_option maxRecDepth 100000 in
set_option maxHeartbeats 4000000 in
theorem ivl_Check.calls (k : Nat) (A0 : Option Addr) (c0 : Nat) (l0 : List (S23)) (r : Int) (w : World) (hr0 : Kd.C k23 w A0 l0.length l0) (hc0 : l0.length ≤ c0) (h : ivl_Check.f k l0 = some r) :
    Calls Try.prog 39 #[.slice A0 l0.length c0] w fun e w' => e = .returned (.int .i64 r) ∧ Below w.heap.size w w' := by
  have HR0 := Aside0.mk hr0
  have HC0 := Aside0.mk hc0
  clear hr0 hc0
  unfold ivl_Check.f at h
  by_cases c1 : 1024 < (l0.length : Int)
  · rw [if_pos c1] at h
    obtain rfl := Option.some.inj h
    have d1 : decide (1024 < (l0.length : Int)) = true := decide_eq_true c1
    have d2 : decide (1024 < l0.length) = true := decide_eq_true (by omega)
    clear h
    go_enter Try.func39, Try.ntmps39
    go_wp2
    go_ret
    exact ⟨rfl, Below.refl _ _⟩
  · rw [if_neg c1] at h
    have d1 : decide (1024 < (l0.length : Int)) = false := decide_eq_false c1
    have d2 : decide (1024 < l0.length) = false := decide_eq_false (by omega)
    obtain ⟨rs, hrs, h⟩ := Option.bind_eq_some_iff.mp h
    have HRS := Aside0.mk hrs
    obtain rfl := Option.some.inj h
    obtain ⟨b, hb⟩ : ∃ b, soundL none rs = b := ⟨_, rfl⟩
    have HBS := Aside0.mk hb
    rw [hb]
    clear h hrs hb
    cases b
    all_goals
      go_enter Try.func39, Try.ntmps39
      go_wp2_with (first | (go_at_call 44; refine (times_is _).mono ?_; rintro e w5 ⟨rfl, hb5⟩; have Hb5 := Aside0.mk hb5; have HR5 := Aside0.mk (Kd.C_below HR0.out hb5); clear hb5) | (go_at_call 46; refine (ivl_runs.calls k _ _ l0 rs _ HR5.out HC0.out HRS.out).mono ?_; rintro e w6 ⟨v0, rfl, ho6, hb6⟩; have Hb6 := Aside0.mk (below_step Hb5.out hb6); have HO6 := Aside0.mk ho6; clear ho6 hb6; obtain ⟨A6, c6, rfl⟩ := Kd.R_slice HO6.out) | (go_at_call 49; refine (sound_is _ _ rs _ HBS.out _ (Kd.R_reads' HO6.out).2.2 (Kd.R_reads' HO6.out).2.1).mono ?_; rintro e w7 ⟨rfl, hb7⟩; have Hb7 := Aside0.mk (below_step Hb6.out hb7); clear hb7))
      go_ret
      exact ⟨rfl, Hb7.out⟩
def line_window.f (k : Nat) (a0_0 : Int) (a0_1 : Int) : Option (Bool) := (ivl_Check.f k (([(⟨a0_0, a0_1⟩ : S23)] : List (S23)))).bind fun t113 => (some (t113 == 0))
theorem line_window.mono : ∀ a0 a1 k, LeO (line_window.f k a0 a1) (line_window.f (k + 1) a0 a1) := by
 intro a0 a1 k
 unfold line_window.f
 repeat' first
   | (with_reducible exact ivl_Check.mono _ _)
   | (with_reducible exact LeO.refl _)
   | (with_reducible exact LeO.none _)
   | (with_reducible refine LeO.ite ?_ ?_)
   | (with_reducible refine LeO.bind ?_ (fun _ => ?_))
   | exact ivl_Check.mono _ _
   | exact LeO.none _
   | refine LeO.ite ?_ ?_
   | refine LeO.bind ?_ (fun _ => ?_)
set_option maxHeartbeats 8000000 in
set_option maxRecDepth 100000 in
theorem line_window.calls (k : Nat) (a0_0 : Int) (a0_1 : Int) (r : Bool) (w : World) (h : line_window.f k a0_0 a0_1 = some r) :
  Calls Try.prog 26 #[.agg #[.int .i64 a0_0, .int .i64 a0_1]] w fun e w' => e = .returned (.bool r) ∧ Below w.heap.size w w' := by
 have hu23 := Try.underlying23
 have HB := Ax (Below.refl w.heap.size w)
 have H : ((ivl_Check.f k (([(⟨a0_0, a0_1⟩ : S23)] : List (S23)))).bind fun t113 => (some (t113 == 0))) = some r := h
 clear h
 obtain ⟨y110, hy110⟩ : ∃ y_ : List (S23), y_ = (([(⟨a0_0, a0_1⟩ : S23)] : List (S23))) := ⟨_, rfl⟩
 replace H : ((ivl_Check.f k y110).bind fun t113 => (some (t113 == 0))) = some r := by first | (rw [hy110]; with_reducible exact H) | (have H2_ := (Option.bind_some _ _).symm.trans H; rw [hy110]; with_reducible exact H2_) | (have H2_ := (Option.bind_some _ _).symm.trans H; with_reducible exact H2_) | with_reducible exact H | (rw [hy110]; exact H) | exact H
 have Ny110 := Ax hy110
 clear hy110
 replace H := Option.bind_eq_some_iff.mp H
 obtain ⟨t113, A20, H⟩ := H
 replace H : (some (t113 == 0)) = some r := H
 have A2 := Ax A20
 clear A20
 obtain rfl := Option.some.inj H
 go_enter Try.func26, Try.ntmps26
 go_wp2_with (first | ((with_reducible refine gate_dst (N := 1) rfl ?_); refine box_event ?hg (N := 1) ?hd (cs := #[.int .i64 a0_0, .int .i64 a0_1]) (t := 23) ?hr ?_; (case hd => rfl); (case hg => rfl); (case hr => first | (go_simp; done) | (go_simp; rfl)); intro gb109 hg w3 hbox hb; have n0_ := Bs0 HB hb; have n1_ := Ax (hbox); have n2_ := Gw0 HB hg; have n3_ := Gw0 HB hg; clear HB; have HB := n0_; have BK109 := n1_; have GW109 := n2_; have GE109 := n3_; clear n0_ n1_ n2_ n3_; clear hb hbox hg; obtain ⟨hcz4_0, hcz4_1, hfz4_0, hfz4_1⟩ := cl2 BK109) | ((with_reducible refine gate_dst (N := 4) rfl ?_); refine Kd.R_lit k23 _ 23 ?hg (N := 4) ?hd (xs := ([(⟨a0_0, a0_1⟩ : S23)] : List (S23))) (inner := [.int .i64 a0_0, .int .i64 a0_1]) (ok := fun _ => True) (okp := fun _ => True) ?hr ?hp (fun _ hk => hk) trivial (Below.refl _ _) (Nat.le_refl _) (by simp) ?_; (case hd => rfl); (case hg => rfl); (case hr => first | (go_simp; done) | (go_simp; rfl)); (case hp => exact (Reps.c2 (show Kd.M k23 _ _ _ (⟨a0_0, a0_1⟩ : S23) [.int .i64 a0_0, .int .i64 a0_1] from (k23_mkM _ _ _ (⟨a0_0, a0_1⟩ : S23) )) (Reps.none _ _))); intro v111 w5 ho6 hb hg_ hnew_; clear hg_ hnew_; (first | rw [← Ny110.out] at ho6 | (simp only [Int.reduceToNat] at ho6; rw [← Ny110.out] at ho6)); have HO112 := Ax (Kd.R_lower (Kd.R_newB ho6 (g := gb109) (o := .cells #[.int .i64 a0_0, .int .i64 a0_1] 23 (0, 0)) (bf0 BK109.out)) (below_size (bw1 HB.out GE109.out))); replace BK109 := Bx0 BK109 hb; replace HB := Bs1 HB hb GE109.out; clear hb ho6; obtain ⟨Ao7, co7, eo7⟩ := Kd.R_slice HO112.out; subst eo7) | ((with_reducible refine gate_callee (f := 39) rfl ?_); refine goesL_ (some 5) rfl rfl Try.func39 (by kernel_rfl) rfl #[.slice Ao7 y110.length co7] rfl gS ?_; (with_reducible refine (ivl_Check.calls k _ _ y110 t113 _ ?side1 ?side2 A2.out).mono ?_); (case side1 => repeat (first | exact (Kd.R_reads' HO112.out).2.2 | (with_reducible refine Kd.C_alloc ?_ _) | (with_reducible refine Kd.C_drewN ?_ _) | (with_reducible refine Kd.C_drew ?_))); (case side2 => exact (Kd.R_reads' HO112.out).2.1); rintro e w8 ⟨rfl, hb⟩; refine ⟨_, rfl, ?_⟩; have n0_ := Ax (Kd.R_below (by (with_reducible repeat (first | apply Kd.R_alloc | apply Kd.R_drewN | apply Kd.R_drew)); exact HO112.out) hb); have n1_ := Bx0 BK109 hb; have n2_ := Bs1 HB hb GE109.out; clear HO112; clear BK109; clear HB; have HO112 := n0_; have BK109 := n1_; have HB := n2_; clear n0_ n1_ n2_; (try clear hb)))
 go_ret
 exact ⟨eS, bw1 HB.out GE109.out⟩
def line_right.f (a0_0 : Int) (a0_1 : Int) : Option (Bool) := if a0_0 > 0 then (if a0_0 < 5 then (if a0_1 ≥ 0 then (some (decide (a0_1 ≤ 1048576))) else (some false)) else (some false)) else (some false)
set_option maxHeartbeats 8000000 in
set_option maxRecDepth 100000 in
theorem line_right.calls (a0_0 : Int) (a0_1 : Int) (r : Bool) (w : World) (h : line_right.f a0_0 a0_1 = some r) :
  Calls Try.prog 27 #[.agg #[.int .u8 a0_0, .int .i64 a0_1]] w fun e w' => e = .returned (.bool r) ∧ Below w.heap.size w w' := by
 have hu35 := Try.underlying35
 have HB := Ax (Below.refl w.heap.size w)
 have H : (if a0_0 > 0 then (if a0_0 < 5 then (if a0_1 ≥ 0 then (some (decide (a0_1 ≤ 1048576))) else (some false)) else (some false)) else (some false)) = some r := h
 clear h
 by_cases c2 : a0_0 > 0
 ·rw [if_pos c2] at H
  have c2b0 : decide (0 < a0_0) = true := decide_eq_true c2
  clear c2
  by_cases c3 : a0_0 < 5
  ·rw [if_pos c3] at H
   have c3b0 : decide (a0_0 < 5) = true := decide_eq_true c3
   clear c3
   by_cases c4 : a0_1 ≥ 0
   ·rw [if_pos c4] at H
    have c4b0 : decide (0 ≤ a0_1) = true := decide_eq_true c4
    clear c4
    obtain rfl := Option.some.inj H
    go_enter Try.func27, Try.ntmps27
    go_wp2_with (first | ((with_reducible refine gate_dst (N := 1) rfl ?_); refine box_event ?hg (N := 1) ?hd (cs := #[.int .u8 a0_0, .int .i64 a0_1]) (t := 35) ?hr ?_; (case hd => rfl); (case hg => rfl); (case hr => first | (go_simp; done) | (go_simp; rfl)); intro gb114 hg w5 hbox hb; have n0_ := Bs0 HB hb; have n1_ := Ax (hbox); have n2_ := Gw0 HB hg; have n3_ := Gw0 HB hg; clear HB; have HB := n0_; have BK114 := n1_; have GW114 := n2_; have GE114 := n3_; clear n0_ n1_ n2_ n3_; clear hb hbox hg; obtain ⟨hcz6_0, hcz6_1, hfz6_0, hfz6_1⟩ := cl2 BK114))
    go_ret
    exact ⟨eS, bw1 HB.out GE114.out⟩
   ·rw [if_neg c4] at H
    have c4b0 : decide (0 ≤ a0_1) = false := decide_eq_false c4
    clear c4
    obtain rfl := Option.some.inj H
    go_enter Try.func27, Try.ntmps27
    go_wp2_with (first | ((with_reducible refine gate_dst (N := 1) rfl ?_); refine box_event ?hg (N := 1) ?hd (cs := #[.int .u8 a0_0, .int .i64 a0_1]) (t := 35) ?hr ?_; (case hd => rfl); (case hg => rfl); (case hr => first | (go_simp; done) | (go_simp; rfl)); intro gb114 hg w7 hbox hb; have n0_ := Bs0 HB hb; have n1_ := Ax (hbox); have n2_ := Gw0 HB hg; have n3_ := Gw0 HB hg; clear HB; have HB := n0_; have BK114 := n1_; have GW114 := n2_; have GE114 := n3_; clear n0_ n1_ n2_ n3_; clear hb hbox hg; obtain ⟨hcz8_0, hcz8_1, hfz8_0, hfz8_1⟩ := cl2 BK114))
    go_ret
    exact ⟨eS, bw1 HB.out GE114.out⟩
  ·rw [if_neg c3] at H
   have c3b0 : decide (a0_0 < 5) = false := decide_eq_false c3
   clear c3
   obtain rfl := Option.some.inj H
   go_enter Try.func27, Try.ntmps27
   go_wp2_with (first | ((with_reducible refine gate_dst (N := 1) rfl ?_); refine box_event ?hg (N := 1) ?hd (cs := #[.int .u8 a0_0, .int .i64 a0_1]) (t := 35) ?hr ?_; (case hd => rfl); (case hg => rfl); (case hr => first | (go_simp; done) | (go_simp; rfl)); intro gb114 hg w9 hbox hb; have n0_ := Bs0 HB hb; have n1_ := Ax (hbox); have n2_ := Gw0 HB hg; have n3_ := Gw0 HB hg; clear HB; have HB := n0_; have BK114 := n1_; have GW114 := n2_; have GE114 := n3_; clear n0_ n1_ n2_ n3_; clear hb hbox hg; obtain ⟨hcz10_0, hcz10_1, hfz10_0, hfz10_1⟩ := cl2 BK114))
   go_ret
   exact ⟨eS, bw1 HB.out GE114.out⟩
 ·rw [if_neg c2] at H
  have c2b0 : decide (0 < a0_0) = false := decide_eq_false c2
  clear c2
  obtain rfl := Option.some.inj H
  go_enter Try.func27, Try.ntmps27
  go_wp2_with (first | ((with_reducible refine gate_dst (N := 1) rfl ?_); refine box_event ?hg (N := 1) ?hd (cs := #[.int .u8 a0_0, .int .i64 a0_1]) (t := 35) ?hr ?_; (case hd => rfl); (case hg => rfl); (case hr => first | (go_simp; done) | (go_simp; rfl)); intro gb114 hg w11 hbox hb; have n0_ := Bs0 HB hb; have n1_ := Ax (hbox); have n2_ := Gw0 HB hg; have n3_ := Gw0 HB hg; clear HB; have HB := n0_; have BK114 := n1_; have GW114 := n2_; have GE114 := n3_; clear n0_ n1_ n2_ n3_; clear hb hbox hg; obtain ⟨hcz12_0, hcz12_1, hfz12_0, hfz12_1⟩ := cl2 BK114))
  go_ret
  exact ⟨eS, bw1 HB.out GE114.out⟩
end Go.Proofs.Ytghklhdooemjdaa.Q
end
section
namespace Go.Proofs.Ytghklhdooemjdaa.Q
open Go.RowKit Go.Proofs.YtghklhdooemjdaaW.PrintWords Go.Proofs.YtghklhdooemjdaaW.PrintLast Go.Proofs.YtghklhdooemjdaaW.PrintMore
attribute [local go_sem] max2_int min2_int max_two min_two max_three min_three max_four min_four   -- for this text's walks alone
set_option linter.unusedVariables false
set_option linter.unusedSimpArgs false
attribute [local go_sem high] eqA35 eqA52
attribute [local go_sem high] eqA35
def LnV (w0 W : World) (g : Nat) (v : Value) (out : List S97) : Prop :=
  W.heap[g]? = some (.cells #[v] 61 (0, 0)) ∧ w0.heap.size ≤ g ∧ Kd.R k97 97 W w0.heap.size (fun k => k ≠ g) v out ∧ Below w0.heap.size w0 W
theorem LnV.below {w0 W W' : World} {g : Nat} {v : Value} {out : List S97} (h : LnV w0 W g v out) (hb : Below W.heap.size W W') : LnV w0 W' g v out :=
  ⟨blk_below h.1 hb, h.2.1, Kd.R_below h.2.2.1 hb, below_step h.2.2.2 hb⟩
theorem LnV.lt {w0 W : World} {g : Nat} {v : Value} {out : List S97} (h : LnV w0 W g v out) : g < W.heap.size := blk_lt h.1
theorem LnV.put {w0 w6 : World} {g : Nat} {v v1 : Value} {out : List S97} (hb : w6.heap[g]? = some (.cells #[v] 61 (0, 0))) (hg : w0.heap.size ≤ g) (ho : Kd.R k97 97 w6 w0.heap.size (fun k => k ≠ g) v1 out) (hB : Below w0.heap.size w0 w6) : LnV w0 (w6.setCell ⟨g, 0, none⟩ v1) g v1 out :=
  ⟨blk_set hb 0 v1, hg, Kd.R_far ho (p := ⟨g, 0, none⟩) (fun _ hk => hk) v1, hB.setCell (p := ⟨g, 0, none⟩) hg v1⟩
def addV (out : List S97) (x : S97) : List S97 :=
  if 0 < out.length ∧ (rd_T97 out ((out.length - 1 : Nat) : Int)).f1.f0 = x.f1.f0 ∧ (rd_T97 out ((out.length - 1 : Nat) : Int)).f1.f1 = x.f1.f1
  then out.set (out.length - 1) ⟨⟨(rd_T97 out ((out.length - 1 : Nat) : Int)).f0.f0, x.f0.f1⟩, (rd_T97 out ((out.length - 1 : Nat) : Int)).f1⟩ else out ++ [x]
theorem infoV : (Try.prog.info? 97).map (fun i => (i.zero, i.size, i.bytes)) = some (some (.agg #[(.int .i64 0), (.int .i64 0), (.int .u8 0), (.int .i64 0)]), 4, 32) := by kernel_rfl
set_option maxRecDepth 100000 in
set_option maxHeartbeats 4000000 in
theorem addV_is (g : Nat) (v : Value) (out : List S97) (x : S97) (w0 w : World) (hL : (out.length + 1) * 32 ≤ 140737488355328) (hI : LnV w0 w g v out) :
    Calls Try.prog 28 #[.pointer (some ⟨g, 0, none⟩), .agg #[.int .i64 x.f0.f0, .int .i64 x.f0.f1], .agg #[.int .u8 x.f1.f0, .int .i64 x.f1.f1]] w fun e w' => e = .returned (.tuple #[]) ∧ ∃ v', LnV w0 w' g v' (addV out x) := by
  have HI := Aside0.mk hI
  have HL := Aside0.mk hL
  have hI2 := (hI.below (below_alloc (Below.refl _ _) (.cells #[.int .i64 x.f0.f0, .int .i64 x.f0.f1] 23)))
  have hI3 := (hI2.below (below_alloc (Below.refl _ _) (.cells #[.int .u8 x.f1.f0, .int .i64 x.f1.f1] 35)))
  have HI3 := Aside0.mk hI3
  obtain ⟨A, c, rfl⟩ := Kd.R_slice hI.2.2.1
  clear hI hI2 hI3 hL
  go_enter Try.func28, Try.ntmps28
  have hc0 : (((w.alloc (.cells #[.int .i64 x.f0.f0, .int .i64 x.f0.f1] 23)).alloc (.cells #[.int .u8 x.f1.f0, .int .i64 x.f1.f1] 35))).cell? ⟨g, 0, none⟩ = some (.slice A out.length c) := (blk_cell HI3.out.1 0).trans rfl
  have BA3 : Aside0 ((((w.alloc (.cells #[.int .i64 x.f0.f0, .int .i64 x.f0.f1] 23)).alloc (.cells #[.int .u8 x.f1.f0, .int .i64 x.f1.f1] 35))).heap[w.heap.size]? = some (.cells #[.int .i64 x.f0.f0, .int .i64 x.f0.f1] 23 (0, 0))) := ⟨blk_alloc (heap_alloc_new w _) _⟩
  have BH3 : Aside0 ((((w.alloc (.cells #[.int .i64 x.f0.f0, .int .i64 x.f0.f1] 23)).alloc (.cells #[.int .u8 x.f1.f0, .int .i64 x.f1.f1] 35))).heap[w.heap.size + 1]? = some (.cells #[.int .u8 x.f1.f0, .int .i64 x.f1.f1] 35 (0, 0))) := ⟨by
    have := heap_alloc_new (w.alloc (.cells #[.int .i64 x.f0.f0, .int .i64 x.f0.f1] 23)) (.cells #[.int .u8 x.f1.f0, .int .i64 x.f1.f1] 35)
    rwa [World.size_alloc] at this⟩
  have HG := Aside0.mk (show g ≠ w.heap.size ∧ g ≠ w.heap.size + 1 by have := HI.out.lt; omega)
  have HMX := Aside0.mk (Kd.C_max (Kd.R_reads' HI.out.2.2.1).2.2)
  by_cases hs : 0 < out.length ∧ (rd_T97 out ((out.length - 1 : Nat) : Int)).f1.f0 = x.f1.f0 ∧ (rd_T97 out ((out.length - 1 : Nat) : Int)).f1.f1 = x.f1.f1
  · have hadd : addV out x = out.set (out.length - 1) ⟨⟨(rd_T97 out ((out.length - 1 : Nat) : Int)).f0.f0, x.f0.f1⟩, (rd_T97 out ((out.length - 1 : Nat) : Int)).f1⟩ := if_pos hs
    rw [hadd]
    clear hadd
    obtain ⟨hn, hs1, hs2⟩ := hs
    obtain ⟨gr, cr, hsl, hgb, hgl, _⟩ := Kd.R_form HI3.out.2.2.1 hn
    simp only [Value.slice.injEq] at hsl
    obtain ⟨rfl, _, rfl⟩ := hsl
    obtain ⟨l, hl⟩ : ∃ l, rd_T97 out ((out.length - 1 : Nat) : Int) = l := ⟨_, rfl⟩
    rw [hl] at hs1 hs2 ⊢
    obtain ⟨ad, ead, hx0, hx1, hx2, hx3⟩ := at_T97 (Kd.R_reads' HI3.out.2.2.1).2.2 ((out.length - 1 : Nat) : Int) (by omega) (by omega)
    obtain rfl := Option.some.inj ead
    simp only [Int.toNat_natCast, add_at, Nat.zero_add] at hx0 hx1 hx2 hx3
    rw [hl] at hx2 hx3
    have hm := HMX.out
    have hq : (l.f1.f0 == x.f1.f0) = true := beq_iff_eq.mpr hs1
    have hq2 : (l.f1.f1 == x.f1.f1) = true := beq_iff_eq.mpr hs2
    have din : decide (0 < out.length) = true := decide_eq_true hn
    have dii : decide ((0 : Int) < (out.length : Int)) = true := decide_eq_true (by omega)
    have wi : IntKind.i64.wrap ((out.length : Int) - 1) = (out.length : Int) - 1 := by rw [i64_w]; unfold wrap64; omega
    have ti : ((out.length : Int) - 1).toNat = out.length - 1 := by omega
    have pi0 : (0 ≤ (out.length : Int) - 1) = True := eq_true (by omega)
    have qi0 : ((out.length : Int) - 1 < (out.length : Int)) = True := eq_true (by omega)
    have pi1 : (1 ≤ (out.length : Int)) = True := eq_true (by omega)
    have pi2 : (1 ≤ out.length) = True := eq_true (by omega)
    have hch0 := (blk_cell BH3.out 0).trans (rfl : _ = some (Value.int .u8 x.f1.f0))
    have hch1 := (blk_cell BH3.out 1).trans (rfl : _ = some (Value.int .i64 x.f1.f1))
    obtain ⟨cs, hcl, hcM, hcc, hcf⟩ := Kd.R_elem HI3.out.2.2.1 z97 ((out.length - 1 : Nat) : Int) (by omega) (by omega)
    have HE := Aside0.mk (show cs = _ from k97_openM hcM)
    have HL2 := Aside0.mk hl
    have HS := Aside0.mk (And.intro hs1 hs2)
    clear hs1 hs2 hx0 hx1 hm hl hcM
    go_wp2
    go_quiet (fail)
    go_wp2
    have HI4 := Aside0.mk (HI3.out.below (pw_below_drewN (Below.refl _ _) nq))
    have BA4 := Aside0.mk (blk_drewN BA3.out nq)
    clear hc0 HI3 BA3 BH3 hch0 hch1 hx2 hx3 hcc hcf
    generalize ((w.alloc (.cells #[.int .i64 x.f0.f0, .int .i64 x.f0.f1] 23)).alloc (.cells #[.int .u8 x.f1.f0, .int .i64 x.f1.f1] 35)).drewN nq = W4 at HI4 BA4 ⊢
    obtain ⟨cs4, hcl4, hcM4, hcc4, hcf4⟩ := Kd.R_elem HI4.out.2.2.1 z97 ((out.length - 1 : Nat) : Int) (by omega) (by omega)
    have HE4 := Aside0.mk (show cs4 = _ from k97_openM hcM4)
    have HCC := Aside0.mk hcc4
    have HCL := Aside0.mk hcl4
    have hcg := (blk_cell HI4.out.1 0).trans rfl
    have hca1 := (blk_cell BA4.out 1).trans (rfl : _ = some (Value.int .i64 x.f0.f1))
    have hz1 : W4.cell? ⟨gr, (out.length - 1) * 4 + 1, none⟩ = some (.int .i64 l.f0.f1) := by
      have h_ := hcc4 1 (.int .i64 l.f0.f1) (by rw [HE4.out]; simp only [Int.toNat_natCast, ← HL2.out]; rfl)
      simp only [Int.toNat_natCast] at h_
      exact h_
    have hzf : W4.frozen? ⟨gr, (out.length - 1) * 4 + 1, none⟩ = false := by
      have h_ := hcf4 1
      simp only [Int.toNat_natCast] at h_
      exact h_
    clear hcc4 hcf4 hcM4 hcl4
    have hR := (Kd.R_seg HI4.out.2.2.1 ((out.length - 1 : Nat) : Int) (by omega) (by omega) (c := cs4) (seg := [.int .i64 x.f0.f1]) (j := 1) HCL.out HCC.out (show 1 + 1 ≤ 4 by decide) (x' := (⟨⟨l.f0.f0, x.f0.f1⟩, l.f1⟩ : S97)) (okp := fun _ => False) (by rw [HE4.out]; simp only [Int.toNat_natCast]; exact (by have e_ : out.getD (out.length - 1) z97 = l := HL2.out; rw [e_]; exact k97_mkM _ _ _ (⟨⟨l.f0.f0, x.f0.f1⟩, l.f1⟩ : S97))) (fun _ hk => hk.elim)).1
    simp only [Int.toNat_natCast] at hR
    have HF : Aside0 (LnV w0 (W4.setCell ⟨gr, (out.length - 1) * 4 + 1, none⟩ (.int .i64 x.f0.f1)) g (.slice (some ⟨gr, 0, none⟩) out.length c) (out.set (out.length - 1) ⟨⟨l.f0.f0, x.f0.f1⟩, l.f1⟩)) :=
      ⟨blk_far HI4.out.1 (p := ⟨gr, (out.length - 1) * 4 + 1, none⟩) (by have := HI4.out.2.2.1.1 gr (by simp [Value.ownBlock]); simpa using fun e => this e.symm) _, HI4.out.2.1, hR, HI4.out.2.2.2.setCell (p := ⟨gr, (out.length - 1) * 4 + 1, none⟩) hgb _⟩
    go_region
    all_goals
      go_wp2
      first | go_end0 | ((try simp only [Exit.inBlock, Exit.then]); refine bodyPost_ret (results_none rfl _ _ _) rfl ?_)
      first | exact ⟨rfl, _, HF.out⟩ | exact ⟨rfl, _, HF.out.below (below_drew1 (Below.refl _ _))⟩
  · have hadd : addV out x = out ++ [x] := if_neg hs
    rw [hadd]
    clear hadd
    by_cases hn : 0 < out.length
    case' pos =>
      obtain ⟨l, hl⟩ : ∃ l, rd_T97 out ((out.length - 1 : Nat) : Int) = l := ⟨_, rfl⟩
      rw [hl] at hs
      obtain ⟨ad, ead, hx0, hx1, hx2, hx3⟩ := at_T97 (Kd.R_reads' HI3.out.2.2.1).2.2 ((out.length - 1 : Nat) : Int) (by omega) (by omega)
      cases ead
      simp only [Int.toNat_natCast] at hx0 hx1 hx2 hx3
      rw [hl] at hx2 hx3
      have hq : (l.f1.f0 == x.f1.f0) = false ∨ ((l.f1.f0 == x.f1.f0) = true ∧ (l.f1.f1 == x.f1.f1) = false) := by
        by_cases h1 : l.f1.f0 = x.f1.f0
        · exact .inr ⟨beq_iff_eq.mpr h1, beq_eq_false_iff_ne.mpr (fun h2 => hs ⟨hn, h1, h2⟩)⟩
        · exact .inl (beq_eq_false_iff_ne.mpr h1)
      have hm := HMX.out
      have din : decide (0 < out.length) = true := decide_eq_true hn
      have dii : decide ((0 : Int) < (out.length : Int)) = true := decide_eq_true (by omega)
      have wi : IntKind.i64.wrap ((out.length : Int) - 1) = (out.length : Int) - 1 := by rw [i64_w]; unfold wrap64; omega
      have ti : ((out.length : Int) - 1).toNat = out.length - 1 := by omega
      have pi0 : (0 ≤ (out.length : Int) - 1) = True := eq_true (by omega)
      have qi0 : ((out.length : Int) - 1 < (out.length : Int)) = True := eq_true (by omega)
      have hch0 := (blk_cell BH3.out 0).trans (rfl : _ = some (Value.int .u8 x.f1.f0))
      have hch1 := (blk_cell BH3.out 1).trans (rfl : _ = some (Value.int .i64 x.f1.f1))
      have pi1 : (1 ≤ (out.length : Int)) = True := eq_true (by omega)
      have pi2 : (1 ≤ out.length) = True := eq_true (by omega)
      clear hs hx0 hx1 hm hl
      rcases hq with hq | ⟨hq, hq2⟩
      all_goals
        go_wp2
        go_quiet (fail)
        go_wp2
    case' neg =>
      have hdn : decide (0 < out.length) = false := decide_eq_false hn
      have hdi : decide ((0 : Int) < (out.length : Int)) = false := decide_eq_false (by omega)
      clear hs hn
      go_wp2
      go_quiet (fail)
      go_wp2
    all_goals
      have HI4 := Aside0.mk (HI3.out.below (pw_below_drewN (Below.refl _ _) nq))
      have BA4 := Aside0.mk (blk_drewN BA3.out nq)
      have BH4 := Aside0.mk (blk_drewN BH3.out nq)
      clear hc0 HI3 BA3 BH3
      generalize ((w.alloc (.cells #[.int .i64 x.f0.f0, .int .i64 x.f0.f1] 23)).alloc (.cells #[.int .u8 x.f1.f0, .int .i64 x.f1.f1] 35)).drewN nq = W4 at HI4 BA4 BH4 ⊢
      have HI8 := Aside0.mk (HI4.out.below (below_drew1 (Below.refl _ _)))
      have hcg := (blk_cell HI4.out.1 0).trans rfl
      have hca0 : W4.cell? ⟨w.heap.size, 0, none⟩ = some (.int .i64 x.f0.f0) := (blk_cell BA4.out 0).trans rfl
      have hca1 : W4.cell? ⟨w.heap.size, 1, none⟩ = some (.int .i64 x.f0.f1) := (blk_cell BA4.out 1).trans rfl
      have hch0 : W4.cell? ⟨w.heap.size + 1, 0, none⟩ = some (.int .u8 x.f1.f0) := (blk_cell BH4.out 0).trans rfl
      have hch1 : W4.cell? ⟨w.heap.size + 1, 1, none⟩ = some (.int .i64 x.f1.f1) := (blk_cell BH4.out 1).trans rfl
      have hx0 := (blk_cell (blk_alloc HI4.out.1 (.cells #[.int .i64 x.f0.f0, .int .i64 x.f0.f1, .int .u8 x.f1.f0, .int .i64 x.f1.f1] 97)) 0).trans rfl
      go_region_law (refine Kd.R_append_step k97 (w0 := w0) w0.heap.size rfl (.tmp 42) (.tmp 46) 59 97 (.agg #[(.int .i64 0), (.int .i64 0), (.int .u8 0), (.int .i64 0)]) 32 rfl Try.underlying59 infoV rfl (by decide) (by omega) _ out x [.int .i64 x.f0.f0, .int .i64 x.f0.f1, .int .u8 x.f1.f0, .int .i64 x.f1.f1] (fun k_ => k_ ≠ g) (fun _ => False) rfl rfl (k97_mkM _ _ _ _) (fun _ hk => hk.elim) ?aF HI8.out.2.2.1 HI8.out.2.2.2 HI8.out.2.2.2.size HL.out ?_; (case aF => intro k_ hk_ he_; subst he_; exact absurd (LnV.lt HI8.out) (Nat.not_lt.2 hk_)); intro v1 w6 ho hb hg hat; obtain ⟨A1, c1, rfl⟩ := Kd.R_slice ho; rw [List.length_append, List.length_singleton] at ho hat; have hB6 := blk_grown HI8.out.1 hg (Kd.R_away HI8.out.2.2.1 (fun _ hk => hk)); have HO6 := Aside0.mk ho; have HB6 := Aside0.mk hB6; have Hb6 := Aside0.mk hb; have hc64 := (blk_cell hB6 0).trans rfl; have hf64 := blk_frozen hB6 0; clear ho hb hg hat hB6)
      all_goals
        first | go_end0 | ((try simp only [Exit.inBlock, Exit.then]); refine bodyPost_ret (results_none rfl _ _ _) rfl ?_)
        exact ⟨rfl, _, LnV.put HB6.out HI8.out.2.1 (by simpa using HO6.out) Hb6.out⟩
def eraOf (p : S97) : S52 := ⟨p.f0, p.f1⟩
theorem infoE : (Try.prog.info? 52).map (fun i => (i.zero, i.size, i.bytes)) = some (some (.agg #[(.int .i64 0), (.int .i64 0), (.int .u8 0), (.int .i64 0)]), 4, 32) := by kernel_rfl
set_option maxRecDepth 100000 in
set_option maxHeartbeats 4000000 in
theorem eras_is (g : Nat) (v : Value) (out : List S97) (w0 w : World) (hL : out.length * 32 ≤ 140737488355328) (hI : LnV w0 w g v out) :
    Calls Try.prog 29 #[.pointer (some ⟨g, 0, none⟩)] w fun e w' => ∃ v0_ : Value, e = .returned v0_ ∧ Kd.R k52 52 w' w.heap.size (fun _ => True) v0_ (out.map eraOf) ∧ Below w.heap.size w w' := by
  have HI := Aside0.mk hI
  have HL := Aside0.mk hL
  obtain ⟨A, c, rfl⟩ := Kd.R_slice hI.2.2.1
  have HC := Aside0.mk (Kd.R_reads' HI.out.2.2.1).2.2
  have HM := Aside0.mk (Kd.C_max HC.out)
  have hcg := (blk_cell hI.1 0).trans rfl
  clear hI hL
  go_enter Try.func29, Try.ntmps29
  go_wp2
  clear hcg
  go_loopg [3, 11] out.length (fun kq v3 v11 w' => ∃ (i : Nat), v11 = .int .i64 (i : Int) ∧ Aside0 (i ≤ out.length ∧ kq = out.length - i) ∧ Aside0 (Kd.R k52 52 w' w.heap.size (fun _ => True) v3 ((out.take i).map eraOf)) ∧ Aside0 (Below w.heap.size w w'))
  case atStart => exact ⟨0, rfl, ⟨Nat.zero_le _, rfl⟩, ⟨Kd.R_nil _ _ _ _ _⟩, ⟨Below.refl _ _⟩⟩
  case round =>
    obtain ⟨i, rfl, HJ, HO, Hb⟩ := hrel
    have hm := HM.out
    obtain ⟨A3, c3, rfl⟩ := Kd.R_slice HO.out
    by_cases hi : i < out.length
    · have hd : decide ((i : Int) < (out.length : Int)) = true := decide_eq_true (by omega)
      have hdn : decide (i < out.length) = true := decide_eq_true hi
      have htk : (out.take (i + 1)).map eraOf = (out.take i).map eraOf ++ [eraOf (rd_T97 out (i : Int))] := by
        rw [List.take_succ_eq_append_getElem hi, List.map_append]
        simp [rd_T97, List.getD_eq_getElem?_getD, hi]
      have p0 : (0 : Int) ≤ (i : Int) := by omega
      have q0 : (i : Int) < (out.length : Int) := by omega
      obtain ⟨ad, ead, hx0, hx1, hx2, hx3⟩ := at_T97 (Kd.C_below HC.out Hb.out) (i : Int) p0 q0
      cases ead
      simp only [Int.toNat_natCast] at hx0 hx1 hx2 hx3
      obtain ⟨x, hx⟩ : ∃ x, rd_T97 out (i : Int) = x := ⟨_, rfl⟩
      rw [hx] at hx0 hx1 hx2 hx3 htk
      have HT := Aside0.mk htk
      have HII := Aside0.mk hi
      have HLL : Aside0 ((((out.take i).map eraOf).length + 1) * 32 ≤ 140737488355328) := ⟨by have := HL.out; rw [List.length_map, List.length_take]; omega⟩
      replace p0 := eq_true p0
      replace q0 := eq_true q0
      clear hx htk
      go_wp2_with (at_builtin; refine Kd.R_append k52 (w0 := w) w.heap.size rfl (.tmp 15) (.tmp 21) 25 52 (.agg #[(.int .i64 0), (.int .i64 0), (.int .u8 0), (.int .i64 0)]) 32 rfl Try.underlying25 infoE rfl (by decide) (by omega) _ ((out.take i).map eraOf) (eraOf x) [.int .i64 x.f0.f0, .int .i64 x.f0.f1, .int .u8 x.f1.f0, .int .i64 x.f1.f1] (fun _ => True) (fun _ => False) rfl ?aX (k52_mkM _ _ _ (eraOf x)) (fun _ hk => hk.elim) (fun _ _ => trivial) (Kd.R_alloc HO.out (.cells #[.int .i64 x.f0.f0, .int .i64 x.f0.f1, .int .u8 x.f1.f0, .int .i64 x.f1.f1] 97)) (below_alloc Hb.out (.cells #[.int .i64 x.f0.f0, .int .i64 x.f0.f1, .int .u8 x.f1.f0, .int .i64 x.f1.f1] 97)) (below_alloc Hb.out _).size HLL.out ?_; (case aX => first | rfl | (go_simp; done) | (go_simp; rfl)); intro v1 w1 ho1 hb1 hg1 hat1; have HO1 := Aside0.mk ho1; have Hb1 := Aside0.mk hb1; clear ho1 hb1 hg1 hat1)
      go_roundg (out.length - (i + 1))
      case measure => have := HJ.out; omega
      case rel => exact ⟨i + 1, by go_num, ⟨by omega, rfl⟩, ⟨by rw [HT.out]; exact HO1.out⟩, Hb1⟩
    · have hd : decide ((i : Int) < (out.length : Int)) = false := decide_eq_false (by omega)
      have hdn : decide (i < out.length) = false := decide_eq_false hi
      have ho := HO.out
      generalize hv : (Value.slice A3 ((out.take i).map eraOf).length c3) = vv at ho
      rw [List.take_of_length_le (by omega)] at ho
      subst hv
      have HO2 := Aside0.mk ho
      clear ho
      go_wp2
      go_ret
      exact ⟨_, rfl, HO2.out, Hb.out⟩
def rightB (x : S35) : Bool := (line_right.f x.f0 x.f1).getD false
theorem right_some (a b : Int) : line_right.f a b = some (rightB ⟨a, b⟩) := by unfold rightB line_right.f; (repeat' split) <;> rfl
theorem addV_len (out : List S97) (x : S97) : (addV out x).length ≤ out.length + 1 := by unfold addV; split <;> simp
def mk_l (wt : Int) : List S46 → List S97 → Option (List S97)
  | [], out => some out
  | m :: rest, out => if rightB m.f1 = false ∨ wt < m.f0 then none else
      match rest with
      | [] => some (addV out ⟨⟨m.f0, wt⟩, m.f1⟩)
      | n :: _ => if n.f0 ≤ m.f0 then none else mk_l wt rest (addV out ⟨⟨m.f0, wrap64 (n.f0 - 1)⟩, m.f1⟩)
def line_Make.f (k : Nat) (a0_0 a0_1 : Int) (l1 : List S46) : Option (List S52 × Int) := (line_window.f k a0_0 a0_1).bind fun q =>
  if q = true ∧ 0 < l1.length ∧ (rd_T46 l1 0).f0 = a0_0 then
    (if 0 ≤ a0_0 ∧ a0_1 ≤ 1099511627776 then some (match mk_l a0_1 l1 [] with
      | none => ([], 2)
      | some out => if 1024 < out.length then ([], 11) else (out.map eraOf, 0)) else none)
  else some ([], 2)
theorem mk_room {o i : Nat} {a b mf : Int} (h : 0 ≤ a ∧ b ≤ 1099511627776) (ho : o ≤ i) (hi : a + (i : Int) ≤ mf) (ht : ¬ b < mf) : (o + 1) * 32 ≤ 140737488355328 := by omega
theorem mk_step {a mf nf : Int} {i : Nat} (h1 : a + (i : Int) ≤ mf) (h2 : mf < nf) : a + ((i + 1 : Nat) : Int) ≤ nf := by omega
theorem line_Make.mono : ∀ a0 a1 a2 k, LeO (line_Make.f k a0 a1 a2) (line_Make.f (k + 1) a0 a1 a2) := by
  intro a0 a1 a2 k
  unfold line_Make.f
  exact LeO.bind (line_window.mono _ _ _) (fun _ => LeO.refl _)
def line_Make.T1 : Bool × List (List Nat × List Nat) := (true, [([], []), ([0], [0]), ([1], [1]), ([2, 1], [2]), ([3], [3]), ([4, 3], [3, 4]), ([5, 3], [3, 5]), ([3, 6], [3, 6]), ([7, 3], [7]), ([8], [8]), ([9, 8], [8, 9]), ([10, 8], [8, 10]), ([11, 8], [8, 11]), ([8], [8]), ([13, 8], [8, 13]), ([12, 14, 8], [8, 12, 14]), ([8, 15], [8, 15])])
def line_Make.B1 : List Nat := [0, 1, 3, 7, 15, 31, 63, 127, 255, 511, 1023, 2047, 4095, 511, 8703, 32767, 65535]
theorem line_Make.tab1 : rtab .any (opsOf Try.f8 1) = line_Make.T1 := by kernel_rfl
theorem line_Make.bits1 : waitsOk line_Make.T1.2 line_Make.B1 = true := by kernel_rfl
set_option maxRecDepth 100000 in
set_option maxHeartbeats 2000000 in
theorem line_Make.calls (k : Nat) (a0_0 : Int) (a0_1 : Int) (A1 : Option Addr) (c1 : Nat) (l1 : List (S46)) (r1 : List (S52)) (r2 : Int) (w : World) (hr1 : Kd.C k46 w A1 l1.length l1) (hc1 : l1.length ≤ c1) (h : line_Make.f k a0_0 a0_1 l1 = some (r1, r2)) :
    Calls Try.prog 8 #[.agg #[.int .i64 a0_0, .int .i64 a0_1], .slice A1 l1.length c1] w fun e w' => ∃ v0_ : Value, e = .returned (.tuple #[v0_, .int .i64 r2]) ∧ Kd.R k52 52 w' w.heap.size (fun _ => True) v0_ r1 ∧ Below w.heap.size w w' := by
  obtain ⟨q, hq, h⟩ := Option.bind_eq_some_iff.mp h
  have HQ := Aside0.mk hq
  have HR := Aside0.mk (Kd.C_drew (Kd.C_below hr1 (below_alloc (Below.refl w.heap.size w) (.cells #[.int .i64 a0_0, .int .i64 a0_1] 23))))
  have HM := Aside0.mk (Kd.C_max hr1)
  have HB := Aside0.mk (below_drew1 (below_alloc (Below.refl w.heap.size w) (.cells #[.int .i64 a0_0, .int .i64 a0_1] 23)))
  have BW := Aside0.mk (blk_drew (heap_alloc_new w (.cells #[.int .i64 a0_0, .int .i64 a0_1] 23)))
  have HZ : w.heap.size + 1 ≤ (w.alloc (.cells #[.int .i64 a0_0, .int .i64 a0_1] 23)).drew.heap.size := by rw [show (w.alloc (.cells #[.int .i64 a0_0, .int .i64 a0_1] 23)).drew.heap.size = (w.alloc (.cells #[.int .i64 a0_0, .int .i64 a0_1] 23)).heap.size from rfl, World.size_alloc]; exact Nat.le_refl _
  clear hq hr1
  go_enter Try.func8, Try.ntmps8
  by_cases hq : q = true ∧ 0 < l1.length ∧ (rd_T46 l1 0).f0 = a0_0
  · obtain ⟨rfl, hn, hm0⟩ := hq
    rw [if_pos ⟨rfl, hn, hm0⟩] at h
    by_cases hl : 0 ≤ a0_0 ∧ a0_1 ≤ 1099511627776
    case neg => rw [if_neg hl] at h; cases h
    rw [if_pos hl] at h
    have HLL := Aside0.mk hl
    have H := Aside0.mk (Option.some.inj h)
    have HN := Aside0.mk hn
    have HM0 := Aside0.mk (show a0_0 + ((0 : Nat) : Int) ≤ (rd_T46 l1 ((0 : Nat) : Int)).f0 by rw [Int.natCast_zero, hm0]; omega)
    clear h hl
    obtain ⟨ad, ead, hx0, hx1, hx2⟩ := at_T46 HR.out 0 (by omega) (by omega)
    cases ead
    simp only [Int.toNat_zero, Nat.zero_mul, Addr.add_zero'] at hx0
    clear hx1 hx2
    obtain ⟨m0, em0⟩ : ∃ m0, (rd_T46 l1 0).f0 = m0 := ⟨_, rfl⟩
    rw [em0] at hx0 hm0
    have hd0 : (m0 != a0_0) = false := by rw [hm0]; exact bne_self_eq_false _
    have hl0 : ((l1.length : Int) == 0) = false := beq_eq_false_iff_ne.mpr (by omega)
    have hl1 : ¬ (l1 = []) := fun e => by rw [e] at hn; cases hn
    have hp0 : (0 < l1.length) = True := eq_true hn
    have hp1 : ((0 : Int) < (l1.length : Int)) = True := eq_true (by omega)
    clear hm0 em0 hn
    go_wp2
    refine start_ (n := 17) (S := fun w' => w'.cell? ⟨w.heap.size, 0, none⟩ = some (.int .i64 a0_0) ∧ w'.cell? ⟨w.heap.size, 1, none⟩ = some (.int .i64 a0_1) ∧ w'.cell? ad = some (.int .i64 m0)) (ds := []) #[false,false,false,false,false,false,false,false,false,false,false,false,false,false,false,false,false] (by kernel_rfl) rfl rfl ⟨(blk_cell BW.out 0).trans rfl, (blk_cell BW.out 1).trans rfl, hx0⟩ (fun hHeld => ?_); refine with_tabW line_Make.tab1 line_Make.bits1 (fun HT_ HW_ => ?_)
    refine take_ (i := 0) (N := some 11) (v := ?_) (a' := ?_) #[true,false,false,false,false,false,false,false,false,false,false,false,false,false,false,false,false] rfl rfl (take_ofW HT_.out HW_.out (by kernel_rfl)) (fun _ _ _ h => h) (Or.inl ⟨by rfl, ?_⟩) hHeld ?_ ?_
    rotate_left
    · rintro w' ⟨s0, s1, s2⟩
      go_simp
      with_reducible rfl
    rotate_left
    · simp only [sP]
      rfl
    refine one_ (i := 1) (N := some 12) #[true,true,false,false,false,false,false,false,false,false,false,false,false,false,false,false,false] rfl rfl (one_of HT_.out (by kernel_rfl)) (by decide) (fun K hK => ?_)
    refine goes_ Try.func26 (by kernel_rfl) rfl #[.agg #[.int .i64 a0_0, .int .i64 a0_1]] (by rfl) rfl rfl gS ?_
    with_reducible refine (line_window.calls k a0_0 a0_1 true _ HQ.out).mono ?_
    rintro e w9 ⟨rfl, hb⟩
    refine ⟨_, rfl, ?_⟩
    replace BW := Aside0.mk (blk_below BW.out hb)
    replace HB := Aside0.mk (below_step HB.out hb)
    replace HZ := Nat.le_trans HZ hb.size
    replace hx0 := (hb.cell (World.block_lt_of_cell? _ _ hx0)).trans hx0
    replace HR := Aside0.mk (Kd.C_below HR.out hb)
    clear hb
    refine hK.out _ _ ⟨(blk_cell BW.out 0).trans rfl, (blk_cell BW.out 1).trans rfl, hx0⟩ (fun hHeld => ?_)
    clear hK K
    refine norm_ (a' := ?_) ?_ ?_
    rotate_left
    · show Act.put _ (some 12) _ = _
      simp only [sP]
      rfl
    refine pure_ (i := 2) (N := some 13) (v := ?_) (a' := ?_) #[true,true,true,false,false,false,false,false,false,false,false,false,false,false,false,false,false] rfl rfl (any_of HT_.out (by kernel_rfl)) (fun _ _ _ h => h) (Or.inl ⟨by rfl, ?_⟩) ?_ ?_
    rotate_left
    · intro w'
      go_simp
      with_reducible rfl
    rotate_left
    · simp only [sP]
      rfl
    refine pure_ (i := 3) (N := some 14) (v := ?_) (a' := ?_) #[true,true,true,true,false,false,false,false,false,false,false,false,false,false,false,false,false] rfl rfl (any_of HT_.out (by kernel_rfl)) (fun _ _ _ h => h) (Or.inl ⟨by rfl, ?_⟩) ?_ ?_
    rotate_left
    · intro w'
      go_simp
      with_reducible rfl
    rotate_left
    · simp only [sP]
      rfl
    refine pure_ (i := 4) (N := some 15) (v := ?_) (a' := ?_) #[true,true,true,true,true,false,false,false,false,false,false,false,false,false,false,false,false] rfl rfl (any_of HT_.out (by kernel_rfl)) (fun _ _ _ h => h) (Or.inl ⟨by rfl, ?_⟩) ?_ ?_
    rotate_left
    · intro w'
      go_simp
      with_reducible rfl
    rotate_left
    · simp only [sP]
      rfl
    refine pure_ (i := 5) (N := some 16) (v := ?_) (a' := ?_) #[true,true,true,true,true,true,false,false,false,false,false,false,false,false,false,false,false] rfl rfl (any_of HT_.out (by kernel_rfl)) (fun _ _ _ h => h) (Or.inl ⟨by rfl, ?_⟩) ?_ ?_
    rotate_left
    · intro w'
      go_simp
      with_reducible rfl
    rotate_left
    · simp only [sP]
      rfl
    refine pure_ (i := 6) (N := some 17) (v := ?_) (a' := ?_) #[true,true,true,true,true,true,true,false,false,false,false,false,false,false,false,false,false] rfl rfl (any_of HT_.out (by kernel_rfl)) (fun _ _ _ h => h) (Or.inl ⟨by rfl, ?_⟩) ?_ ?_
    rotate_left
    · intro w'
      go_simp
      with_reducible rfl
    rotate_left
    · simp only [sP]
      rfl
    refine pure_ (i := 7) (N := some 18) (v := ?_) (a' := ?_) #[true,true,true,true,true,true,true,true,false,false,false,false,false,false,false,false,false] rfl rfl (any_of HT_.out (by kernel_rfl)) (fun _ _ _ h => h) (Or.inl ⟨by rfl, ?_⟩) ?_ ?_
    rotate_left
    · intro w'
      go_simp
      with_reducible rfl
    rotate_left
    · simp only [sP]
      rfl
    refine pure_ (i := 8) (N := some 19) (v := ?_) (a' := ?_) #[true,true,true,true,true,true,true,true,true,false,false,false,false,false,false,false,false] rfl rfl (any_of HT_.out (by kernel_rfl)) (fun _ _ _ h => h) (Or.inl ⟨by rfl, ?_⟩) ?_ ?_
    rotate_left
    · intro w'
      go_simp
      with_reducible rfl
    rotate_left
    · simp only [sP]
      rfl
    refine pure_ (i := 9) (N := some 20) (v := ?_) (a' := ?_) #[true,true,true,true,true,true,true,true,true,true,false,false,false,false,false,false,false] rfl rfl (any_of HT_.out (by kernel_rfl)) (fun _ _ _ h => h) (Or.inl ⟨by rfl, ?_⟩) ?_ ?_
    rotate_left
    · intro w'
      go_simp
      with_reducible rfl
    rotate_left
    · simp only [sP]
      rfl
    refine pure_ (i := 10) (N := some 21) (v := ?_) (a' := ?_) #[true,true,true,true,true,true,true,true,true,true,true,false,false,false,false,false,false] rfl rfl (any_of HT_.out (by kernel_rfl)) (fun _ _ _ h => h) (Or.inl ⟨by rfl, ?_⟩) ?_ ?_
    rotate_left
    · intro w'
      go_simp
      with_reducible rfl
    rotate_left
    · simp only [sP]
      rfl
    refine pure_ (i := 11) (N := some 22) (v := ?_) (a' := ?_) #[true,true,true,true,true,true,true,true,true,true,true,true,false,false,false,false,false] rfl rfl (any_of HT_.out (by kernel_rfl)) (fun _ _ _ h => h) (Or.inl ⟨by rfl, ?_⟩) ?_ ?_
    rotate_left
    · intro w'
      go_simp
      with_reducible rfl
    rotate_left
    · simp only [sP]
      rfl
    refine pure_ (i := 13) (N := some 24) (v := ?_) (a' := ?_) #[true,true,true,true,true,true,true,true,true,true,true,true,false,true,false,false,false] rfl rfl (any_of HT_.out (by kernel_rfl)) (fun _ _ _ h => h) (Or.inl ⟨by rfl, ?_⟩) ?_ ?_
    rotate_left
    · intro w'
      go_simp
      with_reducible rfl
    rotate_left
    · simp only [sP]
      rfl
    refine take_ (i := 12) (N := some 23) (v := ?_) (a' := ?_) #[true,true,true,true,true,true,true,true,true,true,true,true,true,true,false,false,false] rfl rfl (take_ofW HT_.out HW_.out (by kernel_rfl)) (fun _ _ _ h => h) (Or.inl ⟨by rfl, ?_⟩) hHeld ?_ ?_
    rotate_left
    · rintro w' ⟨s0, s1, s2⟩
      go_simp
      with_reducible rfl
    rotate_left
    · simp only [sP]
      rfl
    refine take_ (i := 14) (N := some 25) (v := ?_) (a' := ?_) #[true,true,true,true,true,true,true,true,true,true,true,true,true,true,true,false,false] rfl rfl (take_ofW HT_.out HW_.out (by kernel_rfl)) (fun _ _ _ h => h) (Or.inl ⟨by rfl, ?_⟩) hHeld ?_ ?_
    rotate_left
    · rintro w' ⟨s0, s1, s2⟩
      go_simp
      with_reducible rfl
    rotate_left
    · simp only [sP]
      rfl
    refine pure_ (i := 15) (N := some 26) (v := ?_) (a' := ?_) #[true,true,true,true,true,true,true,true,true,true,true,true,true,true,true,true,false] rfl rfl (any_of HT_.out (by kernel_rfl)) (fun _ _ _ h => h) (Or.inl ⟨by rfl, ?_⟩) ?_ ?_
    rotate_left
    · intro w'
      go_simp
      with_reducible rfl
    rotate_left
    · simp only [sP]
      rfl
    refine pure_ (i := 16) (N := some 27) (v := ?_) (a' := ?_) #[true,true,true,true,true,true,true,true,true,true,true,true,true,true,true,true,true] rfl rfl (any_of HT_.out (by kernel_rfl)) (fun _ _ _ h => h) (Or.inl ⟨by rfl, ?_⟩) ?_ ?_
    rotate_left
    · intro w'
      go_simp
      with_reducible rfl
    rotate_left
    · simp only [sP]
      rfl
    refine done_ (done_of HT_.out (by kernel_rfl)) ?_
    clear hx0 hd0 hl0 hl1 hp0 hp1 hHeld
    go_wp2
    go_loopg [32] l1.length (fun kq v32 w' => ∃ (i : Nat) (v : Value) (out : List S97), v32 = .int .i64 (i : Int) ∧ Aside0 (i ≤ l1.length ∧ kq = l1.length - i) ∧ Aside0 (mk_l a0_1 (l1.drop i) out = mk_l a0_1 l1 []) ∧ Aside0 (LnV w9 w' w9.heap.size v out) ∧ Aside0 (out.length ≤ i ∧ (i < l1.length → a0_0 + (i : Int) ≤ (rd_T46 l1 (i : Int)).f0)))
    case atStart => exact ⟨0, .slice none 0 0, [], rfl, ⟨Nat.zero_le _, rfl⟩, ⟨rfl⟩, ⟨heap_alloc_new w9 _, Nat.le_refl _, Kd.R_nil _ _ _ _ _, below_alloc (Below.refl _ _) _⟩, ⟨Nat.le_refl _, fun _ => HM0.out⟩⟩
    case round =>
      obtain ⟨i, v, out, rfl, HI, HA, HLN, HO⟩ := hrel
      have hm := HM.out
      by_cases hi : i < l1.length
      · have hd : decide ((i : Int) < (l1.length : Int)) = true := decide_eq_true (by omega)
        have hdn : decide (i < l1.length) = true := decide_eq_true hi
        have hrd : l1.drop i = rd_T46 l1 (i : Int) :: l1.drop (i + 1) := by
          rw [List.drop_eq_getElem_cons hi]
          simp [rd_T46, List.getD_eq_getElem?_getD, hi]
        have BW1 := Aside0.mk (blk_below BW.out HLN.out.2.2.2)
        have ha := HA.out
        rw [hrd] at ha
        have p0 : (0 : Int) ≤ (i : Int) := by omega
        have q0 : (i : Int) < (l1.length : Int) := by omega
        obtain ⟨ad2, ead, hx0, hx1, hx2⟩ := at_T46 (Kd.C_below HR.out HLN.out.2.2.2) (i : Int) p0 q0
        obtain rfl := Option.some.inj ead
        clear ead
        simp only [Int.toNat_natCast] at hx0 hx1 hx2
        generalize rd_T46 l1 (i : Int) = m at *
        have HII := Aside0.mk hi
        have HOM := Aside0.mk (HO.out.2 hi)
        replace HO := Aside0.mk HO.out.1
        replace p0 := eq_true p0
        replace q0 := eq_true q0
        clear hrd HA
        have BM := Aside0.mk (heap_alloc_new wr (.cells #[.int .i64 m.f0, .int .u8 m.f1.f0, .int .i64 m.f1.f1] 46))
        have BA := Aside0.mk (below_alloc (Below.refl wr.heap.size wr) (.cells #[.int .i64 m.f0, .int .u8 m.f1.f0, .int .i64 m.f1.f1] 46))
        by_cases c1 : rightB m.f1 = false ∨ a0_1 < m.f0
        · simp only [mk_l, if_pos c1] at ha
          have h5 := H.out
          rw [← ha] at h5
          obtain ⟨e1, e2⟩ := Prod.mk.inj h5
          subst e1
          subst e2
          clear ha h5 H
          obtain ⟨q1, eq1⟩ : ∃ q1, rightB m.f1 = q1 := ⟨_, rfl⟩
          have HQ1 := Aside0.mk eq1
          rw [eq1] at c1
          have hq1 : q1 = false ∨ (q1 = true ∧ decide (a0_1 < m.f0) = true) := by
            cases q1
            · exact .inl rfl
            · exact .inr ⟨rfl, decide_eq_true (c1.resolve_left (by decide))⟩
          clear c1 eq1
          obtain (rfl | ⟨rfl, hdt⟩) := hq1
          all_goals
            go_wp2_with (go_at_call 27; refine (line_right.calls m.f1.f0 m.f1.f1 _ _ ((right_some _ _).trans (congrArg some HQ1.out))).mono ?_; rintro e w5 ⟨rfl, hb5⟩; have hn0 := (blk_cell (blk_below BM.out hb5) 0).trans rfl; have hn1 := (blk_cell (blk_below BW1.out (below_step BA.out hb5)) 1).trans rfl)
            go_ret2
            exact ⟨_, rfl, Kd.R_nil _ _ _ _ _, below_step (below_step HB.out HLN.out.2.2.2) (below_step BA.out hb5)⟩
        · have HQ1 := Aside0.mk (show rightB m.f1 = true by cases e : rightB m.f1; exact absurd (.inl e) c1; rfl)
          have HTM := Aside0.mk (show ¬ a0_1 < m.f0 from fun e => c1 (.inr e))
          have HRM := Aside0.mk (mk_room HLL.out HO.out HOM.out HTM.out)
          have hdt : decide (a0_1 < m.f0) = false := decide_eq_false HTM.out
          simp only [mk_l, if_neg c1] at ha
          clear c1
          have wi : IntKind.i64.wrap ((i : Int) + 1) = (i : Int) + 1 := by rw [i64_w]; unfold wrap64; omega
          have ti : ((i : Int) + 1).toNat = i + 1 := by omega
          by_cases hi2 : i + 1 < l1.length
          · have hrd2 : l1.drop (i + 1) = rd_T46 l1 ((i : Int) + 1) :: l1.drop (i + 1 + 1) := by
              rw [List.drop_eq_getElem_cons hi2]
              simp [rd_T46, List.getD_eq_getElem?_getD, hi2, ti]
            have HII2 := Aside0.mk hi2
            have PI := Aside0.mk (show (0 : Int) ≤ (i : Int) + 1 ∧ (i : Int) + 1 < (l1.length : Int) by omega)
            obtain ⟨n2, en2⟩ : ∃ n2, rd_T46 l1 ((i : Int) + 1) = n2 := ⟨_, rfl⟩
            have HN2 := Aside0.mk en2
            rw [hrd2, en2] at ha
            dsimp only at ha
            have d1 : decide ((i : Int) + 1 < (l1.length : Int)) = true := decide_eq_true (by omega)
            have d2 : decide (i + 1 < l1.length) = true := decide_eq_true hi2
            have d3 : decide ((i : Int) < (l1.length : Int) - 1) = true := decide_eq_true (by omega)
            have pi0 : (0 ≤ (i : Int) + 1) = True := eq_true (by omega)
            have qi0 : ((i : Int) + 1 < (l1.length : Int)) = True := eq_true (by omega)
            have qi1 : (i + 1 < l1.length) = True := eq_true hi2
            by_cases c2 : n2.f0 ≤ m.f0
            · have d4 : decide (n2.f0 ≤ m.f0) = true := decide_eq_true c2
              rw [if_pos c2] at ha
              have h5 := H.out
              rw [← ha] at h5
              obtain ⟨e1, e2⟩ := Prod.mk.inj h5
              subst e1
              subst e2
              clear ha h5 H c2 hrd2 en2 hi2
              go_wp2_with (go_at_call 27; refine (line_right.calls m.f1.f0 m.f1.f1 _ _ ((right_some _ _).trans (congrArg some HQ1.out))).mono ?_; rintro e w5 ⟨rfl, hb5⟩; have hn0 := (blk_cell (blk_below BM.out hb5) 0).trans rfl; have hn2 := (blk_cell (blk_below BM.out hb5) 1).trans rfl; have hn3 := (blk_cell (blk_below BM.out hb5) 2).trans rfl; have hn1 := (blk_cell (blk_below BW1.out (below_step BA.out hb5)) 1).trans rfl; have hC5 := Kd.C_below HR.out (below_step HLN.out.2.2.2 (below_step BA.out hb5)); obtain ⟨ad3, ead3, hy0, hy1, hy2⟩ := at_T46 hC5 ((i : Int) + 1) PI.out.1 PI.out.2; obtain rfl := Option.some.inj ead3; simp only [ti, HN2.out] at hy0; clear hy1 hy2 ead3 hC5; have HL5 := Aside0.mk (HLN.out.below (below_step BA.out hb5)); clear hb5)
              go_ret2
              exact ⟨_, rfl, Kd.R_nil _ _ _ _ _, below_step HB.out HL5.out.2.2.2⟩
            · have d4 : decide (n2.f0 ≤ m.f0) = false := decide_eq_false c2
              rw [if_neg c2, ← en2, ← hrd2, en2] at ha
              obtain ⟨tq, hto⟩ : ∃ tq, wrap64 (n2.f0 - 1) = tq := ⟨_, rfl⟩
              have hto2 : IntKind.i64.wrap (n2.f0 - 1) = tq := (i64_w _).trans hto
              rw [hto] at ha
              have HA2 := Aside0.mk ha
              have HC2 := Aside0.mk (Int.not_le.1 c2)
              clear ha c2 hrd2 en2 hi2
              go_wp2_with (first | (go_at_call 27; refine (line_right.calls m.f1.f0 m.f1.f1 _ _ ((right_some _ _).trans (congrArg some HQ1.out))).mono ?_; rintro e w5 ⟨rfl, hb5⟩; have hn0 := (blk_cell (blk_below BM.out hb5) 0).trans rfl; have hn2 := (blk_cell (blk_below BM.out hb5) 1).trans rfl; have hn3 := (blk_cell (blk_below BM.out hb5) 2).trans rfl; have hn1 := (blk_cell (blk_below BW1.out (below_step BA.out hb5)) 1).trans rfl; have hC5 := Kd.C_below HR.out (below_step HLN.out.2.2.2 (below_step BA.out hb5)); obtain ⟨ad3, ead3, hy0, hy1, hy2⟩ := at_T46 hC5 ((i : Int) + 1) PI.out.1 PI.out.2; obtain rfl := Option.some.inj ead3; simp only [ti, HN2.out] at hy0; clear hy1 hy2 ead3 hC5; have HL5 := Aside0.mk (HLN.out.below (below_step BA.out hb5)); clear hb5) | (go_at_call 28; refine (addV_is w9.heap.size v out ⟨⟨m.f0, tq⟩, m.f1⟩ w9 _ HRM.out HL5.out).mono ?_; rintro e w6 ⟨rfl, v6, hL6⟩; have HL6 := Aside0.mk hL6; clear hL6))
              go_roundg (l1.length - (i + 1))
              case measure => have := HI.out; have := HII.out; omega
              case rel => exact ⟨i + 1, v6, addV out ⟨⟨m.f0, tq⟩, m.f1⟩, by go_num, ⟨by have := HII.out; omega, rfl⟩, HA2, HL6, ⟨by have h1 := addV_len out ⟨⟨m.f0, tq⟩, m.f1⟩; have := HO.out; omega, fun _ => by rw [show ((i + 1 : Nat) : Int) = (i : Int) + 1 from rfl, HN2.out]; exact mk_step HOM.out HC2.out⟩⟩
          · have hdr : l1.drop (i + 1) = [] := List.drop_eq_nil_of_le (by omega)
            have d1 : decide ((i : Int) + 1 < (l1.length : Int)) = false := decide_eq_false (by omega)
            have d2 : decide (i + 1 < l1.length) = false := decide_eq_false hi2
            rw [hdr] at ha
            dsimp only at ha
            have HA2 : Aside0 (mk_l a0_1 (l1.drop (i + 1)) (addV out ⟨⟨m.f0, a0_1⟩, m.f1⟩) = mk_l a0_1 l1 []) := ⟨by rw [hdr]; exact ha⟩
            have HNI := Aside0.mk hi2
            clear ha hdr hi2
            go_wp2_with (first | (go_at_call 27; refine (line_right.calls m.f1.f0 m.f1.f1 _ _ ((right_some _ _).trans (congrArg some HQ1.out))).mono ?_; rintro e w5 ⟨rfl, hb5⟩; have hn0 := (blk_cell (blk_below BM.out hb5) 0).trans rfl; have hn2 := (blk_cell (blk_below BM.out hb5) 1).trans rfl; have hn3 := (blk_cell (blk_below BM.out hb5) 2).trans rfl; have hn1 := (blk_cell (blk_below BW1.out (below_step BA.out hb5)) 1).trans rfl; have HL5 := Aside0.mk (HLN.out.below (below_step BA.out hb5)); clear hb5) | (go_at_call 28; refine (addV_is w9.heap.size v out ⟨⟨m.f0, a0_1⟩, m.f1⟩ w9 _ HRM.out HL5.out).mono ?_; rintro e w6 ⟨rfl, v6, hL6⟩; have HL6 := Aside0.mk hL6; clear hL6))
            go_roundg (l1.length - (i + 1))
            case measure => have := HI.out; have := HII.out; omega
            case rel => exact ⟨i + 1, v6, addV out ⟨⟨m.f0, a0_1⟩, m.f1⟩, by go_num, ⟨by have := HII.out; omega, rfl⟩, HA2, HL6, ⟨by have h1 := addV_len out ⟨⟨m.f0, a0_1⟩, m.f1⟩; have := HO.out; omega, fun h => absurd h HNI.out⟩⟩
      · have hd : decide ((i : Int) < (l1.length : Int)) = false := decide_eq_false (by omega)
        have hdn : decide (i < l1.length) = false := decide_eq_false hi
        have ha := HA.out
        rw [List.drop_eq_nil_of_le (by omega)] at ha
        have h5 := H.out
        rw [← ha] at h5
        simp only [mk_l] at h5
        obtain ⟨A2, c2, rfl⟩ := Kd.R_slice HLN.out.2.2.1
        have hcg := (blk_cell HLN.out.1 0).trans rfl
        have hmx := Kd.C_max (Kd.R_reads' HLN.out.2.2.1).2.2
        clear ha HA H
        by_cases cg : 1024 < out.length
        · rw [if_pos cg] at h5
          obtain ⟨e1, e2⟩ := Prod.mk.inj h5
          subst e1
          subst e2
          have d5 : decide ((1024 : Int) < (out.length : Int)) = true := decide_eq_true (by omega)
          have d6 : decide (1024 < out.length) = true := decide_eq_true cg
          clear h5 cg
          go_wp2
          go_ret2
          exact ⟨_, rfl, Kd.R_nil _ _ _ _ _, below_step HB.out HLN.out.2.2.2⟩
        · rw [if_neg cg] at h5
          obtain ⟨e1, e2⟩ := Prod.mk.inj h5
          subst e1
          subst e2
          have d5 : decide ((1024 : Int) < (out.length : Int)) = false := decide_eq_false (by omega)
          have d6 : decide (1024 < out.length) = false := decide_eq_false cg
          have HCG := Aside0.mk cg
          clear h5 cg
          go_wp2_with (go_at_call 29; refine (eras_is w9.heap.size _ out w9 _ (by have := HCG.out; omega) HLN.out).mono ?_; rintro e w6 ⟨v6, rfl, hR6, hb6⟩; have HR6 := Aside0.mk (Kd.R_lower hR6 (Nat.le_trans HB.out.size HLN.out.2.2.2.size)); have HB6 := Aside0.mk (below_step (below_step HB.out HLN.out.2.2.2) hb6); clear hR6 hb6)
          go_ret2
          exact ⟨_, rfl, HR6.out, HB6.out⟩
  · rw [if_neg hq] at h
    obtain ⟨e1, e2⟩ := Prod.mk.inj (Option.some.inj h)
    subst e1
    subst e2
    clear h
    cases q
    · clear hq
      go_wp2
      refine start_ (n := 17) (S := fun w' => w'.cell? ⟨w.heap.size, 0, none⟩ = some (.int .i64 a0_0) ∧ w'.cell? ⟨w.heap.size, 1, none⟩ = some (.int .i64 a0_1)) (ds := []) #[false,false,false,false,false,false,false,false,false,false,false,false,false,false,false,false,false] (by kernel_rfl) rfl rfl ⟨(blk_cell BW.out 0).trans rfl, (blk_cell BW.out 1).trans rfl⟩ (fun hHeld => ?_); refine with_tabW line_Make.tab1 line_Make.bits1 (fun HT_ HW_ => ?_)
      refine take_ (i := 0) (N := some 11) (v := ?_) (a' := ?_) #[true,false,false,false,false,false,false,false,false,false,false,false,false,false,false,false,false] rfl rfl (take_ofW HT_.out HW_.out (by kernel_rfl)) (fun _ _ _ h => h) (Or.inl ⟨by rfl, ?_⟩) hHeld ?_ ?_
      rotate_left
      · rintro w' ⟨s0, s1⟩
        go_simp
        with_reducible rfl
      rotate_left
      · simp only [sP]
        rfl
      refine one_ (i := 1) (N := some 12) #[true,true,false,false,false,false,false,false,false,false,false,false,false,false,false,false,false] rfl rfl (one_of HT_.out (by kernel_rfl)) (by decide) (fun K hK => ?_)
      refine goes_ Try.func26 (by kernel_rfl) rfl #[.agg #[.int .i64 a0_0, .int .i64 a0_1]] (by rfl) rfl rfl gS ?_
      with_reducible refine (line_window.calls k a0_0 a0_1 false _ HQ.out).mono ?_
      rintro e w9 ⟨rfl, hb⟩
      refine ⟨_, rfl, ?_⟩
      replace BW := Aside0.mk (blk_below BW.out hb)
      replace HB := Aside0.mk (below_step HB.out hb)
      replace HZ := Nat.le_trans HZ hb.size
      replace HR := Aside0.mk (Kd.C_below HR.out hb)
      clear hb
      refine hK.out _ _ ⟨(blk_cell BW.out 0).trans rfl, (blk_cell BW.out 1).trans rfl⟩ (fun hHeld => ?_)
      clear hK K
      refine norm_ (a' := ?_) ?_ ?_
      rotate_left
      · show Act.put _ (some 12) _ = _
        simp only [sP]
        rfl
      refine pure_ (i := 2) (N := some 13) (v := ?_) (a' := ?_) #[true,true,true,false,false,false,false,false,false,false,false,false,false,false,false,false,false] rfl rfl (any_of HT_.out (by kernel_rfl)) (fun _ _ _ h => h) (Or.inl ⟨by rfl, ?_⟩) ?_ ?_
      rotate_left
      · intro w'
        go_simp
        with_reducible rfl
      rotate_left
      · simp only [sP]
        rfl
      refine pure_ (i := 3) (N := some 14) (v := ?_) (a' := ?_) #[true,true,true,true,false,false,false,false,false,false,false,false,false,false,false,false,false] rfl rfl (any_of HT_.out (by kernel_rfl)) (fun _ _ _ h => h) (Or.inl ⟨by rfl, ?_⟩) ?_ ?_
      rotate_left
      · intro w'
        go_simp
        with_reducible rfl
      rotate_left
      · simp only [sP]
        rfl
      refine pure_ (i := 4) (N := some 15) (v := undef) (a' := ?_) #[true,true,true,true,true,false,false,false,false,false,false,false,false,false,false,false,false] rfl rfl (any_of HT_.out (by kernel_rfl)) (fun _ _ _ h => h) (Or.inr ⟨by rfl, rfl⟩) ?_ ?_
      rotate_left
      · simp only [sP]
        rfl
      refine pure_ (i := 5) (N := some 16) (v := undef) (a' := ?_) #[true,true,true,true,true,true,false,false,false,false,false,false,false,false,false,false,false] rfl rfl (any_of HT_.out (by kernel_rfl)) (fun _ _ _ h => h) (Or.inr ⟨by rfl, rfl⟩) ?_ ?_
      rotate_left
      · simp only [sP]
        rfl
      refine pure_ (i := 6) (N := some 17) (v := undef) (a' := ?_) #[true,true,true,true,true,true,true,false,false,false,false,false,false,false,false,false,false] rfl rfl (any_of HT_.out (by kernel_rfl)) (fun _ _ _ h => h) (Or.inr ⟨by rfl, rfl⟩) ?_ ?_
      rotate_left
      · simp only [sP]
        rfl
      refine pure_ (i := 7) (N := some 18) (v := ?_) (a' := ?_) #[true,true,true,true,true,true,true,true,false,false,false,false,false,false,false,false,false] rfl rfl (any_of HT_.out (by kernel_rfl)) (fun _ _ _ h => h) (Or.inl ⟨by rfl, ?_⟩) ?_ ?_
      rotate_left
      · intro w'
        go_simp
        with_reducible rfl
      rotate_left
      · simp only [sP]
        rfl
      refine pure_ (i := 8) (N := some 19) (v := ?_) (a' := ?_) #[true,true,true,true,true,true,true,true,true,false,false,false,false,false,false,false,false] rfl rfl (any_of HT_.out (by kernel_rfl)) (fun _ _ _ h => h) (Or.inl ⟨by rfl, ?_⟩) ?_ ?_
      rotate_left
      · intro w'
        go_simp
        with_reducible rfl
      rotate_left
      · simp only [sP]
        rfl
      refine pure_ (i := 9) (N := some 20) (v := undef) (a' := ?_) #[true,true,true,true,true,true,true,true,true,true,false,false,false,false,false,false,false] rfl rfl (any_of HT_.out (by kernel_rfl)) (fun _ _ _ h => h) (Or.inr ⟨by rfl, rfl⟩) ?_ ?_
      rotate_left
      · simp only [sP]
        rfl
      refine pure_ (i := 10) (N := some 21) (v := undef) (a' := ?_) #[true,true,true,true,true,true,true,true,true,true,true,false,false,false,false,false,false] rfl rfl (any_of HT_.out (by kernel_rfl)) (fun _ _ _ h => h) (Or.inr ⟨by rfl, rfl⟩) ?_ ?_
      rotate_left
      · simp only [sP]
        rfl
      refine pure_ (i := 11) (N := some 22) (v := undef) (a' := ?_) #[true,true,true,true,true,true,true,true,true,true,true,true,false,false,false,false,false] rfl rfl (any_of HT_.out (by kernel_rfl)) (fun _ _ _ h => h) (Or.inr ⟨by rfl, rfl⟩) ?_ ?_
      rotate_left
      · simp only [sP]
        rfl
      refine pure_ (i := 12) (N := some 23) (v := undef) (a' := ?_) #[true,true,true,true,true,true,true,true,true,true,true,true,true,false,false,false,false] rfl rfl (any_of HT_.out (by kernel_rfl)) (fun _ _ _ h => h) (Or.inr ⟨by rfl, rfl⟩) ?_ ?_
      rotate_left
      · simp only [sP]
        rfl
      refine pure_ (i := 13) (N := some 24) (v := undef) (a' := ?_) #[true,true,true,true,true,true,true,true,true,true,true,true,true,true,false,false,false] rfl rfl (any_of HT_.out (by kernel_rfl)) (fun _ _ _ h => h) (Or.inr ⟨by rfl, rfl⟩) ?_ ?_
      rotate_left
      · simp only [sP]
        rfl
      refine pure_ (i := 14) (N := some 25) (v := undef) (a' := ?_) #[true,true,true,true,true,true,true,true,true,true,true,true,true,true,true,false,false] rfl rfl (any_of HT_.out (by kernel_rfl)) (fun _ _ _ h => h) (Or.inr ⟨by rfl, rfl⟩) ?_ ?_
      rotate_left
      · simp only [sP]
        rfl
      refine pure_ (i := 15) (N := some 26) (v := undef) (a' := ?_) #[true,true,true,true,true,true,true,true,true,true,true,true,true,true,true,true,false] rfl rfl (any_of HT_.out (by kernel_rfl)) (fun _ _ _ h => h) (Or.inr ⟨by rfl, rfl⟩) ?_ ?_
      rotate_left
      · simp only [sP]
        rfl
      refine pure_ (i := 16) (N := some 27) (v := ?_) (a' := ?_) #[true,true,true,true,true,true,true,true,true,true,true,true,true,true,true,true,true] rfl rfl (any_of HT_.out (by kernel_rfl)) (fun _ _ _ h => h) (Or.inl ⟨by rfl, ?_⟩) ?_ ?_
      rotate_left
      · intro w'
        go_simp
        with_reducible rfl
      rotate_left
      · simp only [sP]
        rfl
      refine done_ (done_of HT_.out (by kernel_rfl)) ?_
      go_wp2
      go_ret2
      exact ⟨_, rfl, Kd.R_nil _ _ _ _ _, HB.out⟩
    · by_cases hn : 0 < l1.length
      · have hne : (rd_T46 l1 0).f0 ≠ a0_0 := fun e => hq ⟨rfl, hn, e⟩
        clear hq
        obtain ⟨ad, ead, hx0, hx1, hx2⟩ := at_T46 HR.out 0 (by omega) (by omega)
        cases ead
        simp only [Int.toNat_zero, Nat.zero_mul, Addr.add_zero'] at hx0
        clear hx1 hx2
        obtain ⟨m0, em0⟩ : ∃ m0, (rd_T46 l1 0).f0 = m0 := ⟨_, rfl⟩
        rw [em0] at hx0 hne
        have hd0 : (m0 != a0_0) = true := bne_iff_ne.mpr hne
        have hl0 : ((l1.length : Int) == 0) = false := beq_eq_false_iff_ne.mpr (by omega)
        have hl1 : ¬ (l1 = []) := fun e => by rw [e] at hn; cases hn
        have hp0 : (0 < l1.length) = True := eq_true hn
        have hp1 : ((0 : Int) < (l1.length : Int)) = True := eq_true (by omega)
        clear hne em0 hn
        go_wp2
        refine start_ (n := 17) (S := fun w' => w'.cell? ⟨w.heap.size, 0, none⟩ = some (.int .i64 a0_0) ∧ w'.cell? ⟨w.heap.size, 1, none⟩ = some (.int .i64 a0_1) ∧ w'.cell? ad = some (.int .i64 m0)) (ds := []) #[false,false,false,false,false,false,false,false,false,false,false,false,false,false,false,false,false] (by kernel_rfl) rfl rfl ⟨(blk_cell BW.out 0).trans rfl, (blk_cell BW.out 1).trans rfl, hx0⟩ (fun hHeld => ?_); refine with_tabW line_Make.tab1 line_Make.bits1 (fun HT_ HW_ => ?_)
        refine take_ (i := 0) (N := some 11) (v := ?_) (a' := ?_) #[true,false,false,false,false,false,false,false,false,false,false,false,false,false,false,false,false] rfl rfl (take_ofW HT_.out HW_.out (by kernel_rfl)) (fun _ _ _ h => h) (Or.inl ⟨by rfl, ?_⟩) hHeld ?_ ?_
        rotate_left
        · rintro w' ⟨s0, s1, s2⟩
          go_simp
          with_reducible rfl
        rotate_left
        · simp only [sP]
          rfl
        refine one_ (i := 1) (N := some 12) #[true,true,false,false,false,false,false,false,false,false,false,false,false,false,false,false,false] rfl rfl (one_of HT_.out (by kernel_rfl)) (by decide) (fun K hK => ?_)
        refine goes_ Try.func26 (by kernel_rfl) rfl #[.agg #[.int .i64 a0_0, .int .i64 a0_1]] (by rfl) rfl rfl gS ?_
        with_reducible refine (line_window.calls k a0_0 a0_1 true _ HQ.out).mono ?_
        rintro e w9 ⟨rfl, hb⟩
        refine ⟨_, rfl, ?_⟩
        replace BW := Aside0.mk (blk_below BW.out hb)
        replace HB := Aside0.mk (below_step HB.out hb)
        replace HZ := Nat.le_trans HZ hb.size
        replace hx0 := (hb.cell (World.block_lt_of_cell? _ _ hx0)).trans hx0
        replace HR := Aside0.mk (Kd.C_below HR.out hb)
        clear hb
        refine hK.out _ _ ⟨(blk_cell BW.out 0).trans rfl, (blk_cell BW.out 1).trans rfl, hx0⟩ (fun hHeld => ?_)
        clear hK K
        refine norm_ (a' := ?_) ?_ ?_
        rotate_left
        · show Act.put _ (some 12) _ = _
          simp only [sP]
          rfl
        refine pure_ (i := 2) (N := some 13) (v := ?_) (a' := ?_) #[true,true,true,false,false,false,false,false,false,false,false,false,false,false,false,false,false] rfl rfl (any_of HT_.out (by kernel_rfl)) (fun _ _ _ h => h) (Or.inl ⟨by rfl, ?_⟩) ?_ ?_
        rotate_left
        · intro w'
          go_simp
          with_reducible rfl
        rotate_left
        · simp only [sP]
          rfl
        refine pure_ (i := 3) (N := some 14) (v := ?_) (a' := ?_) #[true,true,true,true,false,false,false,false,false,false,false,false,false,false,false,false,false] rfl rfl (any_of HT_.out (by kernel_rfl)) (fun _ _ _ h => h) (Or.inl ⟨by rfl, ?_⟩) ?_ ?_
        rotate_left
        · intro w'
          go_simp
          with_reducible rfl
        rotate_left
        · simp only [sP]
          rfl
        refine pure_ (i := 4) (N := some 15) (v := ?_) (a' := ?_) #[true,true,true,true,true,false,false,false,false,false,false,false,false,false,false,false,false] rfl rfl (any_of HT_.out (by kernel_rfl)) (fun _ _ _ h => h) (Or.inl ⟨by rfl, ?_⟩) ?_ ?_
        rotate_left
        · intro w'
          go_simp
          with_reducible rfl
        rotate_left
        · simp only [sP]
          rfl
        refine pure_ (i := 5) (N := some 16) (v := ?_) (a' := ?_) #[true,true,true,true,true,true,false,false,false,false,false,false,false,false,false,false,false] rfl rfl (any_of HT_.out (by kernel_rfl)) (fun _ _ _ h => h) (Or.inl ⟨by rfl, ?_⟩) ?_ ?_
        rotate_left
        · intro w'
          go_simp
          with_reducible rfl
        rotate_left
        · simp only [sP]
          rfl
        refine pure_ (i := 6) (N := some 17) (v := ?_) (a' := ?_) #[true,true,true,true,true,true,true,false,false,false,false,false,false,false,false,false,false] rfl rfl (any_of HT_.out (by kernel_rfl)) (fun _ _ _ h => h) (Or.inl ⟨by rfl, ?_⟩) ?_ ?_
        rotate_left
        · intro w'
          go_simp
          with_reducible rfl
        rotate_left
        · simp only [sP]
          rfl
        refine pure_ (i := 7) (N := some 18) (v := ?_) (a' := ?_) #[true,true,true,true,true,true,true,true,false,false,false,false,false,false,false,false,false] rfl rfl (any_of HT_.out (by kernel_rfl)) (fun _ _ _ h => h) (Or.inl ⟨by rfl, ?_⟩) ?_ ?_
        rotate_left
        · intro w'
          go_simp
          with_reducible rfl
        rotate_left
        · simp only [sP]
          rfl
        refine pure_ (i := 8) (N := some 19) (v := ?_) (a' := ?_) #[true,true,true,true,true,true,true,true,true,false,false,false,false,false,false,false,false] rfl rfl (any_of HT_.out (by kernel_rfl)) (fun _ _ _ h => h) (Or.inl ⟨by rfl, ?_⟩) ?_ ?_
        rotate_left
        · intro w'
          go_simp
          with_reducible rfl
        rotate_left
        · simp only [sP]
          rfl
        refine pure_ (i := 9) (N := some 20) (v := ?_) (a' := ?_) #[true,true,true,true,true,true,true,true,true,true,false,false,false,false,false,false,false] rfl rfl (any_of HT_.out (by kernel_rfl)) (fun _ _ _ h => h) (Or.inl ⟨by rfl, ?_⟩) ?_ ?_
        rotate_left
        · intro w'
          go_simp
          with_reducible rfl
        rotate_left
        · simp only [sP]
          rfl
        refine pure_ (i := 10) (N := some 21) (v := ?_) (a' := ?_) #[true,true,true,true,true,true,true,true,true,true,true,false,false,false,false,false,false] rfl rfl (any_of HT_.out (by kernel_rfl)) (fun _ _ _ h => h) (Or.inl ⟨by rfl, ?_⟩) ?_ ?_
        rotate_left
        · intro w'
          go_simp
          with_reducible rfl
        rotate_left
        · simp only [sP]
          rfl
        refine pure_ (i := 11) (N := some 22) (v := ?_) (a' := ?_) #[true,true,true,true,true,true,true,true,true,true,true,true,false,false,false,false,false] rfl rfl (any_of HT_.out (by kernel_rfl)) (fun _ _ _ h => h) (Or.inl ⟨by rfl, ?_⟩) ?_ ?_
        rotate_left
        · intro w'
          go_simp
          with_reducible rfl
        rotate_left
        · simp only [sP]
          rfl
        refine pure_ (i := 13) (N := some 24) (v := ?_) (a' := ?_) #[true,true,true,true,true,true,true,true,true,true,true,true,false,true,false,false,false] rfl rfl (any_of HT_.out (by kernel_rfl)) (fun _ _ _ h => h) (Or.inl ⟨by rfl, ?_⟩) ?_ ?_
        rotate_left
        · intro w'
          go_simp
          with_reducible rfl
        rotate_left
        · simp only [sP]
          rfl
        refine take_ (i := 12) (N := some 23) (v := ?_) (a' := ?_) #[true,true,true,true,true,true,true,true,true,true,true,true,true,true,false,false,false] rfl rfl (take_ofW HT_.out HW_.out (by kernel_rfl)) (fun _ _ _ h => h) (Or.inl ⟨by rfl, ?_⟩) hHeld ?_ ?_
        rotate_left
        · rintro w' ⟨s0, s1, s2⟩
          go_simp
          with_reducible rfl
        rotate_left
        · simp only [sP]
          rfl
        refine take_ (i := 14) (N := some 25) (v := ?_) (a' := ?_) #[true,true,true,true,true,true,true,true,true,true,true,true,true,true,true,false,false] rfl rfl (take_ofW HT_.out HW_.out (by kernel_rfl)) (fun _ _ _ h => h) (Or.inl ⟨by rfl, ?_⟩) hHeld ?_ ?_
        rotate_left
        · rintro w' ⟨s0, s1, s2⟩
          go_simp
          with_reducible rfl
        rotate_left
        · simp only [sP]
          rfl
        refine pure_ (i := 15) (N := some 26) (v := ?_) (a' := ?_) #[true,true,true,true,true,true,true,true,true,true,true,true,true,true,true,true,false] rfl rfl (any_of HT_.out (by kernel_rfl)) (fun _ _ _ h => h) (Or.inl ⟨by rfl, ?_⟩) ?_ ?_
        rotate_left
        · intro w'
          go_simp
          with_reducible rfl
        rotate_left
        · simp only [sP]
          rfl
        refine pure_ (i := 16) (N := some 27) (v := ?_) (a' := ?_) #[true,true,true,true,true,true,true,true,true,true,true,true,true,true,true,true,true] rfl rfl (any_of HT_.out (by kernel_rfl)) (fun _ _ _ h => h) (Or.inl ⟨by rfl, ?_⟩) ?_ ?_
        rotate_left
        · intro w'
          go_simp
          with_reducible rfl
        rotate_left
        · simp only [sP]
          rfl
        refine done_ (done_of HT_.out (by kernel_rfl)) ?_
        go_wp2
        go_ret2
        exact ⟨_, rfl, Kd.R_nil _ _ _ _ _, HB.out⟩
      · have hl0 : ((l1.length : Int) == 0) = true := beq_iff_eq.mpr (by omega)
        clear hq hn
        go_wp2
        refine start_ (n := 17) (S := fun w' => w'.cell? ⟨w.heap.size, 0, none⟩ = some (.int .i64 a0_0) ∧ w'.cell? ⟨w.heap.size, 1, none⟩ = some (.int .i64 a0_1)) (ds := []) #[false,false,false,false,false,false,false,false,false,false,false,false,false,false,false,false,false] (by kernel_rfl) rfl rfl ⟨(blk_cell BW.out 0).trans rfl, (blk_cell BW.out 1).trans rfl⟩ (fun hHeld => ?_); refine with_tabW line_Make.tab1 line_Make.bits1 (fun HT_ HW_ => ?_)
        refine take_ (i := 0) (N := some 11) (v := ?_) (a' := ?_) #[true,false,false,false,false,false,false,false,false,false,false,false,false,false,false,false,false] rfl rfl (take_ofW HT_.out HW_.out (by kernel_rfl)) (fun _ _ _ h => h) (Or.inl ⟨by rfl, ?_⟩) hHeld ?_ ?_
        rotate_left
        · rintro w' ⟨s0, s1⟩
          go_simp
          with_reducible rfl
        rotate_left
        · simp only [sP]
          rfl
        refine one_ (i := 1) (N := some 12) #[true,true,false,false,false,false,false,false,false,false,false,false,false,false,false,false,false] rfl rfl (one_of HT_.out (by kernel_rfl)) (by decide) (fun K hK => ?_)
        refine goes_ Try.func26 (by kernel_rfl) rfl #[.agg #[.int .i64 a0_0, .int .i64 a0_1]] (by rfl) rfl rfl gS ?_
        with_reducible refine (line_window.calls k a0_0 a0_1 true _ HQ.out).mono ?_
        rintro e w9 ⟨rfl, hb⟩
        refine ⟨_, rfl, ?_⟩
        replace BW := Aside0.mk (blk_below BW.out hb)
        replace HB := Aside0.mk (below_step HB.out hb)
        replace HZ := Nat.le_trans HZ hb.size
        replace HR := Aside0.mk (Kd.C_below HR.out hb)
        clear hb
        refine hK.out _ _ ⟨(blk_cell BW.out 0).trans rfl, (blk_cell BW.out 1).trans rfl⟩ (fun hHeld => ?_)
        clear hK K
        refine norm_ (a' := ?_) ?_ ?_
        rotate_left
        · show Act.put _ (some 12) _ = _
          simp only [sP]
          rfl
        refine pure_ (i := 2) (N := some 13) (v := ?_) (a' := ?_) #[true,true,true,false,false,false,false,false,false,false,false,false,false,false,false,false,false] rfl rfl (any_of HT_.out (by kernel_rfl)) (fun _ _ _ h => h) (Or.inl ⟨by rfl, ?_⟩) ?_ ?_
        rotate_left
        · intro w'
          go_simp
          with_reducible rfl
        rotate_left
        · simp only [sP]
          rfl
        refine pure_ (i := 3) (N := some 14) (v := ?_) (a' := ?_) #[true,true,true,true,false,false,false,false,false,false,false,false,false,false,false,false,false] rfl rfl (any_of HT_.out (by kernel_rfl)) (fun _ _ _ h => h) (Or.inl ⟨by rfl, ?_⟩) ?_ ?_
        rotate_left
        · intro w'
          go_simp
          with_reducible rfl
        rotate_left
        · simp only [sP]
          rfl
        refine pure_ (i := 4) (N := some 15) (v := ?_) (a' := ?_) #[true,true,true,true,true,false,false,false,false,false,false,false,false,false,false,false,false] rfl rfl (any_of HT_.out (by kernel_rfl)) (fun _ _ _ h => h) (Or.inl ⟨by rfl, ?_⟩) ?_ ?_
        rotate_left
        · intro w'
          go_simp
          with_reducible rfl
        rotate_left
        · simp only [sP]
          rfl
        refine pure_ (i := 5) (N := some 16) (v := ?_) (a' := ?_) #[true,true,true,true,true,true,false,false,false,false,false,false,false,false,false,false,false] rfl rfl (any_of HT_.out (by kernel_rfl)) (fun _ _ _ h => h) (Or.inl ⟨by rfl, ?_⟩) ?_ ?_
        rotate_left
        · intro w'
          go_simp
          with_reducible rfl
        rotate_left
        · simp only [sP]
          rfl
        refine pure_ (i := 6) (N := some 17) (v := ?_) (a' := ?_) #[true,true,true,true,true,true,true,false,false,false,false,false,false,false,false,false,false] rfl rfl (any_of HT_.out (by kernel_rfl)) (fun _ _ _ h => h) (Or.inl ⟨by rfl, ?_⟩) ?_ ?_
        rotate_left
        · intro w'
          go_simp
          with_reducible rfl
        rotate_left
        · simp only [sP]
          rfl
        refine pure_ (i := 7) (N := some 18) (v := ?_) (a' := ?_) #[true,true,true,true,true,true,true,true,false,false,false,false,false,false,false,false,false] rfl rfl (any_of HT_.out (by kernel_rfl)) (fun _ _ _ h => h) (Or.inl ⟨by rfl, ?_⟩) ?_ ?_
        rotate_left
        · intro w'
          go_simp
          with_reducible rfl
        rotate_left
        · simp only [sP]
          rfl
        refine pure_ (i := 8) (N := some 19) (v := ?_) (a' := ?_) #[true,true,true,true,true,true,true,true,true,false,false,false,false,false,false,false,false] rfl rfl (any_of HT_.out (by kernel_rfl)) (fun _ _ _ h => h) (Or.inl ⟨by rfl, ?_⟩) ?_ ?_
        rotate_left
        · intro w'
          go_simp
          with_reducible rfl
        rotate_left
        · simp only [sP]
          rfl
        refine pure_ (i := 9) (N := some 20) (v := undef) (a' := ?_) #[true,true,true,true,true,true,true,true,true,true,false,false,false,false,false,false,false] rfl rfl (any_of HT_.out (by kernel_rfl)) (fun _ _ _ h => h) (Or.inr ⟨by rfl, rfl⟩) ?_ ?_
        rotate_left
        · simp only [sP]
          rfl
        refine pure_ (i := 10) (N := some 21) (v := undef) (a' := ?_) #[true,true,true,true,true,true,true,true,true,true,true,false,false,false,false,false,false] rfl rfl (any_of HT_.out (by kernel_rfl)) (fun _ _ _ h => h) (Or.inr ⟨by rfl, rfl⟩) ?_ ?_
        rotate_left
        · simp only [sP]
          rfl
        refine pure_ (i := 11) (N := some 22) (v := undef) (a' := ?_) #[true,true,true,true,true,true,true,true,true,true,true,true,false,false,false,false,false] rfl rfl (any_of HT_.out (by kernel_rfl)) (fun _ _ _ h => h) (Or.inr ⟨by rfl, rfl⟩) ?_ ?_
        rotate_left
        · simp only [sP]
          rfl
        refine pure_ (i := 12) (N := some 23) (v := undef) (a' := ?_) #[true,true,true,true,true,true,true,true,true,true,true,true,true,false,false,false,false] rfl rfl (any_of HT_.out (by kernel_rfl)) (fun _ _ _ h => h) (Or.inr ⟨by rfl, rfl⟩) ?_ ?_
        rotate_left
        · simp only [sP]
          rfl
        refine pure_ (i := 13) (N := some 24) (v := undef) (a' := ?_) #[true,true,true,true,true,true,true,true,true,true,true,true,true,true,false,false,false] rfl rfl (any_of HT_.out (by kernel_rfl)) (fun _ _ _ h => h) (Or.inr ⟨by rfl, rfl⟩) ?_ ?_
        rotate_left
        · simp only [sP]
          rfl
        refine pure_ (i := 14) (N := some 25) (v := undef) (a' := ?_) #[true,true,true,true,true,true,true,true,true,true,true,true,true,true,true,false,false] rfl rfl (any_of HT_.out (by kernel_rfl)) (fun _ _ _ h => h) (Or.inr ⟨by rfl, rfl⟩) ?_ ?_
        rotate_left
        · simp only [sP]
          rfl
        refine pure_ (i := 15) (N := some 26) (v := undef) (a' := ?_) #[true,true,true,true,true,true,true,true,true,true,true,true,true,true,true,true,false] rfl rfl (any_of HT_.out (by kernel_rfl)) (fun _ _ _ h => h) (Or.inr ⟨by rfl, rfl⟩) ?_ ?_
        rotate_left
        · simp only [sP]
          rfl
        refine pure_ (i := 16) (N := some 27) (v := ?_) (a' := ?_) #[true,true,true,true,true,true,true,true,true,true,true,true,true,true,true,true,true] rfl rfl (any_of HT_.out (by kernel_rfl)) (fun _ _ _ h => h) (Or.inl ⟨by rfl, ?_⟩) ?_ ?_
        rotate_left
        · intro w'
          go_simp
          with_reducible rfl
        rotate_left
        · simp only [sP]
          rfl
        refine done_ (done_of HT_.out (by kernel_rfl)) ?_
        go_wp2
        go_ret2
        exact ⟨_, rfl, Kd.R_nil _ _ _ _ _, HB.out⟩
def spoorref20_Same.l0 : Nat → List (S52) → List (S52) → Int → Int → Option (Bool)
 | 0, _, _, _, _ => none
 | k + 1, x0, x1, x12, x13 => if x13 < x12 then (if 0 ≤ x13 then (if x13 < (x0.length : Int) then (if x13 < (x1.length : Int) then (if ((!(((rd_T52 x0 x13).f0.f0) == ((rd_T52 x1 x13).f0.f0)) || (!(((rd_T52 x0 x13).f0.f1) == ((rd_T52 x1 x13).f0.f1)))) || ((!(((rd_T52 x0 x13).f1.f0) == ((rd_T52 x1 x13).f1.f0)) || (!(((rd_T52 x0 x13).f1.f1) == ((rd_T52 x1 x13).f1.f1)))))) = true then (some false) else (spoorref20_Same.l0 k x0 x1 x12 (wrap64 (x13 + 1)))) else (none)) else (none)) else (none)) else (some true)
def spoorref20_Same.f (k : Nat) (l0 : List (S52)) (l1 : List (S52)) : Option (Bool) := if (l0.length : Int) = (l1.length : Int) then (spoorref20_Same.l0 k l0 l1 (l0.length : Int) 0) else (some false)
theorem spoorref20_Same.mono_l : ∀ k, (∀ y0 y1 y2 y3, LeO (spoorref20_Same.l0 k y0 y1 y2 y3) (spoorref20_Same.l0 (k + 1) y0 y1 y2 y3))
 | 0 => fun _ _ _ _ r h => by simp [spoorref20_Same.l0] at h
 | k + 1 => by
  have ih0 := spoorref20_Same.mono_l k
  ·intro y0 y1 y2 y3
   unfold spoorref20_Same.l0
   repeat' first
   | (with_reducible exact ih0 _ _ _ _)
   | (with_reducible exact LeO.refl _)
   | (with_reducible exact LeO.none _)
   | (with_reducible refine LeO.ite ?_ ?_)
   | (with_reducible refine LeO.bind ?_ (fun _ => ?_))
   | exact ih0 _ _ _ _
   | exact LeO.none _
   | refine LeO.ite ?_ ?_
   | refine LeO.bind ?_ (fun _ => ?_)
theorem spoorref20_Same.mono : ∀ a0 a1 k, LeO (spoorref20_Same.f k a0 a1) (spoorref20_Same.f (k + 1) a0 a1) := by
 intro a0 a1 k
 have ih0 := spoorref20_Same.mono_l k
 unfold spoorref20_Same.f
 repeat' first
   | (with_reducible exact ih0 _ _ _ _)
   | (with_reducible exact LeO.refl _)
   | (with_reducible exact LeO.none _)
   | (with_reducible refine LeO.ite ?_ ?_)
   | (with_reducible refine LeO.bind ?_ (fun _ => ?_))
   | exact ih0 _ _ _ _
   | exact LeO.none _
   | refine LeO.ite ?_ ?_
   | refine LeO.bind ?_ (fun _ => ?_)
set_option maxHeartbeats 8000000 in
set_option maxRecDepth 100000 in
theorem spoorref20_Same.calls (k : Nat) (A0 : Option Addr) (c0 : Nat) (l0 : List (S52)) (A1 : Option Addr) (c1 : Nat) (l1 : List (S52)) (r : Bool) (w : World) (hr0 : Kd.C k52 w A0 l0.length l0) (hc0 : l0.length ≤ c0) (hr1 : Kd.C k52 w A1 l1.length l1) (hc1 : l1.length ≤ c1) (h : spoorref20_Same.f k l0 l1 = some r) :
  Calls Try.prog 11 #[.slice A0 l0.length c0, .slice A1 l1.length c1] w fun e w' => e = .returned (.bool r) ∧ Drawn0 w w' := by
 have hu52 := Try.underlying52
 have HR0 := Ax hr0
 have HC0 := Ax hc0
 clear hr0 hc0
 have HR1 := Ax hr1
 have HC1 := Ax hc1
 clear hr1 hc1
 have H : (if (l0.length : Int) = (l1.length : Int) then (spoorref20_Same.l0 k l0 l1 (l0.length : Int) 0) else (some false)) = some r := h
 clear h
 by_cases c3 : (l0.length : Int) = (l1.length : Int)
 ·rw [if_pos c3] at H
  have c3b0 : ((l0.length : Int) == (l1.length : Int)) = true := beq_iff_eq.mpr c3
  have c3b1 : ((l0.length : Int) != (l1.length : Int)) = false := bne_eq_false_iff_eq.mpr c3
  have c3b2 : (l0.length == l1.length) = true := by first | simpa using c3 | (simp at c3 ⊢; omega)
  clear c3
  have H' := Ax H
  clear H
  go_enter Try.func11, Try.ntmps11
  go_wp2
  repeat (go_quiet (fail); try go_wp2)
  go_loopg [13] k (fun kq v13 w' => ∃ (x13_1 : Int), v13 = .int .i64 x13_1 ∧ Aside0 (spoorref20_Same.l0 kq l0 l1 (l0.length : Int) x13_1 = some r) ∧ Aside0 (kq ≤ k) ∧ Drawn0 w w')
  case atStart => exact ⟨(0), rS, H', ⟨Nat.le_refl _⟩, by repeat (first | exact Drawn0.refl _ | apply Drawn0.step)⟩
  case round =>
   clear H'
   try clear c1
   try clear p2
   try clear c3
   try clear c3b0
   try clear c3b1
   try clear c3b2
   obtain ⟨x13_1, rfl, HA, HK1, ⟨m1, rfl⟩⟩ := hrel
   cases gk with
   | zero => exact absurd HA.out (by simp [spoorref20_Same.l0])
   | succ k1 =>
    have H := HA.out
    clear HA
    simp only [spoorref20_Same.l0] at H
    by_cases c4 : x13_1 < (l0.length : Int)
    ·rw [if_pos c4] at H
     have c4b0 : decide (x13_1 < (l0.length : Int)) = true := decide_eq_true c4
     clear c4
     by_cases c5 : 0 ≤ x13_1
     ·rw [if_pos c5] at H
      have c5b0 : decide (0 ≤ x13_1) = true := decide_eq_true c5
      clear c5
      by_cases c6 : x13_1 < (l0.length : Int)
      ·rw [if_pos c6] at H
       have c6b0 : decide (x13_1 < (l0.length : Int)) = true := decide_eq_true c6
       clear c6
       by_cases c7 : x13_1 < (l1.length : Int)
       ·rw [if_pos c7] at H
        have c7b0 : decide (x13_1 < (l1.length : Int)) = true := decide_eq_true c7
        clear c7
        by_cases c8 : ((!(((rd_T52 l0 x13_1).f0.f0) == ((rd_T52 l1 x13_1).f0.f0)) || (!(((rd_T52 l0 x13_1).f0.f1) == ((rd_T52 l1 x13_1).f0.f1)))) || ((!(((rd_T52 l0 x13_1).f1.f0) == ((rd_T52 l1 x13_1).f1.f0)) || (!(((rd_T52 l0 x13_1).f1.f1) == ((rd_T52 l1 x13_1).f1.f1)))))) = true
        ·rw [if_pos c8] at H
         have c8b0 : ((!(((rd_T52 l0 x13_1).f0.f0) == ((rd_T52 l1 x13_1).f0.f0)) || (!(((rd_T52 l0 x13_1).f0.f1) == ((rd_T52 l1 x13_1).f0.f1)))) || ((!(((rd_T52 l0 x13_1).f1.f0) == ((rd_T52 l1 x13_1).f1.f0)) || (!(((rd_T52 l0 x13_1).f1.f1) == ((rd_T52 l1 x13_1).f1.f1)))))) = true := c8
         clear c8
         obtain rfl := Option.some.inj H
         have p123 : 0 ≤ (x13_1 : Int) := of_decide_eq_true (by first | (with_reducible assumption) | assumption)
         have q123 : x13_1 < (l0.length : Int) := of_decide_eq_true (by first | (with_reducible assumption) | assumption)
         obtain ⟨ad123, e123, hx123_0, hx123_1, hx123_2, hx123_3⟩ := at_T52 HR0.out x13_1 p123 q123
         cases e123
         replace p123 := eq_true p123
         replace q123 := eq_true q123
         have p124 : 0 ≤ (x13_1 : Int) := of_decide_eq_true (by first | (with_reducible assumption) | assumption)
         have q124 : x13_1 < (l1.length : Int) := of_decide_eq_true (by first | (with_reducible assumption) | assumption)
         obtain ⟨ad124, e124, hx124_0, hx124_1, hx124_2, hx124_3⟩ := at_T52 HR1.out x13_1 p124 q124
         cases e124
         replace p124 := eq_true p124
         replace q124 := eq_true q124
         go_wp2
         repeat (go_quiet (fail); try go_wp2)
         go_ret
         exact ⟨by first | rfl | (simp; done) | (simp [*]; done), by repeat (first | exact Drawn0.refl _ | apply Drawn0.step)⟩
        ·rw [if_neg c8] at H
         have c8b0 : ((!(((rd_T52 l0 x13_1).f0.f0) == ((rd_T52 l1 x13_1).f0.f0)) || (!(((rd_T52 l0 x13_1).f0.f1) == ((rd_T52 l1 x13_1).f0.f1)))) || ((!(((rd_T52 l0 x13_1).f1.f0) == ((rd_T52 l1 x13_1).f1.f0)) || (!(((rd_T52 l0 x13_1).f1.f1) == ((rd_T52 l1 x13_1).f1.f1)))))) = false := by simpa using c8
         clear c8
         have H' := Ax H
         clear H
         have p123 : 0 ≤ (x13_1 : Int) := of_decide_eq_true (by first | (with_reducible assumption) | assumption)
         have q123 : x13_1 < (l0.length : Int) := of_decide_eq_true (by first | (with_reducible assumption) | assumption)
         obtain ⟨ad123, e123, hx123_0, hx123_1, hx123_2, hx123_3⟩ := at_T52 HR0.out x13_1 p123 q123
         cases e123
         replace p123 := eq_true p123
         replace q123 := eq_true q123
         have p124 : 0 ≤ (x13_1 : Int) := of_decide_eq_true (by first | (with_reducible assumption) | assumption)
         have q124 : x13_1 < (l1.length : Int) := of_decide_eq_true (by first | (with_reducible assumption) | assumption)
         obtain ⟨ad124, e124, hx124_0, hx124_1, hx124_2, hx124_3⟩ := at_T52 HR1.out x13_1 p124 q124
         cases e124
         replace p124 := eq_true p124
         replace q124 := eq_true q124
         go_wp2
         repeat (go_quiet (fail); try go_wp2)
         go_roundg k1
         case measure => have := HK1.out; omega
         case rel => exact ⟨(wrap64 (x13_1 + 1)), rS, H', ⟨by have := HK1.out; omega⟩, by repeat (first | exact Drawn0.refl _ | apply Drawn0.step)⟩
       ·rw [if_neg c7] at H
        exact absurd H (by simp)
      ·rw [if_neg c6] at H
       exact absurd H (by simp)
     ·rw [if_neg c5] at H
      exact absurd H (by simp)
    ·rw [if_neg c4] at H
     have c4b0 : decide (x13_1 < (l0.length : Int)) = false := decide_eq_false c4
     clear c4
     obtain rfl := Option.some.inj H
     go_wp2
     repeat (go_quiet (fail); try go_wp2)
     go_ret
     exact ⟨by first | rfl | (simp; done) | (simp [*]; done), by repeat (first | exact Drawn0.refl _ | apply Drawn0.step)⟩
 ·rw [if_neg c3] at H
  have c3b0 : ((l0.length : Int) == (l1.length : Int)) = false := beq_eq_false_iff_ne.mpr c3
  have c3b1 : ((l0.length : Int) != (l1.length : Int)) = true := bne_iff_ne.mpr c3
  have c3b2 : (l0.length == l1.length) = false := by first | simpa using c3 | (simp at c3 ⊢; omega)
  obtain rfl := Option.some.inj H
  go_enter Try.func11, Try.ntmps11
  go_wp2
  repeat (go_quiet (fail); try go_wp2)
  go_ret
  exact ⟨by first | rfl | (simp; done) | (simp [*]; done), by repeat (first | exact Drawn0.refl _ | apply Drawn0.step)⟩
mutual
def line_Check.j0 : Nat → List (S52) → Bool → Int → Int → Option (Int)
 | 0, _, _, _, _ => none
 | k + 1, x1, x42, x126000, x126001 => if x42 = true then (some 2) else (line_Check.l0 k x1 x1 (x1.length : Int) 0 x126000 x126001)
def line_Check.l0 : Nat → List (S52) → List (S52) → Int → Int → Int → Int → Option (Int)
 | 0, _, _, _, _, _, _ => none
 | k + 1, x1, x43, x44, x45, x126000, x126001 => if x45 < x44 then (if 0 ≤ x45 then (if x45 < (x43.length : Int) then ((line_right.f ((rd_T52 x43 x45).f1.f0) ((rd_T52 x43 x45).f1.f1)).bind fun t131 => (if t131 = true then (if ((rd_T52 x43 x45).f0.f1) < ((rd_T52 x43 x45).f0.f0) then (line_Check.j2 k x1 x45 x43 x44 x45 true x126000 x126001 ((rd_T52 x43 x45).f0.f0) ((rd_T52 x43 x45).f0.f1) ((rd_T52 x43 x45).f1.f0) ((rd_T52 x43 x45).f1.f1)) else (line_Check.j2 k x1 x45 x43 x44 x45 (decide (((rd_T52 x43 x45).f0.f1) > x126001)) x126000 x126001 ((rd_T52 x43 x45).f0.f0) ((rd_T52 x43 x45).f0.f1) ((rd_T52 x43 x45).f1.f0) ((rd_T52 x43 x45).f1.f1))) else (line_Check.j2 k x1 x45 x43 x44 x45 true x126000 x126001 ((rd_T52 x43 x45).f0.f0) ((rd_T52 x43 x45).f0.f1) ((rd_T52 x43 x45).f1.f0) ((rd_T52 x43 x45).f1.f1)))) else (none)) else (none)) else (some 0)
def line_Check.j2 : Nat → List (S52) → Int → List (S52) → Int → Int → Bool → Int → Int → Int → Int → Int → Int → Option (Int)
 | 0, _, _, _, _, _, _, _, _, _, _, _, _ => none
 | k + 1, x1, x6, x43, x44, x45, x50, x126000, x126001, x131000, x131001, x131002, x131003 => if x50 = true then (some 2) else (if x6 > 0 then (if 0 ≤ (wrap64 (x6 - 1)) then (if (wrap64 (x6 - 1)) < (x1.length : Int) then (if (wrap64 (x131000 - 1)) = ((rd_T52 x1 (wrap64 (x6 - 1))).f0.f1) then (if (x131002 == ((rd_T52 x1 (wrap64 (x6 - 1))).f1.f0) && (x131003 == ((rd_T52 x1 (wrap64 (x6 - 1))).f1.f1))) = true then (some 2) else (line_Check.l0 k x1 x43 x44 (wrap64 (x45 + 1)) x126000 x126001)) else (some 2)) else (none)) else (none)) else (line_Check.l0 k x1 x43 x44 (wrap64 (x45 + 1)) x126000 x126001))
end
def line_Check.f (k : Nat) (a0_0 : Int) (a0_1 : Int) (l1 : List (S52)) : Option (Int) := (line_window.f k a0_0 a0_1).bind fun t126 => (if t126 = true then (if (l1.length : Int) = 0 then (line_Check.j0 k l1 true a0_0 a0_1) else (if (l1.length : Int) > 1024 then (line_Check.j0 k l1 true a0_0 a0_1) else (if 0 < (l1.length : Int) then (if ((rd_T52 l1 0).f0.f0) = a0_0 then (if 0 ≤ (wrap64 ((l1.length : Int) - 1)) then (if (wrap64 ((l1.length : Int) - 1)) < (l1.length : Int) then (line_Check.j0 k l1 (((rd_T52 l1 (wrap64 ((l1.length : Int) - 1))).f0.f1) != a0_1) a0_0 a0_1) else (none)) else (none)) else (line_Check.j0 k l1 true a0_0 a0_1)) else (none)))) else (line_Check.j0 k l1 true a0_0 a0_1))
theorem line_Check.mono_l : ∀ k, (∀ y0 y1 y2 y3, LeO (line_Check.j0 k y0 y1 y2 y3) (line_Check.j0 (k + 1) y0 y1 y2 y3)) ∧ (∀ y0 y1 y2 y3 y4 y5, LeO (line_Check.l0 k y0 y1 y2 y3 y4 y5) (line_Check.l0 (k + 1) y0 y1 y2 y3 y4 y5)) ∧ (∀ y0 y1 y2 y3 y4 y5 y6 y7 y8 y9 y10 y11, LeO (line_Check.j2 k y0 y1 y2 y3 y4 y5 y6 y7 y8 y9 y10 y11) (line_Check.j2 (k + 1) y0 y1 y2 y3 y4 y5 y6 y7 y8 y9 y10 y11))
 | 0 => ⟨fun _ _ _ _ r h => by simp [line_Check.j0] at h, fun _ _ _ _ _ _ r h => by simp [line_Check.l0] at h, fun _ _ _ _ _ _ _ _ _ _ _ _ r h => by simp [line_Check.j2] at h⟩
 | k + 1 => by
  obtain ⟨ih0, ih1, ih2⟩ := line_Check.mono_l k
  refine ⟨?_, ?_, ?_⟩
  ·intro y0 y1 y2 y3
   unfold line_Check.j0
   repeat' first
   | (with_reducible exact ih0 _ _ _ _)
   | (with_reducible exact ih1 _ _ _ _ _ _)
   | (with_reducible exact ih2 _ _ _ _ _ _ _ _ _ _ _ _)
   | (with_reducible exact line_window.mono _ _ _)
   | (with_reducible exact LeO.refl _)
   | (with_reducible exact LeO.none _)
   | (with_reducible refine LeO.ite ?_ ?_)
   | (with_reducible refine LeO.bind ?_ (fun _ => ?_))
   | exact ih0 _ _ _ _
   | exact ih1 _ _ _ _ _ _
   | exact ih2 _ _ _ _ _ _ _ _ _ _ _ _
   | exact line_window.mono _ _ _
   | exact LeO.none _
   | refine LeO.ite ?_ ?_
   | refine LeO.bind ?_ (fun _ => ?_)
  ·intro y0 y1 y2 y3 y4 y5
   unfold line_Check.l0
   repeat' first
   | (with_reducible exact ih0 _ _ _ _)
   | (with_reducible exact ih1 _ _ _ _ _ _)
   | (with_reducible exact ih2 _ _ _ _ _ _ _ _ _ _ _ _)
   | (with_reducible exact line_window.mono _ _ _)
   | (with_reducible exact LeO.refl _)
   | (with_reducible exact LeO.none _)
   | (with_reducible refine LeO.ite ?_ ?_)
   | (with_reducible refine LeO.bind ?_ (fun _ => ?_))
   | exact ih0 _ _ _ _
   | exact ih1 _ _ _ _ _ _
   | exact ih2 _ _ _ _ _ _ _ _ _ _ _ _
   | exact line_window.mono _ _ _
   | exact LeO.none _
   | refine LeO.ite ?_ ?_
   | refine LeO.bind ?_ (fun _ => ?_)
  ·intro y0 y1 y2 y3 y4 y5 y6 y7 y8 y9 y10 y11
   unfold line_Check.j2
   repeat' first
   | (with_reducible exact ih0 _ _ _ _)
   | (with_reducible exact ih1 _ _ _ _ _ _)
   | (with_reducible exact ih2 _ _ _ _ _ _ _ _ _ _ _ _)
   | (with_reducible exact line_window.mono _ _ _)
   | (with_reducible exact LeO.refl _)
   | (with_reducible exact LeO.none _)
   | (with_reducible refine LeO.ite ?_ ?_)
   | (with_reducible refine LeO.bind ?_ (fun _ => ?_))
   | exact ih0 _ _ _ _
   | exact ih1 _ _ _ _ _ _
   | exact ih2 _ _ _ _ _ _ _ _ _ _ _ _
   | exact line_window.mono _ _ _
   | exact LeO.none _
   | refine LeO.ite ?_ ?_
   | refine LeO.bind ?_ (fun _ => ?_)
theorem line_Check.mono : ∀ a0 a1 a2 k, LeO (line_Check.f k a0 a1 a2) (line_Check.f (k + 1) a0 a1 a2) := by
 intro a0 a1 a2 k
 obtain ⟨ih0, ih1, ih2⟩ := line_Check.mono_l k
 unfold line_Check.f
 repeat' first
   | (with_reducible exact ih0 _ _ _ _)
   | (with_reducible exact ih1 _ _ _ _ _ _)
   | (with_reducible exact ih2 _ _ _ _ _ _ _ _ _ _ _ _)
   | (with_reducible exact line_window.mono _ _ _)
   | (with_reducible exact LeO.refl _)
   | (with_reducible exact LeO.none _)
   | (with_reducible refine LeO.ite ?_ ?_)
   | (with_reducible refine LeO.bind ?_ (fun _ => ?_))
   | exact ih0 _ _ _ _
   | exact ih1 _ _ _ _ _ _
   | exact ih2 _ _ _ _ _ _ _ _ _ _ _ _
   | exact line_window.mono _ _ _
   | exact LeO.none _
   | refine LeO.ite ?_ ?_
   | refine LeO.bind ?_ (fun _ => ?_)
def line_Check.T2 : Bool × List (List Nat × List Nat) := (true, [([], []), ([0], [0]), ([1], [1]), ([2, 1], [2]), ([3], [3]), ([4, 3], [3, 4]), ([3, 5], [3, 5]), ([6, 3], [6]), ([7], [7]), ([8, 7], [7, 8]), ([7, 9], [7, 9]), ([10, 7], [10]), ([11], [11]), ([12, 11], [11, 12]), ([13, 11], [11, 13]), ([14, 11], [11, 14]), ([15, 11], [11, 15]), ([11], [11]), ([17, 11], [11, 17]), ([16, 18, 11], [11, 16, 18]), ([11, 19], [11, 19]), ([20, 11], [20]), ([21], [21]), ([21], [21]), ([23, 21], [21, 23]), ([22, 24, 21], [21, 22, 24]), ([25, 21], [21, 25]), ([26, 21], [21, 26]), ([27, 21], [21, 27]), ([21], [21]), ([29, 21], [21, 29]), ([28, 30, 21], [21, 28, 30]), ([21, 31], [21, 31])])
def line_Check.B2 : List Nat := [0, 1, 3, 7, 15, 31, 63, 127, 255, 511, 1023, 2047, 4095, 8191, 16383, 32767, 65535, 4095, 135167, 524287, 1048575, 2097151, 4194303, 4194303, 12582911, 33554431, 67108863, 134217727, 268435455, 4194303, 541065215, 2147483647, 4294967295]
theorem line_Check.tab2 : rtab .any (opsOf Try.f12 2) = line_Check.T2 := by kernel_rfl
theorem line_Check.bits2 : waitsOk line_Check.T2.2 line_Check.B2 = true := by kernel_rfl
def line_Check.T9 : Bool × List (List Nat × List Nat) := (true, [([], []), ([0], [0]), ([1], [1]), ([2], [2]), ([3, 2], [2, 3]), ([4, 2], [2, 4]), ([5, 2], [2, 5]), ([2], [2]), ([2], [2]), ([8, 2], [2, 8]), ([7, 9, 2], [2, 7, 9]), ([10, 2], [2, 10]), ([11, 2], [2, 11]), ([12, 2], [2, 12]), ([6, 13, 2], [2, 6, 13]), ([14, 2, 2], [2, 14]), ([15], [15]), ([16, 15], [15, 16]), ([15], [15]), ([15], [15]), ([19, 15], [15, 19]), ([18, 20, 15], [15, 18, 20]), ([21, 15], [15, 21]), ([22, 15], [15, 22]), ([17, 23, 15], [15, 17, 23]), ([15, 24, 2], [2, 15, 24]), ([2, 25], [2, 25]), ([26, 15], [26])])
def line_Check.B9 : List Nat := [0, 1, 3, 7, 15, 31, 63, 7, 7, 263, 903, 1927, 3975, 8071, 16383, 32767, 65535, 131071, 65535, 65535, 589823, 1900543, 3997695, 8191999, 16777215, 33554431, 67108863, 134217727]
theorem line_Check.tab9 : rtab .any (opsOf Try.f12 9) = line_Check.T9 := by kernel_rfl
theorem line_Check.bits9 : waitsOk line_Check.T9.2 line_Check.B9 = true := by kernel_rfl
end Go.Proofs.Ytghklhdooemjdaa.Q
end
