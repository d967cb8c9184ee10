-- Merged and trimmed by this session's program wip/tools/trim.py.
import Derived.Test.YtoheongejamapaaProg
import Derived.Below
import Derived.Deep.Draws
import Derived.Deep.AppendLies
import Derived.Maps.AppendAt
import Derived.OwnWalk
import Derived.Laws.BytesArg
import Derived.Laws.MakeOwn
import Derived.Laws.OwnMore
import Derived.Deep.OwnRows
import Derived.Tactics
import Derived.Lib.ConvBytes
import Derived.Laws.Slices
import Derived.WalkKit
import Derived.KernelRfl
import Derived.RowKit3
import Derived.Deep.LoopGhost
import Derived.Deep.QuietTactic
import Derived.BigQuiet
import Derived.WideLaws
import Derived.Deep.DeepCutAuto
import Derived.Deep.CutBlock
import Derived.Deep.RegionHeld3
import Derived.Laws.Rows
import Derived.Lib.AppendStr
import Derived.ArgAppend
import Derived.Laws.IdiomCopy
import Derived.OrdersHeld
import Derived.Laws.BitsLemmas
import Derived.RowKit
import Derived.Deep.RegionLaw
import Derived.Deep.RegionWith
import Derived.Laws.EntriesVeiled
import Derived.Shelf.RegionOpen
import Derived.Outline
import Derived.Deep.Cut
import Derived.Shelf.Abstract
import Derived.RangeFuncNested
import Derived.RangeFuncBox
import Derived.RangeFuncLeaves
import Derived.RangeFuncFrom
import Derived.RangeFuncCalls
import Derived.RangeFuncBound
import Derived.OwnWalkIn
import Derived.TacticsInMore
import Derived.LoopNIn
import Derived.LoopIn
import Derived.Sort.QuietIn
import Derived.OrdersIn
import Derived.TacticsIn
import Derived.Test.YtoheongejamapaaTTopAgree0
section
namespace Go.Proofs.Ytoheongejamapaa.Q
open Go.RowKit Go.Proofs.YtoheongejamapaaW.PrintWords Go.Proofs.YtoheongejamapaaW.PrintLast Go.Proofs.YtoheongejamapaaW.PrintMore
attribute [local go_sem] max2_int min2_int max_two min_two max_three min_three max_four min_four   -- for this text's walks alone
set_option linter.unusedVariables false
set_option linter.unusedSimpArgs false
def errW : Option Int → Value
  | none => .nilIface
  | some c => .iface 0 (.int .i64 c)
theorem errW_none : errW none = .nilIface := rfl
theorem errW_some (c : Int) : errW (some c) = .iface 0 (.int .i64 c) := rfl
theorem bw0 {P Q  : Prop} (q : Q) (h : Q → P := by intro q_; repeat (first | (with_reducible first | exact q_ | apply below_alloc | apply pw_below_drewN | apply below_drew1) | exact q_)) : P := h q
theorem bf0 {P Q  : Prop} (q : Q) (h : Q → P := by intro q_; (with_reducible repeat (first | refine blk_drewN ?_ _ | refine blk_drew ?_ | refine blk_alloc ?_ _)); exact q_) : P := h q
theorem bw1 {P Q G0 : Prop} (q : Q) (g0 : G0) (h : Q → G0 → P := by intro q_ g0_; repeat (first | (with_reducible first | exact q_ | apply below_alloc | apply pw_below_drewN | apply below_drew1 | refine below_set ?_ g0_) | exact q_)) : P := h q g0
theorem bw2 {P Q G0 G1 : Prop} (q : Q) (g0 : G0) (g1 : G1) (h : Q → G0 → G1 → P := by intro q_ g0_ g1_; repeat (first | (with_reducible first | exact q_ | apply below_alloc | apply pw_below_drewN | apply below_drew1 | refine below_set ?_ g0_ | refine below_set ?_ g1_) | exact q_)) : P := h q g0 g1
theorem bw3 {P Q G0 G1 G2 : Prop} (q : Q) (g0 : G0) (g1 : G1) (g2 : G2) (h : Q → G0 → G1 → G2 → P := by intro q_ g0_ g1_ g2_; repeat (first | (with_reducible first | exact q_ | apply below_alloc | apply pw_below_drewN | apply below_drew1 | refine below_set ?_ g0_ | refine below_set ?_ g1_ | refine below_set ?_ g2_) | exact q_)) : P := h q g0 g1 g2
theorem bf4 {P Q G0 G1 G2 G3 : Prop} (q : Q) (g0 : G0) (g1 : G1) (g2 : G2) (g3 : G3) (h : Q → G0 → G1 → G2 → G3 → P := by intro q_ g0_ g1_ g2_ g3_; (with_reducible repeat (first | refine blk_drewN ?_ _ | refine blk_drew ?_ | refine blk_alloc ?_ _)); refine blk_far ?_ g0_ _; (with_reducible repeat (first | refine blk_drewN ?_ _ | refine blk_drew ?_ | refine blk_alloc ?_ _)); refine blk_far ?_ g1_ _; (with_reducible repeat (first | refine blk_drewN ?_ _ | refine blk_drew ?_ | refine blk_alloc ?_ _)); refine blk_far ?_ g2_ _; (with_reducible repeat (first | refine blk_drewN ?_ _ | refine blk_drew ?_ | refine blk_alloc ?_ _)); refine blk_far ?_ g3_ _; (with_reducible repeat (first | refine blk_drewN ?_ _ | refine blk_drew ?_ | refine blk_alloc ?_ _)); exact q_) : P := h q g0 g1 g2 g3
theorem Bx0 {W W1 w : World} {g : Nat} {o : Obj} (q : Aside0 (W.heap[g]? = some o)) (hb : Below W1.heap.size W1 w) (h : W.heap[g]? = some o → W1.heap[g]? = some o := by intro q_; (with_reducible repeat (first | refine blk_drewN ?_ _ | refine blk_drew ?_ | refine blk_alloc ?_ _)); exact q_) : Aside0 (w.heap[g]? = some o) := ⟨blk_below (h q.out) hb⟩
theorem Nl0 {W W1 : World} {g g' : Nat} {o : Obj} (q : Aside0 (W.heap[g]? = some o)) (hg : g' = W1.heap.size) (h : W.heap[g]? = some o → W1.heap[g]? = some o := by intro q_; (with_reducible repeat (first | refine blk_drewN ?_ _ | refine blk_drew ?_ | refine blk_alloc ?_ _)); exact q_) : Aside0 (g ≠ g') := ⟨by rw [hg]; exact Nat.ne_of_lt (blk_lt (h q.out))⟩
theorem Nr0 {W W1 : World} {g g' : Nat} {o : Obj} (q : Aside0 (W.heap[g]? = some o)) (hg : g' = W1.heap.size) (h : W.heap[g]? = some o → W1.heap[g]? = some o := by intro q_; (with_reducible repeat (first | refine blk_drewN ?_ _ | refine blk_drew ?_ | refine blk_alloc ?_ _)); exact q_) : Aside0 (g' ≠ g) := ⟨by rw [hg]; exact Nat.ne_of_gt (blk_lt (h q.out))⟩
theorem Bs0 {w W W1 w2 : World} (q : Aside0 (Below w.heap.size w W)) (hb : Below W1.heap.size W1 w2) (h : Below w.heap.size w W → Below w.heap.size w W1 := by intro q_; repeat (first | (with_reducible first | exact q_ | apply below_alloc | apply pw_below_drewN | apply below_drew1) | exact q_)) : Aside0 (Below w.heap.size w w2) := ⟨below_step (h q.out) hb⟩
theorem Gw0 {w W W1 : World} {g : Nat} (q : Aside0 (Below w.heap.size w W)) (hg : g = W1.heap.size) (h : Below w.heap.size w W → Below w.heap.size w W1 := by intro q_; repeat (first | (with_reducible first | exact q_ | apply below_alloc | apply pw_below_drewN | apply below_drew1) | exact q_)) : Aside0 (w.heap.size ≤ g) := ⟨by rw [hg]; exact below_size (h q.out)⟩
theorem Bs1 {w W W1 w2 : World} {G0 : Prop} (q : Aside0 (Below w.heap.size w W)) (hb : Below W1.heap.size W1 w2) (g0 : G0) (h : Below w.heap.size w W → G0 → Below w.heap.size w W1 := by intro q_ g0_; repeat (first | (with_reducible first | exact q_ | apply below_alloc | apply pw_below_drewN | apply below_drew1 | refine below_set ?_ g0_) | exact q_)) : Aside0 (Below w.heap.size w w2) := ⟨below_step (h q.out g0) hb⟩
theorem Gw1 {w W W1 : World} {g : Nat} {G0 : Prop} (q : Aside0 (Below w.heap.size w W)) (hg : g = W1.heap.size) (g0 : G0) (h : Below w.heap.size w W → G0 → Below w.heap.size w W1 := by intro q_ g0_; repeat (first | (with_reducible first | exact q_ | apply below_alloc | apply pw_below_drewN | apply below_drew1 | refine below_set ?_ g0_) | exact q_)) : Aside0 (w.heap.size ≤ g) := ⟨by rw [hg]; exact below_size (h q.out g0)⟩
theorem Bs2 {w W W1 w2 : World} {G0 G1 : Prop} (q : Aside0 (Below w.heap.size w W)) (hb : Below W1.heap.size W1 w2) (g0 : G0) (g1 : G1) (h : Below w.heap.size w W → G0 → G1 → Below w.heap.size w W1 := by intro q_ g0_ g1_; repeat (first | (with_reducible first | exact q_ | apply below_alloc | apply pw_below_drewN | apply below_drew1 | refine below_set ?_ g0_ | refine below_set ?_ g1_) | exact q_)) : Aside0 (Below w.heap.size w w2) := ⟨below_step (h q.out g0 g1) hb⟩
theorem Gw2 {w W W1 : World} {g : Nat} {G0 G1 : Prop} (q : Aside0 (Below w.heap.size w W)) (hg : g = W1.heap.size) (g0 : G0) (g1 : G1) (h : Below w.heap.size w W → G0 → G1 → Below w.heap.size w W1 := by intro q_ g0_ g1_; repeat (first | (with_reducible first | exact q_ | apply below_alloc | apply pw_below_drewN | apply below_drew1 | refine below_set ?_ g0_ | refine below_set ?_ g1_) | exact q_)) : Aside0 (w.heap.size ≤ g) := ⟨by rw [hg]; exact below_size (h q.out g0 g1)⟩
theorem Bx4 {W W1 w : World} {g : Nat} {o : Obj} {G0 G1 G2 G3 : Prop} (q : Aside0 (W.heap[g]? = some o)) (hb : Below W1.heap.size W1 w) (g0 : G0) (g1 : G1) (g2 : G2) (g3 : G3) (h : W.heap[g]? = some o → G0 → G1 → G2 → G3 → W1.heap[g]? = some o := by intro q_ g0_ g1_ g2_ g3_; (with_reducible repeat (first | refine blk_drewN ?_ _ | refine blk_drew ?_ | refine blk_alloc ?_ _)); refine blk_far ?_ g0_ _; (with_reducible repeat (first | refine blk_drewN ?_ _ | refine blk_drew ?_ | refine blk_alloc ?_ _)); refine blk_far ?_ g1_ _; (with_reducible repeat (first | refine blk_drewN ?_ _ | refine blk_drew ?_ | refine blk_alloc ?_ _)); refine blk_far ?_ g2_ _; (with_reducible repeat (first | refine blk_drewN ?_ _ | refine blk_drew ?_ | refine blk_alloc ?_ _)); refine blk_far ?_ g3_ _; (with_reducible repeat (first | refine blk_drewN ?_ _ | refine blk_drew ?_ | refine blk_alloc ?_ _)); exact q_) : Aside0 (w.heap[g]? = some o) := ⟨blk_below (h q.out g0 g1 g2 g3) hb⟩
theorem cl2 {W : World} {g : Nat} {t : TypeId} {x0 x1 : Value} (h : Aside0 (W.heap[g]? = some (.cells #[x0, x1] t (0, 0)))) : W.cell? ⟨g, 0, none⟩ = some x0 ∧ W.cell? ⟨g, 1, none⟩ = some x1 ∧ W.frozen? ⟨g, 0, none⟩ = false ∧ W.frozen? ⟨g, 1, none⟩ = false := ⟨(blk_cell h.out 0).trans rfl, (blk_cell h.out 1).trans rfl, blk_frozen h.out 0, blk_frozen h.out 1⟩
theorem cl4 {W : World} {g : Nat} {t : TypeId} {x0 x1 x2 x3 : Value} (h : Aside0 (W.heap[g]? = some (.cells #[x0, x1, x2, x3] t (0, 0)))) : W.cell? ⟨g, 0, none⟩ = some x0 ∧ W.cell? ⟨g, 1, none⟩ = some x1 ∧ W.cell? ⟨g, 2, none⟩ = some x2 ∧ W.cell? ⟨g, 3, none⟩ = some x3 ∧ W.frozen? ⟨g, 0, none⟩ = false ∧ W.frozen? ⟨g, 1, none⟩ = false ∧ W.frozen? ⟨g, 2, none⟩ = false ∧ W.frozen? ⟨g, 3, none⟩ = false := ⟨(blk_cell h.out 0).trans rfl, (blk_cell h.out 1).trans rfl, (blk_cell h.out 2).trans rfl, (blk_cell h.out 3).trans rfl, blk_frozen h.out 0, blk_frozen h.out 1, blk_frozen h.out 2, blk_frozen h.out 3⟩
theorem cl10 {W : World} {g : Nat} {t : TypeId} {x0 x1 x2 x3 x4 x5 x6 x7 x8 x9 : Value} (h : Aside0 (W.heap[g]? = some (.cells #[x0, x1, x2, x3, x4, x5, x6, x7, x8, x9] t (0, 0)))) : W.cell? ⟨g, 0, none⟩ = some x0 ∧ W.cell? ⟨g, 1, none⟩ = some x1 ∧ W.cell? ⟨g, 2, none⟩ = some x2 ∧ W.cell? ⟨g, 3, none⟩ = some x3 ∧ W.cell? ⟨g, 4, none⟩ = some x4 ∧ W.cell? ⟨g, 5, none⟩ = some x5 ∧ W.cell? ⟨g, 6, none⟩ = some x6 ∧ W.cell? ⟨g, 7, none⟩ = some x7 ∧ W.cell? ⟨g, 8, none⟩ = some x8 ∧ W.cell? ⟨g, 9, none⟩ = some x9 ∧ W.frozen? ⟨g, 0, none⟩ = false ∧ W.frozen? ⟨g, 1, none⟩ = false ∧ W.frozen? ⟨g, 2, none⟩ = false ∧ W.frozen? ⟨g, 3, none⟩ = false ∧ W.frozen? ⟨g, 4, none⟩ = false ∧ W.frozen? ⟨g, 5, none⟩ = false ∧ W.frozen? ⟨g, 6, none⟩ = false ∧ W.frozen? ⟨g, 7, none⟩ = false ∧ W.frozen? ⟨g, 8, none⟩ = false ∧ W.frozen? ⟨g, 9, none⟩ = false := ⟨(blk_cell h.out 0).trans rfl, (blk_cell h.out 1).trans rfl, (blk_cell h.out 2).trans rfl, (blk_cell h.out 3).trans rfl, (blk_cell h.out 4).trans rfl, (blk_cell h.out 5).trans rfl, (blk_cell h.out 6).trans rfl, (blk_cell h.out 7).trans rfl, (blk_cell h.out 8).trans rfl, (blk_cell h.out 9).trans rfl, blk_frozen h.out 0, blk_frozen h.out 1, blk_frozen h.out 2, blk_frozen h.out 3, blk_frozen h.out 4, blk_frozen h.out 5, blk_frozen h.out 6, blk_frozen h.out 7, blk_frozen h.out 8, blk_frozen h.out 9⟩
theorem eS {P : Prop} (h : P := by first | rfl | (simp [errW_none, errW_some] <;> rfl) | (simp [*, errW_none, errW_some] <;> rfl)) : P := h
theorem Ax {p : Prop} (h : p) : Aside0 p := ⟨h⟩
abbrev tr : Bool := true
abbrev fa : Bool := false
theorem rS {P : Prop} (h : P := by first | rfl | (simp; done) | (simp [*]; done)) : P := h
theorem gS {P : Prop} (h : P := by (try simp only [List.map_toArray, List.map_cons, List.map_nil]); first | done | rfl | (simp only [List.length_drop, List.length_take]; rfl) | (simp only [Int.toNat_natCast, ByteArray.extract_zero_size]; rfl) | (simp only [Int.toNat_natCast, ByteArray.extract_zero_size]; done)) : P := h
theorem sP : (∀ (a : Act) (d : Tmp) (v : Value), Act.put a (some d) v = { a with tmps := a.tmps.setIfInBounds d v }) ∧ (∀ (a : Act) (v : Value), Act.put a none v = a) ∧ (∀ (l : List Value) (i : Nat) (a : Value), l.toArray.setIfInBounds i a = (l.set i a).toArray) ∧ (∀ (l : List Value) (x a : Value), (x :: l).set 0 a = a :: l) ∧ (∀ (l : List Value) (x a : Value) (n : Nat), (x :: l).set (n + 1) a = x :: l.set n a) ∧ (∀ n : Int, IntKind.i64.wrap n = Go.RowKit.wrap64 n) ∧ (∀ n : Int, IntKind.i32.wrap n = Go.RowKit.wrap32 n) := ⟨fun _ _ _ => rfl, fun _ _ => rfl, fun _ _ _ => List.setIfInBounds_toArray .., fun _ _ _ => rfl, fun _ _ _ _ => rfl, i64_w, i32_w⟩
theorem info23 : (Try.prog.info? 23).map (fun i => (i.zero, i.size, i.bytes)) = some (some (.agg #[(.int .i64 0), (.int .i64 0)]), 2, 16) := by kernel_rfl
theorem info77 : (Try.prog.info? 77).map (fun i => (i.zero, i.size, i.bytes)) = some (some (.agg #[(.int .i64 0), (.int .i64 0)]), 2, 16) := by kernel_rfl
structure S23 where
  f0 : Int
  f1 : Int
def z23 : S23 := ⟨(0 : Int), (0 : Int)⟩
def k23 : Kd S23 := Kd.iso (Kd.pair (Kd.int .i64) (Kd.int .i64)) (fun x : S23 => (x.f0, x.f1))
theorem k23_open {w : World} {x : S23} {cs : List Value} (h : k23.K w x cs) : cs = [.int .i64 x.f0, .int .i64 x.f1] := by
  obtain ⟨_, _, rfl, rfl, rfl⟩ := h
  exact rfl
theorem k23_openM {w : World} {base : Nat} {ok : Nat → Prop} {x : S23} {cs : List Value} (h : k23.M w base ok x cs) : cs = [.int .i64 x.f0, .int .i64 x.f1] := by
  obtain ⟨_, _, rfl, rfl, rfl⟩ := h
  exact rfl
theorem k23_mk (w : World) (x : S23)  : k23.K w x [.int .i64 x.f0, .int .i64 x.f1] := ⟨[.int .i64 x.f0], [.int .i64 x.f1], rfl, rfl, rfl⟩
theorem k23_mkM (w : World) (base : Nat) (ok : Nat → Prop) (x : S23)  : k23.M w base ok x [.int .i64 x.f0, .int .i64 x.f1] := ⟨[.int .i64 x.f0], [.int .i64 x.f1], rfl, rfl, rfl⟩
def rd_T23 (xs : List S23) (i : Int) : S23 := xs.getD i.toNat z23
theorem at_T23 {w : World} {A : Option Addr} {n : Nat} {xs : List S23} (h : Kd.C k23 w A n xs) (i : Int) (h0 : 0 ≤ i) (h1 : i < n) : ∃ ad , A = some ad ∧ w.cell? (ad.add (i.toNat * 2)) = some (.int .i64 (rd_T23 xs i).f0) ∧ w.cell? ⟨(ad.add (i.toNat * 2)).block, (ad.add (i.toNat * 2)).off + 1, none⟩ = some (.int .i64 (rd_T23 xs i).f1) := by
  obtain ⟨ad, c, e, _, hK, hc0⟩ := Kd.C_get h z23 i h0 h1
  have hc : ∀ j u, c[j]? = some u → w.cell? (ad.add (i.toNat * 2 + j)) = some u := hc0
  obtain rfl := k23_open hK
  exact ⟨ad, e, hc 0 _ rfl, by rw [← add_field _ _ 1 (by omega)]; exact hc 1 _ rfl⟩
structure S77 where
  f0 : Int
  f1 : Int
def z77 : S77 := ⟨(0 : Int), (0 : Int)⟩
def k77 : Kd S77 := Kd.iso (Kd.pair (Kd.int .i64) (Kd.int .i64)) (fun x : S77 => (x.f0, x.f1))
theorem k77_open {w : World} {x : S77} {cs : List Value} (h : k77.K w x cs) : cs = [.int .i64 x.f0, .int .i64 x.f1] := by
  obtain ⟨_, _, rfl, rfl, rfl⟩ := h
  exact rfl
theorem k77_openM {w : World} {base : Nat} {ok : Nat → Prop} {x : S77} {cs : List Value} (h : k77.M w base ok x cs) : cs = [.int .i64 x.f0, .int .i64 x.f1] := by
  obtain ⟨_, _, rfl, rfl, rfl⟩ := h
  exact rfl
theorem k77_mkM (w : World) (base : Nat) (ok : Nat → Prop) (x : S77)  : k77.M w base ok x [.int .i64 x.f0, .int .i64 x.f1] := ⟨[.int .i64 x.f0], [.int .i64 x.f1], rfl, rfl, rfl⟩
def rd_T77 (xs : List S77) (i : Int) : S77 := xs.getD i.toNat z77
theorem at_T77 {w : World} {A : Option Addr} {n : Nat} {xs : List S77} (h : Kd.C k77 w A n xs) (i : Int) (h0 : 0 ≤ i) (h1 : i < n) : ∃ ad , A = some ad ∧ w.cell? (ad.add (i.toNat * 2)) = some (.int .i64 (rd_T77 xs i).f0) ∧ w.cell? ⟨(ad.add (i.toNat * 2)).block, (ad.add (i.toNat * 2)).off + 1, none⟩ = some (.int .i64 (rd_T77 xs i).f1) := by
  obtain ⟨ad, c, e, _, hK, hc0⟩ := Kd.C_get h z77 i h0 h1
  have hc : ∀ j u, c[j]? = some u → w.cell? (ad.add (i.toNat * 2 + j)) = some u := hc0
  obtain rfl := k77_open hK
  exact ⟨ad, e, hc 0 _ rfl, by rw [← add_field _ _ 1 (by omega)]; exact hc 1 _ rfl⟩
def rd_L4 (xs : List (List S23)) (i : Int) : (List S23) := xs.getD i.toNat ([] : List S23)
theorem at_L4 {w : World} {A : Option Addr} {n : Nat} {xs : List (List S23)} (h : Kd.C (Kd.slice 23 k23) w A n xs) (i : Int) (h0 : 0 ≤ i) (h1 : i < n) : ∃ ad A0 c0, A = some ad ∧ w.cell? (ad.add i.toNat) = some (.slice A0 (rd_L4 xs i).length c0) ∧ (rd_L4 xs i).length ≤ c0 ∧ k23.C w A0 (rd_L4 xs i).length (rd_L4 xs i) := by
  obtain ⟨ad, c, e, _, hK, hc0⟩ := Kd.C_get h ([] : List S23) i h0 h1
  have hc : ∀ j u, c[j]? = some u → w.cell? (ad.add (i.toNat * 1 + j)) = some u := hc0
  obtain ⟨A0, c0, rfl, l0, g0⟩ := hK
  exact ⟨ad, A0, c0, e, by have hq := hc 0 _ rfl; rwa [Nat.mul_one, Nat.add_zero] at hq, l0, g0⟩
structure S32 where
  f0 : Int
  f1 : Int
def z32 : S32 := ⟨(0 : Int), (0 : Int)⟩
def k32 : Kd S32 := Kd.iso (Kd.pair (Kd.int .u8) (Kd.int .i64)) (fun x : S32 => (x.f0, x.f1))
theorem k32_open {w : World} {x : S32} {cs : List Value} (h : k32.K w x cs) : cs = [.int .u8 x.f0, .int .i64 x.f1] := by
  obtain ⟨_, _, rfl, rfl, rfl⟩ := h
  exact rfl
theorem k32_mkM (w : World) (base : Nat) (ok : Nat → Prop) (x : S32)  : k32.M w base ok x [.int .u8 x.f0, .int .i64 x.f1] := ⟨[.int .u8 x.f0], [.int .i64 x.f1], rfl, rfl, rfl⟩
structure S34 where
  f0 : S23
  f1 : S32
def z34 : S34 := ⟨z23, z32⟩
def k34 : Kd S34 := Kd.iso (Kd.pair k23 k32) (fun x : S34 => (x.f0, x.f1))
theorem k34_open {w : World} {x : S34} {cs : List Value} (h : k34.K w x cs) : cs = [.int .i64 x.f0.f0, .int .i64 x.f0.f1, .int .u8 x.f1.f0, .int .i64 x.f1.f1] := by
  obtain ⟨_, _, rfl, s0, s2⟩ := h
  obtain rfl := k23_open s0
  obtain rfl := k32_open s2
  exact rfl
def rd_T34 (xs : List S34) (i : Int) : S34 := xs.getD i.toNat z34
theorem at_T34 {w : World} {A : Option Addr} {n : Nat} {xs : List S34} (h : Kd.C k34 w A n xs) (i : Int) (h0 : 0 ≤ i) (h1 : i < n) : ∃ ad , A = some ad ∧ w.cell? (ad.add (i.toNat * 4)) = some (.int .i64 (rd_T34 xs i).f0.f0) ∧ w.cell? ⟨(ad.add (i.toNat * 4)).block, (ad.add (i.toNat * 4)).off + 1, none⟩ = some (.int .i64 (rd_T34 xs i).f0.f1) ∧ w.cell? ⟨(ad.add (i.toNat * 4)).block, (ad.add (i.toNat * 4)).off + 2, none⟩ = some (.int .u8 (rd_T34 xs i).f1.f0) ∧ w.cell? ⟨(ad.add (i.toNat * 4)).block, (ad.add (i.toNat * 4)).off + 3, none⟩ = some (.int .i64 (rd_T34 xs i).f1.f1) := by
  obtain ⟨ad, c, e, _, hK, hc0⟩ := Kd.C_get h z34 i h0 h1
  have hc : ∀ j u, c[j]? = some u → w.cell? (ad.add (i.toNat * 4 + j)) = some u := hc0
  obtain rfl := k34_open hK
  exact ⟨ad, e, hc 0 _ rfl, by rw [← add_field _ _ 1 (by omega)]; exact hc 1 _ rfl, by rw [← add_field _ _ 2 (by omega)]; exact hc 2 _ rfl, by rw [← add_field _ _ 3 (by omega)]; exact hc 3 _ rfl⟩
structure S90 where
  f0 : S23
  f1 : S32
def z90 : S90 := ⟨z23, z32⟩
def k90 : Kd S90 := Kd.iso (Kd.pair k23 k32) (fun x : S90 => (x.f0, x.f1))
theorem k90_open {w : World} {x : S90} {cs : List Value} (h : k90.K w x cs) : cs = [.int .i64 x.f0.f0, .int .i64 x.f0.f1, .int .u8 x.f1.f0, .int .i64 x.f1.f1] := by
  obtain ⟨_, _, rfl, s0, s2⟩ := h
  obtain rfl := k23_open s0
  obtain rfl := k32_open s2
  exact rfl
theorem k90_mkM (w : World) (base : Nat) (ok : Nat → Prop) (x : S90)  : k90.M w base ok x [.int .i64 x.f0.f0, .int .i64 x.f0.f1, .int .u8 x.f1.f0, .int .i64 x.f1.f1] := ⟨[.int .i64 x.f0.f0, .int .i64 x.f0.f1], [.int .u8 x.f1.f0, .int .i64 x.f1.f1], rfl, (k23_mkM w base ok x.f0 ), (k32_mkM w base ok x.f1 )⟩
def rd_T90 (xs : List S90) (i : Int) : S90 := xs.getD i.toNat z90
theorem at_T90 {w : World} {A : Option Addr} {n : Nat} {xs : List S90} (h : Kd.C k90 w A n xs) (i : Int) (h0 : 0 ≤ i) (h1 : i < n) : ∃ ad , A = some ad ∧ w.cell? (ad.add (i.toNat * 4)) = some (.int .i64 (rd_T90 xs i).f0.f0) ∧ w.cell? ⟨(ad.add (i.toNat * 4)).block, (ad.add (i.toNat * 4)).off + 1, none⟩ = some (.int .i64 (rd_T90 xs i).f0.f1) ∧ w.cell? ⟨(ad.add (i.toNat * 4)).block, (ad.add (i.toNat * 4)).off + 2, none⟩ = some (.int .u8 (rd_T90 xs i).f1.f0) ∧ w.cell? ⟨(ad.add (i.toNat * 4)).block, (ad.add (i.toNat * 4)).off + 3, none⟩ = some (.int .i64 (rd_T90 xs i).f1.f1) := by
  obtain ⟨ad, c, e, _, hK, hc0⟩ := Kd.C_get h z90 i h0 h1
  have hc : ∀ j u, c[j]? = some u → w.cell? (ad.add (i.toNat * 4 + j)) = some u := hc0
  obtain rfl := k90_open hK
  exact ⟨ad, e, hc 0 _ rfl, by rw [← add_field _ _ 1 (by omega)]; exact hc 1 _ rfl, by rw [← add_field _ _ 2 (by omega)]; exact hc 2 _ rfl, by rw [← add_field _ _ 3 (by omega)]; exact hc 3 _ rfl⟩
structure S61 where
  f0 : S23
  f1 : Bool
def z61 : S61 := ⟨z23, false⟩
def k61 : Kd S61 := Kd.iso (Kd.pair k23 Kd.bool) (fun x : S61 => (x.f0, x.f1))
theorem k61_open {w : World} {x : S61} {cs : List Value} (h : k61.K w x cs) : cs = [.int .i64 x.f0.f0, .int .i64 x.f0.f1, .bool x.f1] := by
  obtain ⟨_, _, rfl, s0, rfl⟩ := h
  obtain rfl := k23_open s0
  exact rfl
theorem k61_openM {w : World} {base : Nat} {ok : Nat → Prop} {x : S61} {cs : List Value} (h : k61.M w base ok x cs) : cs = [.int .i64 x.f0.f0, .int .i64 x.f0.f1, .bool x.f1] := by
  obtain ⟨_, _, rfl, s0, rfl⟩ := h
  obtain rfl := k23_openM s0
  exact rfl
theorem k61_mkM (w : World) (base : Nat) (ok : Nat → Prop) (x : S61)  : k61.M w base ok x [.int .i64 x.f0.f0, .int .i64 x.f0.f1, .bool x.f1] := ⟨[.int .i64 x.f0.f0, .int .i64 x.f0.f1], [.bool x.f1], rfl, (k23_mkM w base ok x.f0 ), rfl⟩
def rd_T61 (xs : List S61) (i : Int) : S61 := xs.getD i.toNat z61
theorem at_T61 {w : World} {A : Option Addr} {n : Nat} {xs : List S61} (h : Kd.C k61 w A n xs) (i : Int) (h0 : 0 ≤ i) (h1 : i < n) : ∃ ad , A = some ad ∧ w.cell? (ad.add (i.toNat * 3)) = some (.int .i64 (rd_T61 xs i).f0.f0) ∧ w.cell? ⟨(ad.add (i.toNat * 3)).block, (ad.add (i.toNat * 3)).off + 1, none⟩ = some (.int .i64 (rd_T61 xs i).f0.f1) ∧ w.cell? ⟨(ad.add (i.toNat * 3)).block, (ad.add (i.toNat * 3)).off + 2, none⟩ = some (.bool (rd_T61 xs i).f1) := by
  obtain ⟨ad, c, e, _, hK, hc0⟩ := Kd.C_get h z61 i h0 h1
  have hc : ∀ j u, c[j]? = some u → w.cell? (ad.add (i.toNat * 3 + j)) = some u := hc0
  obtain rfl := k61_open hK
  exact ⟨ad, e, hc 0 _ rfl, by rw [← add_field _ _ 1 (by omega)]; exact hc 1 _ rfl, by rw [← add_field _ _ 2 (by omega)]; exact hc 2 _ rfl⟩
end Go.Proofs.Ytoheongejamapaa.Q
end
section
namespace Go.Proofs.Ytoheongejamapaa.Q
open Go.RowKit Go.Proofs.YtoheongejamapaaW.PrintWords Go.Proofs.YtoheongejamapaaW.PrintLast Go.Proofs.YtoheongejamapaaW.PrintMore
attribute [local go_sem] max2_int min2_int max_two min_two max_three min_three max_four min_four   -- for this text's walks alone
set_option linter.unusedVariables false
set_option linter.unusedSimpArgs false
theorem eqA23 (d : Nat) (w : World) (x0 y0 : Int) (x1 y1 : Int) :
    (Op.equalIn (d + 2) 23 (.agg #[.int .i64 x0, .int .i64 x1]) (.agg #[.int .i64 y0, .int .i64 y1])).run Try.prog w = .ok (x0 == y0 && (x1 == y1)) w := by
  refine eqA_of Try.underlying23 (by kernel_rfl) ?_
  refine eqf_cons (by rfl) (by go_simp; rfl) (by go_simp; rfl) (by go_simp) ?_
  exact eqf_last (by rfl) (by go_simp; rfl) (by go_simp; rfl) (by go_simp)
end Go.Proofs.Ytoheongejamapaa.Q
end
section
namespace Go.Proofs.Ytoheongejamapaa.Q
open Go.RowKit Go.Proofs.YtoheongejamapaaW.PrintWords Go.Proofs.YtoheongejamapaaW.PrintLast Go.Proofs.YtoheongejamapaaW.PrintMore
attribute [local go_sem] max2_int min2_int max_two min_two max_three min_three max_four min_four   -- for this text's walks alone
set_option linter.unusedVariables false
set_option linter.unusedSimpArgs false
mutual
def num_Get.l0 : Nat → ByteArray → Int → Int → Int → Option (Int × ByteArray × Int)
 | 0, _, _, _, _ => none
 | k + 1, x0, x5, x10, x11 => if x11 < x10 then (if 0 ≤ x11 then (if x11 < (x0.size : Int) then (if 0 ≤ (wrap64 (7 * x11)) then (if x11 = 9 then (num_Get.j1 k x0 (Go.bits .or .u64 x5 (shl .u64 (IntKind.u64.wrap (Go.bits .andNot .u8 (bt x0 x11) 128)) (wrap64 (7 * x11)))) x11 (bt x0 x11) x10 x11 (decide ((bt x0 x11) > 1))) else (num_Get.j1 k x0 (Go.bits .or .u64 x5 (shl .u64 (IntKind.u64.wrap (Go.bits .andNot .u8 (bt x0 x11) 128)) (wrap64 (7 * x11)))) x11 (bt x0 x11) x10 x11 false)) else (none)) else (none)) else (none)) else (some (0, (⟨#[]⟩ : ByteArray), 5))
def num_Get.j1 : Nat → ByteArray → Int → Int → Int → Int → Int → Bool → Option (Int × ByteArray × Int)
 | 0, _, _, _, _, _, _, _ => none
 | k + 1, x0, x5, x6, x7, x10, x11, x25 => if x25 = true then (num_Get.j2 k x0 x5 x6 x7 x10 x11 x25) else (if x7 = 0 then (num_Get.j2 k x0 x5 x6 x7 x10 x11 (decide (x6 > 0))) else (num_Get.j2 k x0 x5 x6 x7 x10 x11 false))
def num_Get.j2 : Nat → ByteArray → Int → Int → Int → Int → Int → Bool → Option (Int × ByteArray × Int)
 | 0, _, _, _, _, _, _, _ => none
 | k + 1, x0, x5, x6, x7, x10, x11, x25 => if x25 = true then (some (0, (⟨#[]⟩ : ByteArray), 7)) else (if x7 < 128 then (if 0 ≤ (wrap64 (x6 + 1)) then (if (wrap64 (x6 + 1)) ≤ (x0.size : Int) then (some (x5, x0.extract ((wrap64 (x6 + 1)) : Int).toNat x0.size, 0)) else (none)) else (none)) else (num_Get.l0 k x0 x5 x10 (wrap64 (x11 + 1))))
end
def num_Get.f (k : Nat) (a0 : ByteArray) : Option (Int × ByteArray × Int) := num_Get.l0 k a0 0 (mn (a0.size : Int) 10) 0
theorem num_Get.mono_l : ∀ k, (∀ y0 y1 y2 y3, LeO (num_Get.l0 k y0 y1 y2 y3) (num_Get.l0 (k + 1) y0 y1 y2 y3)) ∧ (∀ y0 y1 y2 y3 y4 y5 y6, LeO (num_Get.j1 k y0 y1 y2 y3 y4 y5 y6) (num_Get.j1 (k + 1) y0 y1 y2 y3 y4 y5 y6)) ∧ (∀ y0 y1 y2 y3 y4 y5 y6, LeO (num_Get.j2 k y0 y1 y2 y3 y4 y5 y6) (num_Get.j2 (k + 1) y0 y1 y2 y3 y4 y5 y6))
 | 0 => ⟨fun _ _ _ _ r h => by simp [num_Get.l0] at h, fun _ _ _ _ _ _ _ r h => by simp [num_Get.j1] at h, fun _ _ _ _ _ _ _ r h => by simp [num_Get.j2] at h⟩
 | k + 1 => by
  obtain ⟨ih0, ih1, ih2⟩ := num_Get.mono_l k
  refine ⟨?_, ?_, ?_⟩
  ·intro y0 y1 y2 y3
   unfold num_Get.l0
   repeat' first
   | (with_reducible exact ih0 _ _ _ _)
   | (with_reducible exact ih1 _ _ _ _ _ _ _)
   | (with_reducible exact ih2 _ _ _ _ _ _ _)
   | (with_reducible exact LeO.refl _)
   | (with_reducible exact LeO.none _)
   | (with_reducible refine LeO.ite ?_ ?_)
   | (with_reducible refine LeO.bind ?_ (fun _ => ?_))
   | exact ih0 _ _ _ _
   | exact ih1 _ _ _ _ _ _ _
   | exact ih2 _ _ _ _ _ _ _
   | exact LeO.none _
   | refine LeO.ite ?_ ?_
   | refine LeO.bind ?_ (fun _ => ?_)
  ·intro y0 y1 y2 y3 y4 y5 y6
   unfold num_Get.j1
   repeat' first
   | (with_reducible exact ih0 _ _ _ _)
   | (with_reducible exact ih1 _ _ _ _ _ _ _)
   | (with_reducible exact ih2 _ _ _ _ _ _ _)
   | (with_reducible exact LeO.refl _)
   | (with_reducible exact LeO.none _)
   | (with_reducible refine LeO.ite ?_ ?_)
   | (with_reducible refine LeO.bind ?_ (fun _ => ?_))
   | exact ih0 _ _ _ _
   | exact ih1 _ _ _ _ _ _ _
   | exact ih2 _ _ _ _ _ _ _
   | exact LeO.none _
   | refine LeO.ite ?_ ?_
   | refine LeO.bind ?_ (fun _ => ?_)
  ·intro y0 y1 y2 y3 y4 y5 y6
   unfold num_Get.j2
   repeat' first
   | (with_reducible exact ih0 _ _ _ _)
   | (with_reducible exact ih1 _ _ _ _ _ _ _)
   | (with_reducible exact ih2 _ _ _ _ _ _ _)
   | (with_reducible exact LeO.refl _)
   | (with_reducible exact LeO.none _)
   | (with_reducible refine LeO.ite ?_ ?_)
   | (with_reducible refine LeO.bind ?_ (fun _ => ?_))
   | exact ih0 _ _ _ _
   | exact ih1 _ _ _ _ _ _ _
   | exact ih2 _ _ _ _ _ _ _
   | exact LeO.none _
   | refine LeO.ite ?_ ?_
   | refine LeO.bind ?_ (fun _ => ?_)
theorem num_Get.mono : ∀ a0 k, LeO (num_Get.f k a0) (num_Get.f (k + 1) a0) := by
 intro a0 k
 obtain ⟨ih0, ih1, ih2⟩ := num_Get.mono_l k
 unfold num_Get.f
 repeat' first
   | (with_reducible exact ih0 _ _ _ _)
   | (with_reducible exact ih1 _ _ _ _ _ _ _)
   | (with_reducible exact ih2 _ _ _ _ _ _ _)
   | (with_reducible exact LeO.refl _)
   | (with_reducible exact LeO.none _)
   | (with_reducible refine LeO.ite ?_ ?_)
   | (with_reducible refine LeO.bind ?_ (fun _ => ?_))
   | exact ih0 _ _ _ _
   | exact ih1 _ _ _ _ _ _ _
   | exact ih2 _ _ _ _ _ _ _
   | exact LeO.none _
   | refine LeO.ite ?_ ?_
   | refine LeO.bind ?_ (fun _ => ?_)
set_option maxHeartbeats 8000000 in
set_option maxRecDepth 100000 in
theorem num_Get.calls (k : Nat) (a0 : ByteArray) (r1 : Int) (r2 : ByteArray) (r3 : Int) (w : World) (h : num_Get.f k a0 = some (r1, r2, r3)) :
  Calls Try.prog 11 #[.string a0] w fun e w' => e = .returned (.tuple #[.int .u64 r1, .string r2, .int .i64 r3]) ∧ Below w.heap.size w w' := by
 have HB := Ax (Below.refl w.heap.size w)
 have H : (num_Get.l0 k a0 0 (mn (a0.size : Int) 10) 0) = some (r1, r2, r3) := h
 clear h
 obtain ⟨ji2, hji2⟩ : ∃ j_ : Int, (mn (a0.size : Int) 10) = j_ := ⟨_, rfl⟩
 replace H : (num_Get.l0 k a0 0 ji2 0) = some (r1, r2, r3) := by first | (rw [hji2] at H; exact H) | (simp only [hji2] at H ⊢; exact H)
 (try (have hji2h : ji2 ≤ 10 := by (rw [← hji2]; unfold mn; (repeat' split) <;> omega)))
 (try (have hji2g : ji2 ≤ 64 := by omega))
 (try (have hji2l : 0 ≤ ji2 := by (rw [← hji2]; unfold mn; (repeat' split) <;> omega)))
 (try (have hji2m : 0 ≤ ji2 := by omega))
 have hji2_ : (if 10 < (a0.size : Int) then 10 else (a0.size : Int)) = ji2 := hji2
 have H' := Ax H
 clear H
 go_enter Try.func11, Try.ntmps11
 go_wp2
 repeat (go_quiet (fail); try go_wp2)
 go_loopg [5, 11] k (fun kq v5 v11 w' => ∃ (x5_1 : Int) (x11_1 : Int), v5 = .int .u64 x5_1 ∧ v11 = .int .i64 x11_1 ∧ Aside0 (num_Get.l0 kq a0 x5_1 ji2 x11_1 = some (r1, r2, r3)) ∧ Aside0 (kq ≤ k) ∧ Aside0 (Below w.heap.size w w'))
 case atStart => exact ⟨(0), (0), rS, rS, H', ⟨Nat.le_refl _⟩, ⟨bw0 HB.out⟩⟩
 case round =>
  clear H'
  try clear c1
  try clear p2
  obtain ⟨x5_1, x11_1, rfl, rfl, HA, HK1, HB⟩ := hrel
  cases gk with
  | zero => exact absurd HA.out (by simp [num_Get.l0])
  | succ k1 =>
   have H := HA.out
   clear HA
   simp only [num_Get.l0] at H
   by_cases c3 : x11_1 < ji2
   ·rw [if_pos c3] at H
    have c3b0 : decide (x11_1 < ji2) = true := decide_eq_true c3
    clear c3
    by_cases c4 : 0 ≤ x11_1
    ·rw [if_pos c4] at H
     have c4b0 : decide (0 ≤ x11_1) = true := decide_eq_true c4
     clear c4
     by_cases c5 : x11_1 < (a0.size : Int)
     ·rw [if_pos c5] at H
      have c5b0 : decide (x11_1 < (a0.size : Int)) = true := decide_eq_true c5
      clear c5
      obtain ⟨ji7, hji7⟩ : ∃ j_ : Int, (wrap64 (7 * x11_1)) = j_ := ⟨_, rfl⟩
      replace H : (if 0 ≤ (ji7) then (if x11_1 = 9 then (num_Get.j1 k1 a0 (Go.bits .or .u64 x5_1 (shl .u64 (IntKind.u64.wrap (Go.bits .andNot .u8 (bt a0 x11_1) 128)) (ji7))) x11_1 (bt a0 x11_1) ji2 x11_1 (decide ((bt a0 x11_1) > 1))) else (num_Get.j1 k1 a0 (Go.bits .or .u64 x5_1 (shl .u64 (IntKind.u64.wrap (Go.bits .andNot .u8 (bt a0 x11_1) 128)) (ji7))) x11_1 (bt a0 x11_1) ji2 x11_1 false)) else (none)) = some (r1, r2, r3) := by first | (rw [hji7] at H; exact H) | (simp only [hji7] at H ⊢; exact H)
      have hji7w : (IntKind.i64.wrap (7 * x11_1)) = ji7 := (i64_w _).trans hji7
      by_cases c8 : 0 ≤ (ji7)
      ·rw [if_pos c8] at H
       have c8b0 := eq_true c8
       have c8b1 : decide (0 ≤ (ji7)) = true := decide_eq_true c8
       clear c8
       obtain ⟨ji9, hji9⟩ : ∃ j_ : Int, (shl .u64 (IntKind.u64.wrap (Go.bits .andNot .u8 (bt a0 x11_1) 128)) (ji7)) = j_ := ⟨_, rfl⟩
       replace H : (if x11_1 = 9 then (num_Get.j1 k1 a0 (Go.bits .or .u64 x5_1 (ji9)) x11_1 (bt a0 x11_1) ji2 x11_1 (decide ((bt a0 x11_1) > 1))) else (num_Get.j1 k1 a0 (Go.bits .or .u64 x5_1 (ji9)) x11_1 (bt a0 x11_1) ji2 x11_1 false)) = some (r1, r2, r3) := by first | (rw [hji9] at H; exact H) | (simp only [hji9] at H ⊢; exact H)
       have hji9_ : (IntKind.u64.wrap ((IntKind.u64.wrap (Go.bits .andNot .u8 (bt a0 x11_1) 128)) * 2 ^ min (ji7).toNat 64)) = ji9 := hji9
       have hji9z : (ji7) ≤ 64 → (IntKind.u64.wrap ((IntKind.u64.wrap (Go.bits .andNot .u8 (bt a0 x11_1) 128)) * 2 ^ (ji7).toNat)) = ji9 := shl_small hji9
       have HC10 := Ax H
       clear H
       have p6 : 0 ≤ (x11_1 : Int) := of_decide_eq_true (by first | (with_reducible assumption) | assumption)
       have q6 : x11_1 < (a0.size : Int) := of_decide_eq_true (by first | (with_reducible assumption) | assumption)
       have hx6 := bt_at a0 x11_1
       replace p6 := eq_true p6
       replace q6 := eq_true q6
       go_upto_region 7 with (fail)
       repeat (go_quiet (fail); go_upto_region 7 with (fail))
       go_cut [25] (fun v25 wc => ∃ (kq : Nat) (x25_9 : Bool), v25 = .bool x25_9 ∧ Aside0 (num_Get.j1 kq a0 (Go.bits .or .u64 x5_1 (ji9)) x11_1 (bt a0 x11_1) ji2 x11_1 x25_9 = some (r1, r2, r3)) ∧ Aside0 (kq ≤ k1) ∧ Aside0 (Below w.heap.size w wc))
       case first =>
        have H := HC10.out
        clear HC10
        by_cases c11 : x11_1 = 9
        ·rw [if_pos c11] at H
         have c11b0 : (x11_1 == 9) = true := beq_iff_eq.mpr c11
         have c11b1 : (x11_1 != 9) = false := bne_eq_false_iff_eq.mpr c11
         clear c11
         (first | rw [c11b0] | (simp only [i64_w, i32_w]; rw [c11b0]) | skip)
         have H' := Ax H
         clear H
         go_wp2
         repeat (go_quiet (fail); try go_wp2)
         go_meet
         case rel => exact ⟨_, (decide ((bt a0 x11_1) > 1)), rS, H', ⟨by have := HK1.out; first | omega | exact Nat.le_refl _⟩, ⟨bw0 HB.out⟩⟩
        ·rw [if_neg c11] at H
         have c11b0 : (x11_1 == 9) = false := beq_eq_false_iff_ne.mpr c11
         have c11b1 : (x11_1 != 9) = true := bne_iff_ne.mpr c11
         (first | rw [c11b0] | (simp only [i64_w, i32_w]; rw [c11b0]) | skip)
         have H' := Ax H
         clear H
         go_wp2
         repeat (go_quiet (fail); try go_wp2)
         go_meet
         case rel => exact ⟨_, (false), rS, H', ⟨by have := HK1.out; first | omega | exact Nat.le_refl _⟩, ⟨bw0 HB.out⟩⟩
       case rest =>
        clear HC10
        try clear c1
        try clear p2
        try clear c3
        try clear c3b0
        try clear c4
        try clear c4b0
        try clear c5
        try clear c5b0
        try clear p6
        try clear q6
        try clear hx6
        try clear c8
        try clear c8b0
        try clear c8b1
        try clear c11
        try clear c11b0
        try clear c11b1
        try clear p2
        try clear p6
        try clear q6
        obtain ⟨kq, x25_9, rfl, HA, HJ9, HB⟩ := hcut
        cases kq with
        | zero => exact absurd HA.out (by simp [num_Get.j1])
        | succ kj9 =>
         have H := HA.out
         clear HA
         simp only [num_Get.j1] at H
         have HC12 := Ax H
         clear H
         go_upto_if 25 with (fail)
         repeat (go_quiet (fail); go_upto_if 25 with (fail))
         go_cut [25] (fun v25 wc => ∃ (kq : Nat) (x25_11 : Bool), v25 = .bool x25_11 ∧ Aside0 (num_Get.j2 kq a0 (Go.bits .or .u64 x5_1 (ji9)) x11_1 (bt a0 x11_1) ji2 x11_1 x25_11 = some (r1, r2, r3)) ∧ Aside0 (kq ≤ kj9) ∧ Aside0 (Below w.heap.size w wc))
         case first =>
          have H := HC12.out
          clear HC12
          by_cases c13 : x25_9 = true
          ·subst c13
           have H1 : (num_Get.j2 kj9 a0 (Go.bits .or .u64 x5_1 (ji9)) x11_1 (bt a0 x11_1) ji2 x11_1 true) = some (r1, r2, r3) := by rw [if_pos rfl] at H; exact H
           clear H
           have H := H1
           clear H1
           have H' := Ax H
           clear H
           go_wp2
           repeat (go_quiet (fail); try go_wp2)
           go_meet
           case rel => exact ⟨_, (true), rS, H', ⟨by have := HK1.out; have := HJ9.out; first | omega | exact Nat.le_refl _⟩, ⟨bw0 HB.out⟩⟩
          ·replace c13 := Bool.eq_false_iff.mpr c13
           subst c13
           have H1 : (if (bt a0 x11_1) = 0 then (num_Get.j2 kj9 a0 (Go.bits .or .u64 x5_1 (ji9)) x11_1 (bt a0 x11_1) ji2 x11_1 (decide (x11_1 > 0))) else (num_Get.j2 kj9 a0 (Go.bits .or .u64 x5_1 (ji9)) x11_1 (bt a0 x11_1) ji2 x11_1 false)) = some (r1, r2, r3) := by rw [if_neg (show ¬ (false = true) by decide)] at H; exact H
           clear H
           have H := H1
           clear H1
           by_cases c14 : (bt a0 x11_1) = 0
           ·rw [if_pos c14] at H
            have c14b0 : ((bt a0 x11_1) == 0) = true := beq_iff_eq.mpr c14
            have c14b1 : ((bt a0 x11_1) != 0) = false := bne_eq_false_iff_eq.mpr c14
            clear c14
            (first | rw [c14b0] | (simp only [i64_w, i32_w]; rw [c14b0]) | skip)
            have H' := Ax H
            clear H
            go_wp2
            repeat (go_quiet (fail); try go_wp2)
            go_meet
            case rel => exact ⟨_, (decide (x11_1 > 0)), rS, H', ⟨by have := HK1.out; have := HJ9.out; first | omega | exact Nat.le_refl _⟩, ⟨bw0 HB.out⟩⟩
           ·rw [if_neg c14] at H
            have c14b0 : ((bt a0 x11_1) == 0) = false := beq_eq_false_iff_ne.mpr c14
            have c14b1 : ((bt a0 x11_1) != 0) = true := bne_iff_ne.mpr c14
            (first | rw [c14b0] | (simp only [i64_w, i32_w]; rw [c14b0]) | skip)
            have H' := Ax H
            clear H
            go_wp2
            repeat (go_quiet (fail); try go_wp2)
            go_meet
            case rel => exact ⟨_, (false), rS, H', ⟨by have := HK1.out; have := HJ9.out; first | omega | exact Nat.le_refl _⟩, ⟨bw0 HB.out⟩⟩
         case rest =>
          clear HC12
          try clear c1
          try clear p2
          try clear c3
          try clear c3b0
          try clear c4
          try clear c4b0
          try clear c5
          try clear c5b0
          try clear p6
          try clear q6
          try clear hx6
          try clear c8
          try clear c8b0
          try clear c8b1
          try clear c11
          try clear c11b0
          try clear c11b1
          try clear c13
          try clear c14
          try clear c14b0
          try clear c14b1
          try clear p2
          try clear p6
          try clear q6
          obtain ⟨kq, x25_11, rfl, HA, HJ11, HB⟩ := hcut
          cases kq with
          | zero => exact absurd HA.out (by simp [num_Get.j2])
          | succ kj11 =>
           have H := HA.out
           clear HA
           simp only [num_Get.j2] at H
           by_cases c15 : x25_11 = true
           ·subst c15
            have H1 : (some (0, (⟨#[]⟩ : ByteArray), 7)) = some (r1, r2, r3) := by rw [if_pos rfl] at H; exact H
            clear H
            have H := H1
            clear H1
            simp only [Option.some.injEq, Prod.mk.injEq] at H
            obtain ⟨rfl, rfl, rfl⟩ := H
            go_wp2
            repeat (go_quiet (fail); try go_wp2)
            go_ret3
            exact ⟨by first | rfl | (simp [errW_none, errW_some] <;> rfl) | (simp only [← hji2, ← hji7, ← hji9]; first | rfl | (simp [errW_none, errW_some] <;> rfl)) | (simp [*, errW_none, errW_some] <;> rfl), bw0 HB.out⟩
           ·replace c15 := Bool.eq_false_iff.mpr c15
            subst c15
            have H1 : (if (bt a0 x11_1) < 128 then (if 0 ≤ (wrap64 (x11_1 + 1)) then (if (wrap64 (x11_1 + 1)) ≤ (a0.size : Int) then (some ((Go.bits .or .u64 x5_1 (ji9)), a0.extract ((wrap64 (x11_1 + 1)) : Int).toNat a0.size, 0)) else (none)) else (none)) else (num_Get.l0 kj11 a0 (Go.bits .or .u64 x5_1 (ji9)) ji2 (wrap64 (x11_1 + 1)))) = some (r1, r2, r3) := by rw [if_neg (show ¬ (false = true) by decide)] at H; exact H
            clear H
            have H := H1
            clear H1
            by_cases c16 : (bt a0 x11_1) < 128
            ·rw [if_pos c16] at H
             have c16b0 : decide ((bt a0 x11_1) < 128) = true := decide_eq_true c16
             clear c16
             obtain ⟨ji17, hji17⟩ : ∃ j_ : Int, (wrap64 (x11_1 + 1)) = j_ := ⟨_, rfl⟩
             replace H : (if 0 ≤ (ji17) then (if (ji17) ≤ (a0.size : Int) then (some ((Go.bits .or .u64 x5_1 (ji9)), a0.extract ((ji17) : Int).toNat a0.size, 0)) else (none)) else (none)) = some (r1, r2, r3) := by first | (rw [hji17] at H; exact H) | (simp only [hji17] at H ⊢; exact H)
             have hji17w : (IntKind.i64.wrap (x11_1 + 1)) = ji17 := (i64_w _).trans hji17
             by_cases c18 : 0 ≤ (ji17)
             ·rw [if_pos c18] at H
              have c18b0 := eq_true c18
              have c18b1 : decide (0 ≤ (ji17)) = true := decide_eq_true c18
              clear c18
              by_cases c19 : (ji17) ≤ (a0.size : Int)
              ·rw [if_pos c19] at H
               have c19b0 := eq_true c19
               have c19b1 : decide ((ji17) ≤ (a0.size : Int)) = true := decide_eq_true c19
               clear c19
               simp only [Option.some.injEq, Prod.mk.injEq] at H
               obtain ⟨rfl, rfl, rfl⟩ := H
               go_wp2
               repeat (go_quiet (fail); try go_wp2)
               go_ret3
               exact ⟨by first | rfl | (simp [errW_none, errW_some] <;> rfl) | (simp only [← hji2, ← hji7, ← hji9, ← hji17]; first | rfl | (simp [errW_none, errW_some] <;> rfl)) | (simp [*, errW_none, errW_some] <;> rfl), bw0 HB.out⟩
              ·rw [if_neg c19] at H
               exact absurd H (by simp)
             ·rw [if_neg c18] at H
              exact absurd H (by simp)
            ·rw [if_neg c16] at H
             have c16b0 : decide ((bt a0 x11_1) < 128) = false := decide_eq_false c16
             clear c16
             have H' := Ax H
             clear H
             go_wp2
             repeat (go_quiet (fail); try go_wp2)
             go_roundg kj11
             case measure => have := HK1.out; have := HJ9.out; have := HJ11.out; omega
             case rel => exact ⟨((Go.bits .or .u64 x5_1 (ji9))), (wrap64 (x11_1 + 1)), (by first | rfl | (simp; done) | (simp only [← hji9] <;> (first | rfl | simp)) | (simp [*]; done)), rS, H', ⟨by have := HK1.out; have := HJ9.out; have := HJ11.out; omega⟩, ⟨bw0 HB.out⟩⟩
      ·rw [if_neg c8] at H
       exact absurd H (by simp)
     ·rw [if_neg c5] at H
      exact absurd H (by simp)
    ·rw [if_neg c4] at H
     exact absurd H (by simp)
   ·rw [if_neg c3] at H
    have c3b0 : decide (x11_1 < ji2) = false := decide_eq_false c3
    clear c3
    simp only [Option.some.injEq, Prod.mk.injEq] at H
    obtain ⟨rfl, rfl, rfl⟩ := H
    go_wp2
    repeat (go_quiet (fail); try go_wp2)
    go_ret3
    exact ⟨by first | rfl | (simp [errW_none, errW_some] <;> rfl) | (simp only [← hji2]; first | rfl | (simp [errW_none, errW_some] <;> rfl)) | (simp [*, errW_none, errW_some] <;> rfl), bw0 HB.out⟩
def crc_half.f (a0 : Int) : Option (Int) := some (Go.bits .xor .u32 (a0 / 2) (Go.bits .and .u32 2197175160 ((-(Go.bits .and .u32 a0 1)) % 4294967296)))
set_option maxHeartbeats 8000000 in
set_option maxRecDepth 100000 in
theorem crc_half.calls (a0 : Int) (r : Int) (w : World) (h : crc_half.f a0 = some r) :
  Calls Try.prog 41 #[.int .u32 a0] w fun e w' => e = .returned (.int .u32 r) ∧ Drawn0 w w' := by
 have H : (some (Go.bits .xor .u32 (a0 / 2) (Go.bits .and .u32 2197175160 ((-(Go.bits .and .u32 a0 1)) % 4294967296)))) = some r := h
 clear h
 obtain rfl := Option.some.inj H
 go_enter Try.func41, Try.ntmps41
 go_wp2
 go_ret
 exact ⟨by first | rfl | (simp; done) | (simp [*]; done), by repeat (first | exact Drawn0.refl _ | apply Drawn0.step)⟩
mutual
def crc_On.l0 : Nat → ByteArray → Int → Int → Int → Option (Int)
 | 0, _, _, _, _ => none
 | k + 1, x1, x5, x10, x11 => if x11 < x10 then (if 0 ≤ x11 then (if x11 < (x1.size : Int) then (crc_On.l1 k x1 (Go.bits .xor .u32 x5 ((bt x1 x11) % 4294967296)) x10 x11 0) else (none)) else (none)) else (some (Go.bits .xor .u32 4294967295 x5))
def crc_On.l1 : Nat → ByteArray → Int → Int → Int → Int → Option (Int)
 | 0, _, _, _, _, _ => none
 | k + 1, x1, x5, x10, x11, x20 => if x20 < 8 then ((crc_half.f x5).bind fun t101 => (crc_On.l1 k x1 t101 x10 x11 (wrap64 (x20 + 1)))) else (crc_On.l0 k x1 x5 x10 (wrap64 (x11 + 1)))
end
def crc_On.f (k : Nat) (a0 : Int) (a1 : ByteArray) : Option (Int) := crc_On.l0 k a1 (Go.bits .xor .u32 4294967295 a0) (a1.size : Int) 0
theorem crc_On.mono_l : ∀ k, (∀ y0 y1 y2 y3, LeO (crc_On.l0 k y0 y1 y2 y3) (crc_On.l0 (k + 1) y0 y1 y2 y3)) ∧ (∀ y0 y1 y2 y3 y4, LeO (crc_On.l1 k y0 y1 y2 y3 y4) (crc_On.l1 (k + 1) y0 y1 y2 y3 y4))
 | 0 => ⟨fun _ _ _ _ r h => by simp [crc_On.l0] at h, fun _ _ _ _ _ r h => by simp [crc_On.l1] at h⟩
 | k + 1 => by
  obtain ⟨ih0, ih1⟩ := crc_On.mono_l k
  refine ⟨?_, ?_⟩
  ·intro y0 y1 y2 y3
   unfold crc_On.l0
   repeat' first
   | (with_reducible exact ih0 _ _ _ _)
   | (with_reducible exact ih1 _ _ _ _ _)
   | (with_reducible exact LeO.refl _)
   | (with_reducible exact LeO.none _)
   | (with_reducible refine LeO.ite ?_ ?_)
   | (with_reducible refine LeO.bind ?_ (fun _ => ?_))
   | exact ih0 _ _ _ _
   | exact ih1 _ _ _ _ _
   | exact LeO.none _
   | refine LeO.ite ?_ ?_
   | refine LeO.bind ?_ (fun _ => ?_)
  ·intro y0 y1 y2 y3 y4
   unfold crc_On.l1
   repeat' first
   | (with_reducible exact ih0 _ _ _ _)
   | (with_reducible exact ih1 _ _ _ _ _)
   | (with_reducible exact LeO.refl _)
   | (with_reducible exact LeO.none _)
   | (with_reducible refine LeO.ite ?_ ?_)
   | (with_reducible refine LeO.bind ?_ (fun _ => ?_))
   | exact ih0 _ _ _ _
   | exact ih1 _ _ _ _ _
   | exact LeO.none _
   | refine LeO.ite ?_ ?_
   | refine LeO.bind ?_ (fun _ => ?_)
theorem crc_On.mono : ∀ a0 a1 k, LeO (crc_On.f k a0 a1) (crc_On.f (k + 1) a0 a1) := by
 intro a0 a1 k
 obtain ⟨ih0, ih1⟩ := crc_On.mono_l k
 unfold crc_On.f
 repeat' first
   | (with_reducible exact ih0 _ _ _ _)
   | (with_reducible exact ih1 _ _ _ _ _)
   | (with_reducible exact LeO.refl _)
   | (with_reducible exact LeO.none _)
   | (with_reducible refine LeO.ite ?_ ?_)
   | (with_reducible refine LeO.bind ?_ (fun _ => ?_))
   | exact ih0 _ _ _ _
   | exact ih1 _ _ _ _ _
   | exact LeO.none _
   | refine LeO.ite ?_ ?_
   | refine LeO.bind ?_ (fun _ => ?_)
set_option maxHeartbeats 8000000 in
set_option maxRecDepth 100000 in
theorem crc_On.calls (k : Nat) (a0 : Int) (a1 : ByteArray) (r : Int) (w : World) (h : crc_On.f k a0 a1 = some r) :
  Calls Try.prog 27 #[.int .u32 a0, .string a1] w fun e w' => e = .returned (.int .u32 r) ∧ Drawn0 w w' := by
 have H : (crc_On.l0 k a1 (Go.bits .xor .u32 4294967295 a0) (a1.size : Int) 0) = some r := h
 clear h
 have H' := Ax H
 clear H
 go_enter Try.func27, Try.ntmps27
 go_wp2
 go_loopg [5, 11] k (fun kq v5 v11 w' => ∃ (x5_1 : Int) (x11_1 : Int), v5 = .int .u32 x5_1 ∧ v11 = .int .i64 x11_1 ∧ Aside0 (crc_On.l0 kq a1 x5_1 (a1.size : Int) x11_1 = some r) ∧ Aside0 (kq ≤ k) ∧ Drawn0 w w')
 case atStart => exact ⟨(Go.bits .xor .u32 4294967295 a0), (0), rS, rS, H', ⟨Nat.le_refl _⟩, by repeat (first | exact Drawn0.refl _ | apply Drawn0.step)⟩
 case round =>
  clear H'
  try clear c2
  try clear p2
  obtain ⟨x5_1, x11_1, rfl, rfl, HA, HK1, ⟨m1, rfl⟩⟩ := hrel
  cases gk with
  | zero => exact absurd HA.out (by simp [crc_On.l0])
  | succ k1 =>
   have H := HA.out
   clear HA
   simp only [crc_On.l0] at H
   by_cases c3 : x11_1 < (a1.size : Int)
   ·rw [if_pos c3] at H
    have c3b0 : decide (x11_1 < (a1.size : Int)) = true := decide_eq_true c3
    clear c3
    by_cases c4 : 0 ≤ x11_1
    ·rw [if_pos c4] at H
     have c4b0 : decide (0 ≤ x11_1) = true := decide_eq_true c4
     clear c4
     by_cases c5 : x11_1 < (a1.size : Int)
     ·rw [if_pos c5] at H
      have c5b0 : decide (x11_1 < (a1.size : Int)) = true := decide_eq_true c5
      clear c5
      have H' := Ax H
      clear H
      have p6 : 0 ≤ (x11_1 : Int) := of_decide_eq_true (by first | (with_reducible assumption) | assumption)
      have q6 : x11_1 < (a1.size : Int) := of_decide_eq_true (by first | (with_reducible assumption) | assumption)
      have hx6 := bt_at a1 x11_1
      replace p6 := eq_true p6
      replace q6 := eq_true q6
      go_wp2
      go_loopg [5, 20] k1 (fun kq v5 v20 w' => ∃ (x5_2 : Int) (x20_2 : Int), v5 = .int .u32 x5_2 ∧ v20 = .int .i64 x20_2 ∧ Aside0 (crc_On.l1 kq a1 x5_2 (a1.size : Int) x11_1 x20_2 = some r) ∧ Aside0 (kq ≤ k1) ∧ Drawn0 w w')
      case atStart => exact ⟨(Go.bits .xor .u32 x5_1 ((bt a1 x11_1) % 4294967296)), (0), rS, rS, H', ⟨Nat.le_refl _⟩, by repeat (first | exact Drawn0.refl _ | apply Drawn0.step)⟩
      case round =>
       clear H'
       try clear c2
       try clear p2
       try clear c3
       try clear c3b0
       try clear c4
       try clear c4b0
       try clear c5
       try clear c5b0
       try clear p6
       try clear q6
       try clear hx6
       try clear p2
       try clear p6
       try clear q6
       obtain ⟨x5_2, x20_2, rfl, rfl, HA, HK2, ⟨m2, rfl⟩⟩ := hrel
       cases gk with
       | zero => exact absurd HA.out (by simp [crc_On.l1])
       | succ k2 =>
        have H := HA.out
        clear HA
        simp only [crc_On.l1] at H
        by_cases c7 : x20_2 < 8
        ·rw [if_pos c7] at H
         have c7b0 : decide (x20_2 < 8) = true := decide_eq_true c7
         clear c7
         replace H := Option.bind_eq_some_iff.mp H
         obtain ⟨t101, A80, H⟩ := H
         replace H : (crc_On.l1 k2 a1 t101 (a1.size : Int) x11_1 (wrap64 (x20_2 + 1))) = some r := H
         have A8 := Ax A80
         clear A80
         have H' := Ax H
         clear H
         go_wp2_with (first | ((with_reducible refine gate_callee (f := 41) rfl ?_); refine goesL_ (some 23) rfl rfl Try.func41 (by kernel_rfl) rfl #[.int .u32 x5_2] rfl gS ?_; (with_reducible refine (crc_half.calls x5_2 t101 _ A8.out).mono ?_); rintro e w' ⟨rfl, ⟨nd, rfl⟩⟩; refine ⟨_, rfl, ?_⟩))
         go_roundg k2
         case measure => have := HK1.out; have := HK2.out; omega
         case rel => exact ⟨(t101), (wrap64 (x20_2 + 1)), rS, rS, H', ⟨by have := HK1.out; have := HK2.out; omega⟩, by repeat (first | exact Drawn0.refl _ | apply Drawn0.step)⟩
        ·rw [if_neg c7] at H
         have c7b0 : decide (x20_2 < 8) = false := decide_eq_false c7
         clear c7
         have H' := Ax H
         clear H
         go_wp2
         go_roundg k2
         case measure => have := HK1.out; have := HK2.out; omega
         case rel => exact ⟨(x5_2), (wrap64 (x11_1 + 1)), rS, rS, H', ⟨by have := HK1.out; have := HK2.out; omega⟩, by repeat (first | exact Drawn0.refl _ | apply Drawn0.step)⟩
     ·rw [if_neg c5] at H
      exact absurd H (by simp)
    ·rw [if_neg c4] at H
     exact absurd H (by simp)
   ·rw [if_neg c3] at H
    have c3b0 : decide (x11_1 < (a1.size : Int)) = false := decide_eq_false c3
    clear c3
    obtain rfl := Option.some.inj H
    go_wp2
    go_ret
    exact ⟨by first | rfl | (simp; done) | (simp [*]; done), by repeat (first | exact Drawn0.refl _ | apply Drawn0.step)⟩
def crc_Of.f (k : Nat) (a0 : ByteArray) : Option (Int) := (crc_On.f k 0 a0).bind fun t102 => (some t102)
theorem crc_Of.mono : ∀ a0 k, LeO (crc_Of.f k a0) (crc_Of.f (k + 1) a0) := by
 intro a0 k
 unfold crc_Of.f
 repeat' first
   | (with_reducible exact crc_On.mono _ _ _)
   | (with_reducible exact LeO.refl _)
   | (with_reducible exact LeO.none _)
   | (with_reducible refine LeO.ite ?_ ?_)
   | (with_reducible refine LeO.bind ?_ (fun _ => ?_))
   | exact crc_On.mono _ _ _
   | exact LeO.none _
   | refine LeO.ite ?_ ?_
   | refine LeO.bind ?_ (fun _ => ?_)
set_option maxHeartbeats 8000000 in
set_option maxRecDepth 100000 in
theorem crc_Of.calls (k : Nat) (a0 : ByteArray) (r : Int) (w : World) (h : crc_Of.f k a0 = some r) :
  Calls Try.prog 12 #[.string a0] w fun e w' => e = .returned (.int .u32 r) ∧ Drawn0 w w' := by
 have H : ((crc_On.f k 0 a0).bind fun t102 => (some t102)) = some r := h
 clear h
 replace H := Option.bind_eq_some_iff.mp H
 obtain ⟨t102, A20, H⟩ := H
 replace H : (some t102) = some r := H
 have A2 := Ax A20
 clear A20
 obtain rfl := Option.some.inj H
 go_enter Try.func12, Try.ntmps12
 go_wp2_with (first | ((with_reducible refine gate_callee (f := 27) rfl ?_); refine goesL_ (some 4) rfl rfl Try.func27 (by kernel_rfl) rfl #[.int .u32 0, .string a0] rfl gS ?_; (with_reducible refine (crc_On.calls k 0 a0 t102 _ A2.out).mono ?_); rintro e w' ⟨rfl, ⟨nd, rfl⟩⟩; refine ⟨_, rfl, ?_⟩))
 go_ret
 exact ⟨by first | rfl | (simp; done) | (simp [*]; done), by repeat (first | exact Drawn0.refl _ | apply Drawn0.step)⟩
def num_Add.l0 : Nat → List Int → Int → Option (List Int)
 | 0, _, _ => none
 | k + 1, x0, x1 => if x1 ≥ 128 then (if x0.length < 140737488355328 then (num_Add.l0 k (x0 ++ [Go.bits .or .u8 ((x1) % 256) 128]) (x1 / 128)) else (none)) else (if x0.length < 140737488355328 then (some (x0 ++ [(x1) % 256])) else (none))
def num_Add.f (k : Nat) (l0 : List Int) (a1 : Int) : Option (List Int) := num_Add.l0 k l0 a1
theorem num_Add.mono_l : ∀ k, (∀ y0 y1, LeO (num_Add.l0 k y0 y1) (num_Add.l0 (k + 1) y0 y1))
 | 0 => fun _ _ r h => by simp [num_Add.l0] at h
 | k + 1 => by
  have ih0 := num_Add.mono_l k
  ·intro y0 y1
   unfold num_Add.l0
   repeat' first
   | (with_reducible exact ih0 _ _)
   | (with_reducible exact LeO.refl _)
   | (with_reducible exact LeO.none _)
   | (with_reducible refine LeO.ite ?_ ?_)
   | (with_reducible refine LeO.bind ?_ (fun _ => ?_))
   | exact ih0 _ _
   | exact LeO.none _
   | refine LeO.ite ?_ ?_
   | refine LeO.bind ?_ (fun _ => ?_)
theorem num_Add.mono : ∀ a0 a1 k, LeO (num_Add.f k a0 a1) (num_Add.f (k + 1) a0 a1) := by
 intro a0 a1 k
 have ih0 := num_Add.mono_l k
 unfold num_Add.f
 repeat' first
   | (with_reducible exact ih0 _ _)
   | (with_reducible exact LeO.refl _)
   | (with_reducible exact LeO.none _)
   | (with_reducible refine LeO.ite ?_ ?_)
   | (with_reducible refine LeO.bind ?_ (fun _ => ?_))
   | exact ih0 _ _
   | exact LeO.none _
   | refine LeO.ite ?_ ?_
   | refine LeO.bind ?_ (fun _ => ?_)
theorem wpList_append_in {P : Program} (w : World) {ops : Array Oper} {rest : List Oper} {o : Oper} {a : Act} {Q : Exit → Act → World → Prop}
    (hg : o.guard = none) (s x : Operand) (t : TypeId) (hop : o.op = Op.call { callee := Callee.builtin Builtin.append, args := #[s, x], argTypes := #[t, t] })
    (e : TypeId) (i : TypeInfo) (h1 : P.underlying t = some (.slice e)) (h2 : P.info? e = some i) (h4 : i.size = 1)
    (b n cap : Nat) (hs : a.eval s = .slice (some ⟨b, 0, none⟩) n cap)
    (ad : Addr) (c : Nat) (u : Value) (hx : a.eval x = .slice (some ad) 1 c) (hc : w.cell? ad = some u) (h1c : u.oneCell' = true) (hr : n + 1 ≤ cap)
    (hspare : (w.cell? ⟨b, n, none⟩).isSome = true ∧ w.frozen? ⟨b, n, none⟩ = false)
    (hroom : wpList P ops Q rest (a.put o.dst (.slice (some ⟨b, 0, none⟩) (n + 1) cap)) (w.setCell ⟨b, n, none⟩ u)) :
    wpList P ops Q (o :: rest) a w := by
  refine wpList_plain hg fun K hK' => ?_
  have hrun := run_append_room_cells (P := P) w t o.type e i h1 h2 b 0 n cap ad 1 c [u] (by rw [h4]; rfl) (fun j v hj => by
    match j with
    | 0 => simp at hj; subst hj; rw [show ad.add 0 = ad from by unfold Addr.add; split <;> simp_all]; exact hc
    | j + 1 => simp at hj) (by simpa using h1c) hr (fun j hj => by
      obtain rfl : j = 0 := by simpa using hj
      simpa [h4] using hspare.1) (fun j hj => by
      obtain rfl : j = 0 := by simpa using hj
      simpa [h4] using hspare.2)
  rw [h4] at hrun
  simp only [Nat.mul_one, Nat.zero_add, World.setCells] at hrun
  unfold Oper.wp
  simp [execOp, hop, resolve, invoke, builtin, hs, hx, hrun, Result.andThen]
  exact hK' _ _ hroom
def Room10 (T : TypeId) (g : Nat) (W : World) (xs : List Int) : Prop := ∃ cs : Array Value, W.heap[g]? = some (.cells cs T (0, 0)) ∧ cs.size = 10 ∧ cs.toList.take xs.length = nums .u8 xs
theorem Room10.lt {T : TypeId} {g : Nat} {W : World} {xs : List Int} (h : Room10 T g W xs) : g < W.heap.size := by
  obtain ⟨cs, hb, _⟩ := h
  exact blk_lt hb
theorem Room10.below {T : TypeId} {g : Nat} {W W1 : World} {xs : List Int} (h : Room10 T g W xs) (hb : Below W.heap.size W W1) : Room10 T g W1 xs := by
  obtain ⟨cs, hc, r⟩ := h
  exact ⟨cs, (hb.block g (blk_lt hc)).trans hc, r⟩
theorem Room10.put {T : TypeId} {g : Nat} {W : World} {xs : List Int} (h : Room10 T g W xs) (hl : xs.length < 10) (x : Int) : Room10 T g (W.setCell ⟨g, xs.length, none⟩ (.int .u8 x)) (xs ++ [x]) := by
  obtain ⟨cs, hc, hs, ht⟩ := h
  refine ⟨_, blk_set hc xs.length (.int .u8 x), by simpa using hs, ?_⟩
  rw [Array.toList_setIfInBounds, List.length_append, List.length_singleton, List.take_succ_eq_append_getElem (by simp; omega), List.take_set_of_le (Nat.le_refl _), ht]
  simp [nums]
theorem Room10.spare {T : TypeId} {g : Nat} {W : World} {xs : List Int} (h : Room10 T g W xs) (n : Nat) (hl : n < 10) : (W.cell? ⟨g, n, none⟩).isSome = true ∧ W.frozen? ⟨g, n, none⟩ = false := by
  obtain ⟨cs, hc, hs, ht⟩ := h
  refine ⟨?_, blk_frozen hc _⟩
  rw [blk_cell hc, Array.getElem?_eq_getElem (by omega)]
  rfl
theorem Room10.cells {T : TypeId} {g : Nat} {W : World} {xs : List Int} (h : Room10 T g W xs) : ∀ i, i < xs.length → W.cell? ⟨g, 0 + i, none⟩ = some (.int .u8 (xs.getD i 0)) := by
  obtain ⟨cs, hc, hs, ht⟩ := h
  intro i hi
  rw [Nat.zero_add, blk_cell hc]
  have h1 : (cs.toList.take xs.length)[i]? = (nums .u8 xs)[i]? := by rw [ht]
  rw [List.getElem?_take_of_lt hi, Array.getElem?_toList] at h1
  rw [h1]
  simp [nums, List.getElem?_eq_getElem hi, List.getD_eq_getElem?_getD]
theorem num_Add.longer : ∀ k xs a r, num_Add.l0 k xs a = some r → xs.length < r.length
  | 0, _, _, _, h => by simp [num_Add.l0] at h
  | k + 1, xs, a, r, h => by
    simp only [num_Add.l0] at h
    split at h
    · split at h
      · have := num_Add.longer k _ _ _ h
        simp at this
        omega
      · cases h
    · split at h
      · cases h
        simp
      · cases h
set_option maxHeartbeats 8000000 in
set_option maxRecDepth 100000 in
theorem num_Add.room (k : Nat) (g : Nat) (xs : List Int) (a1 : Int) (r : List Int) (w0 w : World) (hB : Below w0.heap.size w0 w) (hg : w0.heap.size ≤ g) (hR : Room10 80 g w xs) (h : num_Add.f k xs a1 = some r) (hl : r.length ≤ 10) :
    Calls Try.prog 28 #[.slice (some ⟨g, 0, none⟩) xs.length 10, .int .u64 a1] w fun e w' => e = .returned (.slice (some ⟨g, 0, none⟩) r.length 10) ∧ Room10 80 g w' r ∧ Below w0.heap.size w0 w' := by
  have HR := Aside0.mk hR
  have HB := Aside0.mk hB
  have HG := Aside0.mk hg
  have HL := Aside0.mk hl
  clear hB hR hg hl
  have H : (num_Add.l0 k xs a1) = some r := h
  clear h
  have H' := Aside0.mk H
  clear H
  go_enter Try.func28, Try.ntmps28
  go_wp2
  go_loopg [0, 1] k (fun kq v0 v1 w' => ∃ (x0_1 : List Int) (x1_1 : Int), v0 = .slice (some ⟨g, 0, none⟩) x0_1.length 10 ∧ v1 = .int .u64 x1_1 ∧ Aside0 (num_Add.l0 kq x0_1 x1_1 = some r) ∧ Aside0 (kq ≤ k) ∧ Aside0 (Room10 80 g w' x0_1) ∧ Aside0 (Below w0.heap.size w0 w'))
  case atStart => exact ⟨xs, a1, rfl, rfl, H', ⟨Nat.le_refl _⟩, HR, HB⟩
  case round =>
    clear H'
    obtain ⟨x0_1, x1_1, rfl, rfl, HA, HK1, HR, HB⟩ := hrel
    cases gk with
    | zero => exact absurd HA.out (by simp [num_Add.l0])
    | succ k1 =>
      have H := HA.out
      have HN := Aside0.mk (num_Add.longer _ _ _ _ HA.out)
      clear HA
      simp only [num_Add.l0] at H
      by_cases c3 : x1_1 ≥ 128
      · rw [if_pos c3] at H
        have c3b0 : decide (128 ≤ x1_1) = true := decide_eq_true c3
        clear c3
        by_cases c4 : x0_1.length < 140737488355328
        · rw [if_pos c4] at H
          clear c4
          have H' := Aside0.mk H
          clear H
          go_wp2_with (first | ((with_reducible refine gate_builtin (b := .append) (xs := #[.tmp 7, .tmp 11]) rfl ?_); at_builtin; refine wpList_append_in _ rfl (.tmp 7) (.tmp 11) 81 rfl 5 _ Try.underlying81 rfl rfl g x0_1.length 10 rfl _ _ (.int .u8 (Go.bits .or .u8 ((x1_1) % 256) 128)) rfl ?c1 rfl ?c2 ?c3 ?_; (case c1 => exact (blk_cell (heap_alloc_new _ _) 0).trans rfl); (case c2 => have := HN.out; have := HL.out; omega); (case c3 => exact (HR.out.below (below_alloc (Below.refl _ _) _)).spare _ (by have := HN.out; have := HL.out; omega)); have HR' := Aside0.mk ((HR.out.below (below_alloc (Below.refl _ _) (.cells #[.int .u8 (Go.bits .or .u8 ((x1_1) % 256) 128)] 5))).put (by have := HN.out; have := HL.out; omega) (Go.bits .or .u8 ((x1_1) % 256) 128)); have HB' := Aside0.mk ((below_alloc HB.out (.cells #[.int .u8 (Go.bits .or .u8 ((x1_1) % 256) 128)] 5)).setCell (p := ⟨g, x0_1.length, none⟩) HG.out (.int .u8 (Go.bits .or .u8 ((x1_1) % 256) 128))); clear HR HB))
          go_roundg k1
          case measure => have := HK1.out; omega
          case rel => exact ⟨x0_1 ++ [Go.bits .or .u8 ((x1_1) % 256) 128], x1_1 / 128, by first | rfl | (simp; done), rfl, H', ⟨by have := HK1.out; omega⟩, HR', HB'⟩
        · rw [if_neg c4] at H
          exact absurd H (by simp)
      · rw [if_neg c3] at H
        have c3b0 : decide (128 ≤ x1_1) = false := decide_eq_false c3
        clear c3
        by_cases c6 : x0_1.length < 140737488355328
        · rw [if_pos c6] at H
          clear c6
          have hr := Option.some.inj H
          clear H
          have HE := Aside0.mk hr
          clear hr
          go_wp2_with (first | ((with_reducible refine gate_builtin (b := .append) (xs := #[.tmp 15, .tmp 18]) rfl ?_); at_builtin; refine wpList_append_in _ rfl (.tmp 15) (.tmp 18) 81 rfl 5 _ Try.underlying81 rfl rfl g x0_1.length 10 rfl _ _ (.int .u8 ((x1_1) % 256)) rfl ?c1 rfl ?c2 ?c3 ?_; (case c1 => exact (blk_cell (heap_alloc_new _ _) 0).trans rfl); (case c2 => have := HN.out; have := HL.out; omega); (case c3 => exact (HR.out.below (below_alloc (Below.refl _ _) _)).spare _ (by have := HN.out; have := HL.out; omega)); have HR' := Aside0.mk ((HR.out.below (below_alloc (Below.refl _ _) (.cells #[.int .u8 ((x1_1) % 256)] 5))).put (by have := HN.out; have := HL.out; omega) ((x1_1) % 256)); have HB' := Aside0.mk ((below_alloc HB.out (.cells #[.int .u8 ((x1_1) % 256)] 5)).setCell (p := ⟨g, x0_1.length, none⟩) HG.out (.int .u8 ((x1_1) % 256))); clear HR HB))
          go_ret
          have he := HE.out
          subst he
          exact ⟨by simp, HR'.out, HB'.out⟩
        · rw [if_neg c6] at H
          exact absurd H (by simp)
def num_Put.f (k : Nat) (a0 : Int) : Option (ByteArray) := (num_Add.f k [] a0).bind fun l => if l.length ≤ 10 then some (strOfNums l) else none
theorem num_Put.mono : ∀ a0 k, LeO (num_Put.f k a0) (num_Put.f (k + 1) a0) := by
  intro a0 k
  unfold num_Put.f
  repeat' first
      | (with_reducible exact num_Add.mono _ _ _)
      | (with_reducible exact LeO.refl _)
      | (with_reducible exact LeO.none _)
      | (with_reducible refine LeO.ite ?_ ?_)
      | (with_reducible refine LeO.bind ?_ (fun _ => ?_))
      | exact num_Add.mono _ _ _
      | exact LeO.none _
      | refine LeO.ite ?_ ?_
      | refine LeO.bind ?_ (fun _ => ?_)
set_option maxHeartbeats 8000000 in
set_option maxRecDepth 100000 in
theorem num_Put.calls (k : Nat) (a0 : Int) (r : ByteArray) (w : World) (h : num_Put.f k a0 = some r) :
    Calls Try.prog 13 #[.int .u64 a0] w fun e w' => e = .returned (.string r) ∧ Below w.heap.size w w' := by
  have HB := Aside0.mk (Below.refl w.heap.size w)
  have H := Option.bind_eq_some_iff.mp h
  clear h
  obtain ⟨l, hA, hl⟩ := H
  by_cases h10 : l.length ≤ 10
  · rw [if_pos h10] at hl
    have HE := Aside0.mk (Option.some.inj hl)
    have HL := Aside0.mk h10
    have HA := Aside0.mk hA
    clear hl h10 hA
    go_enter Try.func13, Try.ntmps13
    go_wp2_with (first | (go_at_call 28; refine (num_Add.room k w.heap.size [] a0 l w _ (below_alloc (Below.refl _ _) _) (Nat.le_refl _) ⟨_, heap_alloc_new _ _, rfl, rfl⟩ HA.out HL.out).mono ?_; rintro e w5 ⟨rfl, hr, hb⟩; have hcv := run_convert_bytes_arg (P := Try.prog) w5 81 5 Try.underlying81 Try.underlying5 w.heap.size 0 l.length 10 l rfl hr.cells 9 Try.underlying9; have HB5 := Aside0.mk hb; clear hr hb))
    go_ret
    have he := HE.out
    subst he
    exact ⟨rfl, HB5.out⟩
  · rw [if_neg h10] at hl
    exact absurd hl (by simp)
def spoortop_begins.f (k : Nat)  : Option (Bool) := (num_Get.f k (⟨#[172, 2, 122]⟩ : ByteArray)).bind fun bt109 => ((crc_Of.f k (⟨#[49, 50, 51, 52, 53, 54, 55, 56, 57]⟩ : ByteArray)).bind fun t112 => (if t112 = 3808858755 then (if bt109.1 = 300 then (if bt109.2.1.toList = ([122] : List UInt8) then (if bt109.2.2 = 0 then ((num_Put.f k 300).bind fun t113 => (some (t113.toList == ([172, 2] : List UInt8)))) else (none)) else (none)) else (none)) else (none)))
theorem spoortop_begins.mono : ∀ k, LeO (spoortop_begins.f k ) (spoortop_begins.f (k + 1) ) := by
 intro  k
 unfold spoortop_begins.f
 repeat' first
   | (with_reducible exact crc_Of.mono _ _)
   | (with_reducible exact num_Get.mono _ _)
   | (with_reducible exact num_Put.mono _ _)
   | (with_reducible exact LeO.refl _)
   | (with_reducible exact LeO.none _)
   | (with_reducible refine LeO.ite ?_ ?_)
   | (with_reducible refine LeO.bind ?_ (fun _ => ?_))
   | exact crc_Of.mono _ _
   | exact num_Get.mono _ _
   | exact num_Put.mono _ _
   | exact LeO.none _
   | refine LeO.ite ?_ ?_
   | refine LeO.bind ?_ (fun _ => ?_)
set_option maxHeartbeats 8000000 in
set_option maxRecDepth 100000 in
theorem spoortop_begins.calls (k : Nat)  (r : Bool) (w : World) (h : spoortop_begins.f k  = some r) :
  Calls Try.prog 4 #[] w fun e w' => e = .returned (.bool r) ∧ Below w.heap.size w w' := by
 have HB := Ax (Below.refl w.heap.size w)
 have H : ((num_Get.f k (⟨#[172, 2, 122]⟩ : ByteArray)).bind fun bt109 => ((crc_Of.f k (⟨#[49, 50, 51, 52, 53, 54, 55, 56, 57]⟩ : ByteArray)).bind fun t112 => (if t112 = 3808858755 then (if bt109.1 = 300 then (if bt109.2.1.toList = ([122] : List UInt8) then (if bt109.2.2 = 0 then ((num_Put.f k 300).bind fun t113 => (some (t113.toList == ([172, 2] : List UInt8)))) else (none)) else (none)) else (none)) else (none)))) = some r := h
 clear h
 replace H := Option.bind_eq_some_iff.mp H
 obtain ⟨⟨t109, t110, t111⟩, A10, H⟩ := H
 replace H : ((crc_Of.f k (⟨#[49, 50, 51, 52, 53, 54, 55, 56, 57]⟩ : ByteArray)).bind fun t112 => (if t112 = 3808858755 then (if t109 = 300 then (if t110.toList = ([122] : List UInt8) then (if t111 = 0 then ((num_Put.f k 300).bind fun t113 => (some (t113.toList == ([172, 2] : List UInt8)))) else (none)) else (none)) else (none)) else (none))) = some r := H
 have A1 := Ax A10
 clear A10
 replace H := Option.bind_eq_some_iff.mp H
 obtain ⟨t112, A20, H⟩ := H
 replace H : (if t112 = 3808858755 then (if t109 = 300 then (if t110.toList = ([122] : List UInt8) then (if t111 = 0 then ((num_Put.f k 300).bind fun t113 => (some (t113.toList == ([172, 2] : List UInt8)))) else (none)) else (none)) else (none)) else (none)) = some r := H
 have A2 := Ax A20
 clear A20
 by_cases c3 : t112 = 3808858755
 ·rw [if_pos c3] at H
  have c3b0 : (t112 == 3808858755) = true := beq_iff_eq.mpr c3
  have c3b1 : (t112 != 3808858755) = false := bne_eq_false_iff_eq.mpr c3
  clear c3
  by_cases c4 : t109 = 300
  ·rw [if_pos c4] at H
   have c4b0 : (t109 == 300) = true := beq_iff_eq.mpr c4
   have c4b1 : (t109 != 300) = false := bne_eq_false_iff_eq.mpr c4
   clear c4
   by_cases c5 : t110.toList = ([122] : List UInt8)
   ·rw [if_pos c5] at H
    have c5b0 : (t110.toList == ([122] : List UInt8)) = true := beq_iff_eq.mpr c5
    have c5b1 : (t110.toList != ([122] : List UInt8)) = false := bne_eq_false_iff_eq.mpr c5
    clear c5
    by_cases c6 : t111 = 0
    ·rw [if_pos c6] at H
     have c6b0 : (t111 == 0) = true := beq_iff_eq.mpr c6
     have c6b1 : (t111 != 0) = false := bne_eq_false_iff_eq.mpr c6
     clear c6
     replace H := Option.bind_eq_some_iff.mp H
     obtain ⟨t113, A70, H⟩ := H
     replace H : (some (t113.toList == ([172, 2] : List UInt8))) = some r := H
     have A7 := Ax A70
     clear A70
     obtain rfl := Option.some.inj H
     go_enter Try.func4, Try.ntmps4
     go_wp2_with (first | ((with_reducible refine gate_callee (f := 11) rfl ?_); refine goesL_ (some 5) rfl rfl Try.func11 (by kernel_rfl) rfl #[.string (⟨#[172, 2, 122]⟩ : ByteArray)] rfl gS ?_; (with_reducible refine (num_Get.calls k (⟨#[172, 2, 122]⟩ : ByteArray) t109 t110 t111 _ A1.out).mono ?_); rintro e w8 ⟨rfl, hb⟩; refine ⟨_, rfl, ?_⟩; replace HB := Bs0 HB hb; (try clear hb)) | ((with_reducible refine gate_callee (f := 12) rfl ?_); refine goesL_ (some 9) rfl rfl Try.func12 (by kernel_rfl) rfl #[.string (⟨#[49, 50, 51, 52, 53, 54, 55, 56, 57]⟩ : ByteArray)] rfl gS ?_; (with_reducible refine (crc_Of.calls k (⟨#[49, 50, 51, 52, 53, 54, 55, 56, 57]⟩ : ByteArray) t112 _ A2.out).mono ?_); rintro e w' ⟨rfl, ⟨nd, rfl⟩⟩; refine ⟨_, rfl, ?_⟩) | (go_at_call 13; (with_reducible refine (num_Put.calls k 300 t113 _ A7.out).mono ?_); rintro e w9 ⟨rfl, hb⟩; replace HB := Bs0 HB hb; (try clear hb)))
     go_ret
     exact ⟨eS, bw0 HB.out⟩
    ·rw [if_neg c6] at H
     exact absurd H (by simp)
   ·rw [if_neg c5] at H
    exact absurd H (by simp)
  ·rw [if_neg c4] at H
   exact absurd H (by simp)
 ·rw [if_neg c3] at H
  exact absurd H (by simp)
def ivl_runs.l0 : Nat → List (S77) → List (S23) → Int → Int → Option ((List (S77)))
 | 0, _, _, _, _ => none
 | k + 1, x3, x9, x10, x11 => if x11 < x10 then (if 0 ≤ x11 then (if x11 < (x9.length : Int) then (if x11 < (x3.length : Int) then (ivl_runs.l0 k (x3.set (x11 : Int).toNat (⟨(rd_T23 x9 x11).f0, (rd_T23 x9 x11).f1⟩ : S77)) x9 x10 (wrap64 (x11 + 1))) else (none)) else (none)) else (none)) else (some x3)
def ivl_runs.f (k : Nat) (l0 : List (S23)) : Option ((List (S77))) := if 0 ≤ (l0.length : Int) then (if ((l0.length : Int) : Int).toNat ≤ 17592186044416 then (ivl_runs.l0 k (List.replicate ((l0.length : Int) : Int).toNat z77) l0 (l0.length : Int) 0) else (none)) else (none)
set_option maxHeartbeats 8000000 in
set_option maxRecDepth 100000 in
theorem ivl_runs.calls (k : Nat) (A0 : Option Addr) (c0 : Nat) (l0 : List (S23)) (r : List (S77)) (w : World) (hr0 : Kd.C k23 w A0 l0.length l0) (hc0 : l0.length ≤ c0) (h : ivl_runs.f k l0 = some r) :
  Calls Try.prog 22 #[.slice A0 l0.length c0] w fun e w' => ∃ v0_ : Value, e = .returned (v0_) ∧ Kd.R k77 77 w' w.heap.size (fun _ => True) v0_ r ∧ Below w.heap.size w w' := by
 have hu23 := Try.underlying23
 have hu77 := Try.underlying77
 have HR0 := Ax hr0
 have HC0 := Ax hc0
 clear hr0 hc0
 have HB := Ax (Below.refl w.heap.size w)
 have H : (if 0 ≤ (l0.length : Int) then (if ((l0.length : Int) : Int).toNat ≤ 17592186044416 then (ivl_runs.l0 k (List.replicate ((l0.length : Int) : Int).toNat z77) l0 (l0.length : Int) 0) else (none)) else (none)) = some r := h
 clear h
 by_cases c2 : 0 ≤ (l0.length : Int)
 ·rw [if_pos c2] at H
  have c2b0 := eq_true c2
  have c2b1 : decide (0 ≤ (l0.length : Int)) = true := decide_eq_true c2
  clear c2
  by_cases c3 : ((l0.length : Int) : Int).toNat ≤ 17592186044416
  ·rw [if_pos c3] at H
   have c3b0 := eq_true c3
   have c3b1 : decide (((l0.length : Int) : Int).toNat ≤ 17592186044416) = true := decide_eq_true c3
   clear c3
   obtain ⟨y116, hy116⟩ : ∃ y_ : List (S77), y_ = (List.replicate ((l0.length : Int) : Int).toNat z77) := ⟨_, rfl⟩
   replace H : (ivl_runs.l0 k y116 l0 (l0.length : Int) 0) = some r := by first | (rw [hy116]; with_reducible exact H) | (have H2_ := (Option.bind_some _ _).symm.trans H; rw [hy116]; with_reducible exact H2_) | (have H2_ := (Option.bind_some _ _).symm.trans H; with_reducible exact H2_) | with_reducible exact H | (rw [hy116]; exact H) | exact H
   have Ny116 := Ax hy116
   clear hy116
   have H' := Ax H
   clear H
   go_enter Try.func22, Try.ntmps22
   go_wp2_with (first | ((with_reducible refine gate_dst (N := 8) rfl ?_); refine Kd.R_make k77 _ 77 rfl (N := 8) rfl 64 _ _ rfl (l0.length : Int) rfl rfl Try.underlying64 (.agg #[(.int .i64 0), (.int .i64 0)]) 16 info77 rfl (by decide) (by omega) z77 (ok := fun _ => True) (okp := fun _ => True) (k77_mkM _ _ _ z77 ) (fun _ hk => hk) trivial (of_decide_eq_true (by first | (with_reducible assumption) | assumption)) (Nat.le_trans (Nat.mul_le_mul_right _ (of_decide_eq_true (by first | (with_reducible assumption) | assumption) : (l0.length : Int).toNat ≤ 17592186044416)) (by omega)) (Below.refl _ _) (Nat.le_refl _) ?_; intro v117 w4 ho5 hb hg_ hnew_; clear hg_ hnew_; (first | rw [← Ny116.out] at ho5 | (simp only [Int.reduceToNat] at ho5; rw [← Ny116.out] at ho5)); have HO118 := Ax (Kd.R_lower ho5 (below_size (bw0 HB.out))); replace HB := Bs0 HB hb; clear hb ho5))
   go_loopg [11] k (fun kq v11 w' => ∃ (x3_1 : List (S77)) (x11_1 : Int), v11 = .int .i64 x11_1 ∧ Aside0 (ivl_runs.l0 kq x3_1 l0 (l0.length : Int) x11_1 = some r) ∧ Aside0 (kq ≤ k) ∧ Aside0 (Kd.R k77 77 w' w.heap.size (fun _ => True) v117 x3_1) ∧ Aside0 (Below w.heap.size w w'))
   case atStart => exact ⟨(y116), (0), rS, H', ⟨Nat.le_refl _⟩, ⟨by (with_reducible repeat (first | apply Kd.R_alloc | apply Kd.R_drewN | apply Kd.R_drew)); exact HO118.out⟩, ⟨bw0 HB.out⟩⟩
   case round =>
    clear H'
    try clear c2
    try clear c2b0
    try clear c2b1
    try clear p2
    try clear c3
    try clear c3b0
    try clear c3b1
    obtain ⟨x3_1, x11_1, rfl, HA, HK1, HO_3, HB⟩ := hrel
    cases gk with
    | zero => exact absurd HA.out (by simp [ivl_runs.l0])
    | succ k1 =>
     have H := HA.out
     clear HA
     simp only [ivl_runs.l0] at H
     by_cases c6 : x11_1 < (l0.length : Int)
     ·rw [if_pos c6] at H
      have c6b0 : decide (x11_1 < (l0.length : Int)) = true := decide_eq_true c6
      clear c6
      by_cases c7 : 0 ≤ x11_1
      ·rw [if_pos c7] at H
       have c7b0 : decide (0 ≤ x11_1) = true := decide_eq_true c7
       clear c7
       by_cases c8 : x11_1 < (l0.length : Int)
       ·rw [if_pos c8] at H
        have c8b0 : decide (x11_1 < (l0.length : Int)) = true := decide_eq_true c8
        clear c8
        by_cases c9 : x11_1 < (x3_1.length : Int)
        ·rw [if_pos c9] at H
         have c9b0 : decide (x11_1 < (x3_1.length : Int)) = true := decide_eq_true c9
         clear c9
         obtain ⟨y121, hy121⟩ : ∃ y_ : List (S77), y_ = (x3_1.set (x11_1 : Int).toNat (⟨(rd_T23 l0 x11_1).f0, (rd_T23 l0 x11_1).f1⟩ : S77)) := ⟨_, rfl⟩
         replace H : (ivl_runs.l0 k1 y121 l0 (l0.length : Int) (wrap64 (x11_1 + 1))) = some r := by first | (rw [hy121]; with_reducible exact H) | (have H2_ := (Option.bind_some _ _).symm.trans H; rw [hy121]; with_reducible exact H2_) | (have H2_ := (Option.bind_some _ _).symm.trans H; with_reducible exact H2_) | with_reducible exact H | (rw [hy121]; exact H) | exact H
         have Ny121 := Ax hy121
         clear hy121
         have H' := Ax H
         clear H
         have p119 : 0 ≤ (x11_1 : Int) := of_decide_eq_true (by first | (with_reducible assumption) | assumption)
         have q119 : x11_1 < (l0.length : Int) := of_decide_eq_true (by first | (with_reducible assumption) | assumption)
         obtain ⟨ad119, e119, hx119_0, hx119_1⟩ := at_T23 HR0.out x11_1 p119 q119
         cases e119
         replace hx119_0 := (HB.out.cell (World.block_lt_of_cell? w _ hx119_0)).trans hx119_0
         replace hx119_1 := (HB.out.cell (World.block_lt_of_cell? w _ hx119_1)).trans hx119_1
         replace p119 := eq_true p119
         replace q119 := eq_true q119
         go_wp2_with (first | ((with_reducible refine gate_dst (N := 5) rfl ?_); refine box_event ?hg (N := 5) ?hd (cs := #[.int .i64 0, .int .i64 0]) (t := 23) ?hr ?_; (case hd => rfl); (case hg => rfl); (case hr => first | (go_simp; done) | (go_simp; rfl)); intro gb120 hg w11 hbox hb; have n0_ := Ax (Kd.R_below (by (with_reducible repeat (first | apply Kd.R_alloc | apply Kd.R_drewN | apply Kd.R_drew)); exact HO_3.out) hb); have n1_ := Bs0 HB hb; have n2_ := Ax (hbox); have n3_ := Gw0 HB hg; have n4_ := Gw0 HB hg; clear HO_3; clear HB; have HO_3 := n0_; have HB := n1_; have BK120 := n2_; have GW120 := n3_; have GE120 := n4_; clear n0_ n1_ n2_ n3_ n4_; clear hb hbox hg; obtain ⟨hcz12_0, hcz12_1, hfz12_0, hfz12_1⟩ := cl2 BK120) | ((with_reducible refine gate_store (t := 23) (p := 5) rfl ?_); refine store_event (t := 23) (p := 5) (v := ?vo_w13) (w1 := ((w11.setCell ⟨gb120, 0, none⟩ (.int .i64 ((rd_T23 l0 x11_1).f0))).setCell ⟨gb120, 1, none⟩ (.int .i64 ((rd_T23 l0 x11_1).f1)))) ?hg ?ho ?hn ?hr ?_; (case ho => rfl); (case hg => rfl); (case hn => rfl); (case hr => first | (go_simp; done) | (go_simp; rfl)); intro w13 hw; have n0_ : Aside0 (Kd.R k77 77 w13 w.heap.size (fun _ => True) v117 x3_1) := ⟨(by rw [hw]; exact (by (with_reducible repeat (first | apply Kd.R_alloc | apply Kd.R_drewN | apply Kd.R_drew)); exact Kd.R_mono (Kd.R_far (p := ⟨gb120, 1, none⟩) (Kd.R_far (p := ⟨gb120, 0, none⟩) (Kd.R_types HO_3.out BK120.out (by decide)) (fun _ hk => hk.2) (.int .i64 ((rd_T23 l0 x11_1).f0))) (fun _ hk => hk.2) (.int .i64 ((rd_T23 l0 x11_1).f1))) (fun _ hk => trivial)))⟩; have n1_ : Aside0 (w13.heap[gb120]? = some (.cells #[.int .i64 ((rd_T23 l0 x11_1).f0), .int .i64 ((rd_T23 l0 x11_1).f1)] 23 (0, 0))) := ⟨(by rw [hw]; exact (by (with_reducible repeat (first | refine blk_drewN ?_ _ | refine blk_drew ?_ | refine blk_alloc ?_ _)); refine blk_put (cs := #[.int .i64 ((rd_T23 l0 x11_1).f0), .int .i64 0]) ?_ 1 _ rfl; (with_reducible repeat (first | refine blk_drewN ?_ _ | refine blk_drew ?_ | refine blk_alloc ?_ _)); refine blk_put (cs := #[.int .i64 0, .int .i64 0]) ?_ 0 _ rfl; (with_reducible repeat (first | refine blk_drewN ?_ _ | refine blk_drew ?_ | refine blk_alloc ?_ _)); exact BK120.out))⟩; have n2_ : Aside0 (Below w.heap.size w w13) := ⟨(by rw [hw]; exact (bw1 HB.out GE120.out))⟩; clear hw; clear HO_3; clear BK120; clear HB; have HO_3 := n0_; have BK120 := n1_; have HB := n2_; clear n0_ n1_ n2_; obtain ⟨hcz14_0, hcz14_1, hfz14_0, hfz14_1⟩ := cl2 BK120; have p10 : 0 ≤ (x11_1 : Int) := of_decide_eq_true (by first | (with_reducible assumption) | assumption); have q10 : (x11_1 : Int) < ((x3_1.length : Int) : Int) := of_decide_eq_true (by first | (with_reducible assumption) | assumption); obtain ⟨go10, co10, eo10, gb10, gl10, cl10, HG10⟩ := Kd.R_form HO_3.out (by omega); (first | cases eo10 | (injection eo10 with ea_ en_ ec_; (first | subst ea_ | (injection ea_ with ea_; subst ea_)); subst ec_; clear en_)); have GB10 := Ax gb10; have GG10 := Ax HG10; clear gb10 gl10 HG10; obtain ⟨ce10, hcl10, hM10, hcc10, hfr10⟩ := Kd.R_elem HO_3.out z77 (x11_1 : Int) p10 q10; obtain rfl := k77_openM hM10; have hx10_0 : w13.cell? ⟨go10, (x11_1 : Int).toNat * 2, none⟩ = some (.int .i64 ((rd_T77 x3_1 x11_1).f0)) := hcc10 0 _ rfl; have hx10_1 : w13.cell? ⟨go10, (x11_1 : Int).toNat * 2 + 1, none⟩ = some (.int .i64 ((rd_T77 x3_1 x11_1).f1)) := hcc10 1 _ rfl; have hf10_0 : w13.frozen? ⟨go10, (x11_1 : Int).toNat * 2, none⟩ = false := hfr10 0; have hf10_1 : w13.frozen? ⟨go10, (x11_1 : Int).toNat * 2 + 1, none⟩ = false := hfr10 1; clear hcl10 hcc10 hfr10 hM10; replace p10 := eq_true p10; replace q10 := eq_true q10; have HX15 := Ax (show Kd.R k77 77 w13 w.heap.size (fun _ => True) (.slice (some ⟨go10, 0, none⟩) x3_1.length co10) x3_1 from (by (with_reducible repeat (first | apply Kd.R_alloc | apply Kd.R_drewN | apply Kd.R_drew)); exact HO_3.out)); obtain ⟨ce15, hcl15, hM15, hcc15, hfr15⟩ := Kd.R_elem HX15.out z77 (x11_1 : Int) (of_decide_eq_true (by first | (with_reducible assumption) | assumption)) (by have h_ : (x11_1 : Int) < ((x3_1.length : Int) : Int) := of_decide_eq_true (by first | (with_reducible assumption) | assumption); first | exact h_ | (have e_ := (Kd.R_reads' HO_3.out).1; omega) | simpa using h_); obtain rfl := k77_openM hM15; have HP15 := Kd.R_seg HX15.out (x11_1 : Int) (of_decide_eq_true (by first | (with_reducible assumption) | assumption)) (by have h_ : (x11_1 : Int) < ((x3_1.length : Int) : Int) := of_decide_eq_true (by first | (with_reducible assumption) | assumption); first | exact h_ | (have e_ := (Kd.R_reads' HO_3.out).1; omega) | simpa using h_) (seg := [.int .i64 ((rd_T23 l0 x11_1).f0), .int .i64 ((rd_T23 l0 x11_1).f1)]) (j := 0) hcl15 hcc15 (show 2 ≤ 2 from by decide) (x' := (⟨(rd_T23 l0 x11_1).f0, (rd_T23 l0 x11_1).f1⟩ : S77)) (k77_mkM _ _ _ (⟨(rd_T23 l0 x11_1).f0, (rd_T23 l0 x11_1).f1⟩ : S77) ) (fun _ hk => hk); have hx15_0 := hcc15 0 _ rfl; (try simp only [show (k77).sz = 2 from rfl, Nat.mul_one, Nat.add_zero] at hx15_0); have hf15_0 := hfr15 0; (try simp only [show (k77).sz = 2 from rfl, Nat.mul_one, Nat.add_zero] at hf15_0); have hx15_1 := hcc15 1 _ rfl; (try simp only [show (k77).sz = 2 from rfl, Nat.mul_one, Nat.add_zero] at hx15_1); have hf15_1 := hfr15 1; (try simp only [show (k77).sz = 2 from rfl, Nat.mul_one, Nat.add_zero] at hf15_1); clear hcl15 hcc15 hfr15 hM15) | ((with_reducible refine gate_store (t := 77) (p := 19) rfl ?_); refine store_event (t := 77) (p := 19) (v := ?vo_w16) (w1 := ((w13.setCell ⟨go10, (x11_1 : Int).toNat * 2, none⟩ (.int .i64 ((rd_T23 l0 x11_1).f0))).setCell ⟨go10, (x11_1 : Int).toNat * 2 + 1, none⟩ (.int .i64 ((rd_T23 l0 x11_1).f1)))) ?hg ?ho ?hn ?hr ?_; (case ho => rfl); (case hg => rfl); (case hn => rfl); (case hr => first | (go_simp; done) | (go_simp; rfl)); intro w16 hw; have hg : w13.grownBy w16 (some go10) := (by rw [hw]; exact HP15.2); have hp_ : Kd.R k77 77 w16 w.heap.size (fun _ => True) (.slice (some ⟨go10, 0, none⟩) x3_1.length co10) y121 := (by rw [hw, Ny121.out]; exact HP15.1); clear HP15; have n0_ := Ax (hp_); have n1_ := Ax (blk_grown (g := gb120) (o := .cells #[.int .i64 ((rd_T23 l0 x11_1).f0), .int .i64 ((rd_T23 l0 x11_1).f1)] 23 (0, 0)) (bf0 BK120.out) hg (Kd.R_ne HO_3.out BK120.out (by decide))); have n2_ := Ax ((by rw [hw]; exact below_set (below_set (HB.out) GB10.out) GB10.out : Below w.heap.size w w16)); clear HO_3; clear BK120; clear HB; have HO_3 := n0_; have BK120 := n1_; have HB := n2_; clear n0_ n1_ n2_; clear hg hw hp_))
         go_roundg k1
         case measure => have := HK1.out; omega
         case rel => exact ⟨(y121), (wrap64 (x11_1 + 1)), rS, H', ⟨by have := HK1.out; omega⟩, ⟨by (with_reducible repeat (first | apply Kd.R_alloc | apply Kd.R_drewN | apply Kd.R_drew)); exact HO_3.out⟩, ⟨bw1 HB.out GE120.out⟩⟩
        ·rw [if_neg c9] at H
         exact absurd H (by simp)
       ·rw [if_neg c8] at H
        exact absurd H (by simp)
      ·rw [if_neg c7] at H
       exact absurd H (by simp)
     ·rw [if_neg c6] at H
      have c6b0 : decide (x11_1 < (l0.length : Int)) = false := decide_eq_false c6
      clear c6
      obtain rfl := Option.some.inj H
      go_wp2
      go_ret
      exact ⟨_, eS, by (with_reducible repeat (first | apply Kd.R_alloc | apply Kd.R_drewN | apply Kd.R_drew)); exact HO_3.out, bw0 HB.out⟩
  ·rw [if_neg c3] at H
   exact absurd H (by simp)
 ·rw [if_neg c2] at H
  exact absurd H (by simp)
def cmpI (a b : Int) : Int := if a < b then -1 else if b < a then 1 else 0
theorem cmpI_gt (a b : Int) : decide (0 < cmpI a b) = decide (b < a) := by unfold cmpI; (repeat' split) <;> simp <;> omega
theorem cmpI_ge (a b : Int) : decide (0 ≤ cmpI a b) = decide (b ≤ a) := by unfold cmpI; (repeat' split) <;> simp <;> omega
theorem isnan_is (a : Int) (w : World) : Calls Try.prog 42 #[.int .i64 a] w fun e w' => e = .returned (.bool false) ∧ w' = w := by
  go_enter Try.func42, Try.ntmps42
  go_wp2
  repeat (go_quiet (fail); try go_wp2)
  go_ret
  exact ⟨rfl, rfl⟩
theorem cmp_is (a b : Int) (w : World) : Calls Try.prog 32 #[.int .i64 a, .int .i64 b] w fun e w' => e = .returned (.int .i64 (cmpI a b)) ∧ w' = w := by
  unfold cmpI
  by_cases h : a < b
  · have hd : decide (a < b) = true := decide_eq_true h
    rw [if_pos h]
    clear h
    go_enter Try.func32, Try.ntmps32
    go_wp2_with (go_at_call 42; refine (isnan_is _ _).mono ?_; rintro e w' ⟨rfl, rfl⟩)
    go_ret
    exact ⟨rfl, rfl⟩
  · have hd : decide (a < b) = false := decide_eq_false h
    rw [if_neg h]
    clear h
    by_cases h : b < a
    · have hd2 : decide (b < a) = true := decide_eq_true h
      rw [if_pos h]
      clear h
      go_enter Try.func32, Try.ntmps32
      go_wp2_with (go_at_call 42; refine (isnan_is _ _).mono ?_; rintro e w' ⟨rfl, rfl⟩)
      go_ret
      exact ⟨rfl, rfl⟩
    · have hd2 : decide (b < a) = false := decide_eq_false h
      rw [if_neg h]
      clear h
      go_enter Try.func32, Try.ntmps32
      go_wp2_with (go_at_call 42; refine (isnan_is _ _).mono ?_; rintro e w' ⟨rfl, rfl⟩)
      go_ret
      exact ⟨rfl, rfl⟩
theorem next_is (a : Int) (h0 : 0 ≤ a + 1) (h1 : a + 1 ≤ 9223372036854775807) (w : World) : Calls Try.prog 33 #[.int .i64 a] w fun e w' => e = .returned (.int .i64 (a + 1)) ∧ w' = w := by
  go_enter Try.func33, Try.ntmps33
  go_wp2
  go_ret
  exact ⟨rfl, rfl⟩
def fieldT : Value := .agg #[.int .i64 0, .int .i64 1099511627776, .func (.func 32) #[] #[], .func (.func 33) #[] #[], .func (.func 34) #[] #[]]
theorem times_is (w : World) : Calls Try.prog 20 #[] w fun e w' => e = .returned fieldT ∧ Below w.heap.size w w' := by
  go_enter Try.func20, Try.ntmps20
  go_wp2
  refine bodyPost_ret (results_cell_row rfl _ _ w.heap.size 68 #[.int .i64 0, .int .i64 1099511627776, .func (.func 32) #[] #[], .func (.func 33) #[] #[], .func (.func 34) #[] #[]] (0, 0) _ rfl (heap_alloc_new _ _) Try.underlying68 rfl (by kernel_rfl)) rfl ?_
  exact ⟨rfl, below_alloc (Below.refl _ _) _⟩
theorem cell_alloc_ {W : World} {a : Addr} {v : Value} (o : Obj) (h : W.cell? a = some v) : (W.alloc o).cell? a = some v := (World.grownBy_alloc W o none).cell h (by simp)
def soundL : Option Int → List S77 → Bool
  | _, [] => true
  | p, x :: xs => if x.f0 < 0 ∨ x.f1 < x.f0 ∨ 1099511627776 < x.f1 then false else
    match p with
    | none => soundL (some x.f1) xs
    | some t => if t = 1099511627776 ∨ x.f0 ≤ t + 1 then false else soundL (some x.f1) xs
set_option maxRecDepth 100000 in
set_option maxHeartbeats 4000000 in
theorem sound_is (A1 : Option Addr) (c1 : Nat) (l1 : List S77) (r : Bool) (h : soundL none l1 = r) (w : World) (hr1 : Kd.C k77 w A1 l1.length l1) (hc1 : l1.length ≤ c1) :
    Calls Try.prog 40 #[fieldT, .slice A1 l1.length c1] w fun e w' => e = .returned (.bool r) ∧ Below w.heap.size w w' := by
  have HR1 := Aside0.mk hr1
  have HC1 := Aside0.mk hc1
  have HM := Aside0.mk (Kd.C_max hr1)
  have H0 := Aside0.mk h
  clear hr1 hc1 h
  unfold fieldT
  go_enter Try.func40, Try.ntmps40
  go_wp2
  have BF0 := Aside0.mk (heap_alloc_new w (.cells #[.int .i64 0, .int .i64 1099511627776, .func (.func 32) #[] #[], .func (.func 33) #[] #[], .func (.func 34) #[] #[]] 68))
  have hb0 := Aside0.mk (below_alloc (Below.refl w.heap.size w) (.cells #[.int .i64 0, .int .i64 1099511627776, .func (.func 32) #[] #[], .func (.func 33) #[] #[], .func (.func 34) #[] #[]] 68))
  generalize hw1 : w.alloc (.cells #[.int .i64 0, .int .i64 1099511627776, .func (.func 32) #[] #[], .func (.func 33) #[] #[], .func (.func 34) #[] #[]] 68) = w1 at BF0 hb0 ⊢
  clear hw1
  go_loopg [9] l1.length (fun kq v9 w' => ∃ (i : Nat) (p : Option Int), v9 = .int .i64 (i : Int) ∧ Aside0 (i ≤ l1.length ∧ kq = l1.length - i) ∧ Aside0 (soundL p (l1.drop i) = r) ∧ Aside0 (p = if 0 < i then some (rd_T77 l1 ((i - 1 : Nat) : Int)).f1 else none) ∧ Aside0 (∀ t, p = some t → 0 ≤ t ∧ t ≤ 1099511627776) ∧ Aside0 (w'.heap[w.heap.size]? = some (.cells #[.int .i64 0, .int .i64 1099511627776, .func (.func 32) #[] #[], .func (.func 33) #[] #[], .func (.func 34) #[] #[]] 68 (0, 0))) ∧ Aside0 (Below w.heap.size w w'))
  case atStart => exact ⟨0, none, rfl, ⟨Nat.zero_le _, rfl⟩, H0, ⟨rfl⟩, ⟨fun _ h => by cases h⟩, BF0, hb0⟩
  case round =>
    clear BF0 hb0 H0
    obtain ⟨i, p, rfl, HI, HA, HP, HPB, BF, Hb⟩ := hrel
    have hm := HM.out
    by_cases hi : i < l1.length
    · have hd : decide ((i : Int) < (l1.length : Int)) = true := decide_eq_true (by omega)
      have hdn : decide (i < l1.length) = true := decide_eq_true hi
      have hrd : l1.drop i = rd_T77 l1 (i : Int) :: l1.drop (i + 1) := by
        rw [List.drop_eq_getElem_cons hi]
        simp [rd_T77, List.getD_eq_getElem?_getD, hi]
      have ha0 := HA.out
      rw [hrd] at ha0
      have p0 : (0 : Int) ≤ (i : Int) := by omega
      have q0 : (i : Int) < (l1.length : Int) := by omega
      have HC := Aside0.mk (Kd.C_below HR1.out Hb.out)
      obtain ⟨ad, ead, hx0, hx1⟩ := at_T77 HC.out (i : Int) p0 q0
      cases ead
      simp only [Int.toNat_natCast] at hx0 hx1
      obtain ⟨x, hx⟩ : ∃ x, rd_T77 l1 (i : Int) = x := ⟨_, rfl⟩
      have HX := Aside0.mk hx
      rw [hx] at hx0 hx1 ha0
      have HA2 := Aside0.mk ha0
      clear hx ha0 hrd HA
      replace p0 := eq_true p0
      replace q0 := eq_true q0
      have HII := Aside0.mk hi
      have e1 : decide (0 < cmpI 0 x.f0) = decide (x.f0 < 0) := cmpI_gt _ _
      have hg0 : (wr.alloc (.cells #[.int .i64 x.f0, .int .i64 x.f1] 77)).cell? ⟨w.heap.size, 0, none⟩ = some (.int .i64 0) := (blk_cell (blk_alloc BF.out _) 0).trans rfl
      have hg1 : (wr.alloc (.cells #[.int .i64 x.f0, .int .i64 x.f1] 77)).cell? ⟨w.heap.size, 1, none⟩ = some (.int .i64 1099511627776) := (blk_cell (blk_alloc BF.out _) 1).trans rfl
      have hg2 : (wr.alloc (.cells #[.int .i64 x.f0, .int .i64 x.f1] 77)).cell? ⟨w.heap.size, 2, none⟩ = some (.func (.func 32) #[] #[]) := (blk_cell (blk_alloc BF.out _) 2).trans rfl
      have hg3 : (wr.alloc (.cells #[.int .i64 x.f0, .int .i64 x.f1] 77)).cell? ⟨w.heap.size, 3, none⟩ = some (.func (.func 33) #[] #[]) := (blk_cell (blk_alloc BF.out _) 3).trans rfl
      have ha := HA2.out
      simp only [soundL] at ha
      have e2 : decide (0 < cmpI x.f0 x.f1) = decide (x.f1 < x.f0) := cmpI_gt _ _
      have e3 : decide (0 < cmpI x.f1 1099511627776) = decide (1099511627776 < x.f1) := cmpI_gt _ _
      by_cases c1 : x.f0 < 0
      · have d1 : decide (x.f0 < 0) = true := decide_eq_true c1
        rw [if_pos (.inl c1)] at ha
        clear HA2
        subst ha
        go_wp2_with (first | (go_at_call 32; refine (cmp_is _ _ _).mono ?_; rintro e w' ⟨rfl, rfl⟩))
        go_ret
        exact ⟨rfl, below_alloc Hb.out _⟩
      have d1 : decide (x.f0 < 0) = false := decide_eq_false c1
      by_cases c2 : x.f1 < x.f0
      · have d2 : decide (x.f1 < x.f0) = true := decide_eq_true c2
        rw [if_pos (.inr (.inl c2))] at ha
        clear HA2
        subst ha
        go_wp2_with (first | (go_at_call 32; refine (cmp_is _ _ _).mono ?_; rintro e w' ⟨rfl, rfl⟩))
        go_ret
        exact ⟨rfl, below_alloc Hb.out _⟩
      have d2 : decide (x.f1 < x.f0) = false := decide_eq_false c2
      by_cases c3 : 1099511627776 < x.f1
      · have d3 : decide (1099511627776 < x.f1) = true := decide_eq_true c3
        rw [if_pos (.inr (.inr c3))] at ha
        clear HA2
        subst ha
        go_wp2_with (first | (go_at_call 32; refine (cmp_is _ _ _).mono ?_; rintro e w' ⟨rfl, rfl⟩))
        go_ret
        exact ⟨rfl, below_alloc Hb.out _⟩
      have d3 : decide (1099511627776 < x.f1) = false := decide_eq_false c3
      rw [if_neg (by omega)] at ha
      have HA3 := Aside0.mk ha
      have HX01 := Aside0.mk (show 0 ≤ x.f1 ∧ x.f1 ≤ 1099511627776 by omega)
      clear ha HA2
      by_cases ci : 0 < i
      · obtain ⟨t, ht⟩ : ∃ t, rd_T77 l1 ((i - 1 : Nat) : Int) = t := ⟨_, rfl⟩
        obtain ⟨ad', ead', hy0, hy1⟩ := at_T77 HC.out ((i - 1 : Nat) : Int) (by omega) (by omega)
        cases ead'
        simp only [Int.toNat_natCast] at hy0 hy1
        rw [ht] at hy0 hy1
        have hp := HP.out
        rw [if_pos ci, ht] at hp
        subst hp
        have hb := HPB.out t.f1 rfl
        have ha := HA3.out
        simp only at ha
        have di : decide (0 < (i : Int)) = true := decide_eq_true (by omega)
        have din : decide (0 < i) = true := decide_eq_true ci
        have wi : IntKind.i64.wrap ((i : Int) - 1) = (i : Int) - 1 := by rw [i64_w]; unfold wrap64; omega
        have ti : ((i : Int) - 1).toNat = i - 1 := by omega
        have pi0 : (0 ≤ (i : Int) - 1) = True := eq_true (by omega)
        have qi0 : ((i : Int) - 1 < (l1.length : Int)) = True := eq_true (by omega)
        have e4 : decide (0 ≤ cmpI (t.f1 + 1) x.f0) = decide (x.f0 ≤ t.f1 + 1) := cmpI_ge _ _
        have hz0 : (wr.alloc (.cells #[.int .i64 x.f0, .int .i64 x.f1] 77)).cell? (ad.add ((i - 1) * 2)) = some (.int .i64 t.f0) := cell_alloc_ _ hy0
        have hz1 : (wr.alloc (.cells #[.int .i64 x.f0, .int .i64 x.f1] 77)).cell? ⟨(ad.add ((i - 1) * 2)).block, (ad.add ((i - 1) * 2)).off + 1, none⟩ = some (.int .i64 t.f1) := cell_alloc_ _ hy1
        have Hb2 := below_alloc Hb.out (.cells #[.int .i64 x.f0, .int .i64 x.f1] 77)
        have BF2 := blk_alloc BF.out (.cells #[.int .i64 x.f0, .int .i64 x.f1] 77)
        have HB2 := Aside0.mk Hb2
        have BF2' := Aside0.mk BF2
        clear hy0 hy1 Hb2 BF2
        by_cases c4 : t.f1 = 1099511627776
        · have d4 : (t.f1 == 1099511627776) = true := beq_iff_eq.mpr c4
          rw [if_pos (.inl c4)] at ha
          subst ha
          clear HA3
          go_wp2_with (first | (go_at_call 32; refine (cmp_is _ _ _).mono ?_; rintro e w' ⟨rfl, rfl⟩))
          go_quiet ((first | (go_at_call 32; exact Calls.quiet_of_same (cmp_is _ _ _)) | (go_at_call 33; exact Calls.quiet_of_same (next_is _ (by omega) (by omega) _))))
          go_wp2
          go_ret
          exact ⟨rfl, pw_below_drewN HB2.out _⟩
        · have d4 : (t.f1 == 1099511627776) = false := beq_eq_false_iff_ne.mpr c4
          by_cases c5 : x.f0 ≤ t.f1 + 1
          · have d5 : decide (x.f0 ≤ t.f1 + 1) = true := decide_eq_true c5
            rw [if_pos (.inr c5)] at ha
            subst ha
            clear HA3
            go_wp2_with (first | (go_at_call 32; refine (cmp_is _ _ _).mono ?_; rintro e w' ⟨rfl, rfl⟩))
            go_quiet ((first | (go_at_call 32; exact Calls.quiet_of_same (cmp_is _ _ _)) | (go_at_call 33; exact Calls.quiet_of_same (next_is _ (by omega) (by omega) _))))
            go_wp2
            go_ret
            exact ⟨rfl, pw_below_drewN HB2.out _⟩
          · have d5 : decide (x.f0 ≤ t.f1 + 1) = false := decide_eq_false c5
            rw [if_neg (by omega)] at ha
            have HA4 := Aside0.mk ha
            clear ha HA3
            go_wp2_with (first | (go_at_call 32; refine (cmp_is _ _ _).mono ?_; rintro e w' ⟨rfl, rfl⟩))
            go_quiet ((first | (go_at_call 32; exact Calls.quiet_of_same (cmp_is _ _ _)) | (go_at_call 33; exact Calls.quiet_of_same (next_is _ (by omega) (by omega) _))))
            go_wp2
            go_roundg (l1.length - (i + 1))
            case measure => have := HI.out; omega
            case rel => exact ⟨i + 1, some x.f1, by go_num, ⟨by omega, rfl⟩, HA4, ⟨by rw [if_pos (by omega), ← HX.out]; simp⟩, ⟨fun t h => by obtain rfl := Option.some.inj h; exact HX01.out⟩, ⟨blk_drewN BF2'.out _⟩, ⟨pw_below_drewN HB2.out _⟩⟩
      · obtain rfl : i = 0 := by omega
        have hp := HP.out
        rw [if_neg (by omega)] at hp
        subst hp
        have ha := HA3.out
        simp only at ha
        have HA4 := Aside0.mk ha
        have di : decide ((0 : Int) < (0 : Int)) = false := by decide
        have HB2 := Aside0.mk (below_alloc Hb.out (.cells #[.int .i64 x.f0, .int .i64 x.f1] 77))
        have BF2' := Aside0.mk (blk_alloc BF.out (.cells #[.int .i64 x.f0, .int .i64 x.f1] 77))
        clear ha HA3
        simp only [Nat.zero_mul, Addr.add_zero'] at hx0 hx1
        go_wp2_with (first | (go_at_call 32; refine (cmp_is _ _ _).mono ?_; rintro e w' ⟨rfl, rfl⟩))
        go_quiet ((first | (go_at_call 32; exact Calls.quiet_of_same (cmp_is _ _ _)) | (go_at_call 33; exact Calls.quiet_of_same (next_is _ (by omega) (by omega) _))))
        go_wp2
        go_roundg (l1.length - 1)
        case measure => have := HI.out; omega
        case rel => exact ⟨1, some x.f1, by go_num, ⟨by omega, rfl⟩, HA4, ⟨by rw [if_pos (by omega), ← HX.out]⟩, ⟨fun t h => by obtain rfl := Option.some.inj h; exact HX01.out⟩, ⟨blk_drewN BF2'.out _⟩, ⟨pw_below_drewN HB2.out _⟩⟩
    · have hd : decide ((i : Int) < (l1.length : Int)) = false := decide_eq_false (by omega)
      have hdn : decide (i < l1.length) = false := decide_eq_false hi
      have ha := HA.out
      rw [List.drop_eq_nil_of_le (by omega)] at ha
      cases p <;> (simp only [soundL] at ha; subst ha; clear HA; go_wp2; go_ret; exact ⟨rfl, Hb.out⟩)
def ivl_Check.f (k : Nat) (l0 : List (S23)) : Option (Int) := if 1024 < (l0.length : Int) then some 2 else (ivl_runs.f k l0).bind fun rs => some (if soundL none rs then 0 else 2)
set_option maxRecDepth 100000 in
set_option maxHeartbeats 4000000 in
theorem ivl_Check.calls (k : Nat) (A0 : Option Addr) (c0 : Nat) (l0 : List (S23)) (r : Int) (w : World) (hr0 : Kd.C k23 w A0 l0.length l0) (hc0 : l0.length ≤ c0) (h : ivl_Check.f k l0 = some r) :
    Calls Try.prog 26 #[.slice A0 l0.length c0] w fun e w' => e = .returned (.int .i64 r) ∧ Below w.heap.size w w' := by
  have HR0 := Aside0.mk hr0
  have HC0 := Aside0.mk hc0
  clear hr0 hc0
  unfold ivl_Check.f at h
  by_cases c1 : 1024 < (l0.length : Int)
  · rw [if_pos c1] at h
    obtain rfl := Option.some.inj h
    have d1 : decide (1024 < (l0.length : Int)) = true := decide_eq_true c1
    have d2 : decide (1024 < l0.length) = true := decide_eq_true (by omega)
    clear h
    go_enter Try.func26, Try.ntmps26
    go_wp2
    go_ret
    exact ⟨rfl, Below.refl _ _⟩
  · rw [if_neg c1] at h
    have d1 : decide (1024 < (l0.length : Int)) = false := decide_eq_false c1
    have d2 : decide (1024 < l0.length) = false := decide_eq_false (by omega)
    obtain ⟨rs, hrs, h⟩ := Option.bind_eq_some_iff.mp h
    have HRS := Aside0.mk hrs
    obtain rfl := Option.some.inj h
    obtain ⟨b, hb⟩ : ∃ b, soundL none rs = b := ⟨_, rfl⟩
    have HBS := Aside0.mk hb
    rw [hb]
    clear h hrs hb
    cases b
    all_goals
      go_enter Try.func26, Try.ntmps26
      go_wp2_with (first | (go_at_call 20; refine (times_is _).mono ?_; rintro e w5 ⟨rfl, hb5⟩; have Hb5 := Aside0.mk hb5; have HR5 := Aside0.mk (Kd.C_below HR0.out hb5); clear hb5) | (go_at_call 22; refine (ivl_runs.calls k _ _ l0 rs _ HR5.out HC0.out HRS.out).mono ?_; rintro e w6 ⟨v0, rfl, ho6, hb6⟩; have Hb6 := Aside0.mk (below_step Hb5.out hb6); have HO6 := Aside0.mk ho6; clear ho6 hb6; obtain ⟨A6, c6, rfl⟩ := Kd.R_slice HO6.out) | (go_at_call 40; refine (sound_is _ _ rs _ HBS.out _ (Kd.R_reads' HO6.out).2.2 (Kd.R_reads' HO6.out).2.1).mono ?_; rintro e w7 ⟨rfl, hb7⟩; have Hb7 := Aside0.mk (below_step Hb6.out hb7); clear hb7))
      go_ret
      exact ⟨rfl, Hb7.out⟩
def ivl_rows.l0 : Nat → List (List (S23)) → Int → Int → Option (Int)
 | 0, _, _, _ => none
 | k + 1, x6, x7, x8 => if x8 < x7 then (if 0 ≤ x8 then (if x8 < (x6.length : Int) then ((ivl_Check.f k (rd_L4 x6 x8)).bind fun t123 => (if t123 = 0 then (ivl_rows.l0 k x6 x7 (wrap64 (x8 + 1))) else (some t123))) else (none)) else (none)) else (some 0)
def ivl_rows.f (k : Nat) (l0 : List (List (S23))) : Option (Int) := ivl_rows.l0 k l0 (l0.length : Int) 0
end Go.Proofs.Ytoheongejamapaa.Q
end
section
namespace Go.Proofs.Ytoheongejamapaa.Q
open Go.RowKit Go.Proofs.YtoheongejamapaaW.PrintWords Go.Proofs.YtoheongejamapaaW.PrintLast Go.Proofs.YtoheongejamapaaW.PrintMore
attribute [local go_sem] max2_int min2_int max_two min_two max_three min_three max_four min_four   -- for this text's walks alone
set_option linter.unusedVariables false
set_option linter.unusedSimpArgs false
set_option maxHeartbeats 8000000 in
set_option maxRecDepth 100000 in
theorem ivl_rows.calls (k : Nat) (A0 : Option Addr) (c0 : Nat) (l0 : List (List (S23))) (r : Int) (w : World) (hr0 : Kd.C (Kd.slice 23 k23) w A0 l0.length l0) (hc0 : l0.length ≤ c0) (h : ivl_rows.f k l0 = some r) :
  Calls Try.prog 18 #[.slice A0 l0.length c0] w fun e w' => e = .returned (.int .i64 r) ∧ Below w.heap.size w w' := by
 have HR0 := Ax hr0
 have HC0 := Ax hc0
 clear hr0 hc0
 have HB := Ax (Below.refl w.heap.size w)
 have H : (ivl_rows.l0 k l0 (l0.length : Int) 0) = some r := h
 clear h
 have H' := Ax H
 clear H
 go_enter Try.func18, Try.ntmps18
 go_wp2
 go_loopg [8] k (fun kq v8 w' => ∃ (x8_1 : Int), v8 = .int .i64 x8_1 ∧ Aside0 (ivl_rows.l0 kq l0 (l0.length : Int) x8_1 = some r) ∧ Aside0 (kq ≤ k) ∧ Aside0 (Below w.heap.size w w'))
 case atStart => exact ⟨(0), rS, H', ⟨Nat.le_refl _⟩, ⟨bw0 HB.out⟩⟩
 case round =>
  clear H'
  try clear c1
  obtain ⟨x8_1, rfl, HA, HK1, HB⟩ := hrel
  cases gk with
  | zero => exact absurd HA.out (by simp [ivl_rows.l0])
  | succ k1 =>
   have H := HA.out
   clear HA
   simp only [ivl_rows.l0] at H
   by_cases c2 : x8_1 < (l0.length : Int)
   ·rw [if_pos c2] at H
    have c2b0 : decide (x8_1 < (l0.length : Int)) = true := decide_eq_true c2
    clear c2
    by_cases c3 : 0 ≤ x8_1
    ·rw [if_pos c3] at H
     have c3b0 : decide (0 ≤ x8_1) = true := decide_eq_true c3
     clear c3
     by_cases c4 : x8_1 < (l0.length : Int)
     ·rw [if_pos c4] at H
      have c4b0 : decide (x8_1 < (l0.length : Int)) = true := decide_eq_true c4
      clear c4
      replace H := Option.bind_eq_some_iff.mp H
      obtain ⟨t123, A50, H⟩ := H
      replace H : (if t123 = 0 then (ivl_rows.l0 k1 l0 (l0.length : Int) (wrap64 (x8_1 + 1))) else (some t123)) = some r := H
      have A5 := Ax A50
      clear A50
      by_cases c6 : t123 = 0
      ·rw [if_pos c6] at H
       have c6b0 : (t123 == 0) = true := beq_iff_eq.mpr c6
       have c6b1 : (t123 != 0) = false := bne_eq_false_iff_eq.mpr c6
       clear c6
       have H' := Ax H
       clear H
       have p122 : 0 ≤ (x8_1 : Int) := of_decide_eq_true (by first | (with_reducible assumption) | assumption)
       have q122 : x8_1 < (l0.length : Int) := of_decide_eq_true (by first | (with_reducible assumption) | assumption)
       obtain ⟨ad122, A122_0, c122_0, e122, hx122_0, hl122_0, hi122_0⟩ := at_L4 HR0.out x8_1 p122 q122
       cases e122
       replace hx122_0 := (HB.out.cell (World.block_lt_of_cell? w _ hx122_0)).trans hx122_0
       have HR122_0 := Ax hi122_0
       have HC122_0 := Ax hl122_0
       clear hi122_0 hl122_0
       replace p122 := eq_true p122
       replace q122 := eq_true q122
       go_wp2_with (first | ((with_reducible refine gate_callee (f := 26) rfl ?_); refine goesL_ (some 13) rfl rfl Try.func26 (by kernel_rfl) rfl #[.slice A122_0 (rd_L4 l0 x8_1).length c122_0] rfl gS ?_; (with_reducible refine (ivl_Check.calls k1 _ _ (rd_L4 l0 x8_1) t123 _ ?side1 ?side2 A5.out).mono ?_); (case side1 => repeat (first | exact (Kd.C_below HR122_0.out HB.out) | (with_reducible refine Kd.C_alloc ?_ _) | (with_reducible refine Kd.C_drewN ?_ _) | (with_reducible refine Kd.C_drew ?_))); (case side2 => exact HC122_0.out); rintro e w7 ⟨rfl, hb⟩; refine ⟨_, rfl, ?_⟩; replace HB := Bs0 HB hb; (try clear hb)))
       go_roundg k1
       case measure => have := HK1.out; omega
       case rel => exact ⟨(wrap64 (x8_1 + 1)), rS, H', ⟨by have := HK1.out; omega⟩, ⟨bw0 HB.out⟩⟩
      ·rw [if_neg c6] at H
       have c6b0 : (t123 == 0) = false := beq_eq_false_iff_ne.mpr c6
       have c6b1 : (t123 != 0) = true := bne_iff_ne.mpr c6
       obtain rfl := Option.some.inj H
       have p122 : 0 ≤ (x8_1 : Int) := of_decide_eq_true (by first | (with_reducible assumption) | assumption)
       have q122 : x8_1 < (l0.length : Int) := of_decide_eq_true (by first | (with_reducible assumption) | assumption)
       obtain ⟨ad122, A122_0, c122_0, e122, hx122_0, hl122_0, hi122_0⟩ := at_L4 HR0.out x8_1 p122 q122
       cases e122
       replace hx122_0 := (HB.out.cell (World.block_lt_of_cell? w _ hx122_0)).trans hx122_0
       have HR122_0 := Ax hi122_0
       have HC122_0 := Ax hl122_0
       clear hi122_0 hl122_0
       replace p122 := eq_true p122
       replace q122 := eq_true q122
       go_wp2_with (first | ((with_reducible refine gate_callee (f := 26) rfl ?_); refine goesL_ (some 13) rfl rfl Try.func26 (by kernel_rfl) rfl #[.slice A122_0 (rd_L4 l0 x8_1).length c122_0] rfl gS ?_; (with_reducible refine (ivl_Check.calls k1 _ _ (rd_L4 l0 x8_1) t123 _ ?side1 ?side2 A5.out).mono ?_); (case side1 => repeat (first | exact (Kd.C_below HR122_0.out HB.out) | (with_reducible refine Kd.C_alloc ?_ _) | (with_reducible refine Kd.C_drewN ?_ _) | (with_reducible refine Kd.C_drew ?_))); (case side2 => exact HC122_0.out); rintro e w8 ⟨rfl, hb⟩; refine ⟨_, rfl, ?_⟩; replace HB := Bs0 HB hb; (try clear hb)))
       go_ret
       exact ⟨eS, bw0 HB.out⟩
     ·rw [if_neg c4] at H
      exact absurd H (by simp)
    ·rw [if_neg c3] at H
     exact absurd H (by simp)
   ·rw [if_neg c2] at H
    have c2b0 : decide (x8_1 < (l0.length : Int)) = false := decide_eq_false c2
    clear c2
    obtain rfl := Option.some.inj H
    go_wp2
    go_ret
    exact ⟨eS, bw0 HB.out⟩
def ivl_told.l0 : Nat → List (S23) → List (S77) → Int → Int → Option ((List (S23)) × Int)
 | 0, _, _, _, _ => none
 | k + 1, x4, x10, x11, x12 => if x12 < x11 then (if 0 ≤ x12 then (if x12 < (x10.length : Int) then (if x4.length < 8796093022208 then (ivl_told.l0 k (x4 ++ [(⟨(rd_T77 x10 x12).f0, (rd_T77 x10 x12).f1⟩ : S23)]) x10 x11 (wrap64 (x12 + 1))) else (none)) else (none)) else (none)) else (some (x4, 0))
def ivl_told.f (k : Nat) (l0 : List (S77)) : Option ((List (S23)) × Int) := if (l0.length : Int) > 1024 then (some (([] : List (S23)), 11)) else (ivl_told.l0 k ([] : List (S23)) l0 (l0.length : Int) 0)
set_option maxHeartbeats 8000000 in
set_option maxRecDepth 100000 in
theorem ivl_told.calls (k : Nat) (A0 : Option Addr) (c0 : Nat) (l0 : List (S77)) (r1 : List (S23)) (r2 : Int) (w : World) (hr0 : Kd.C k77 w A0 l0.length l0) (hc0 : l0.length ≤ c0) (h : ivl_told.f k l0 = some (r1, r2)) :
  Calls Try.prog 19 #[.slice A0 l0.length c0] w fun e w' => ∃ v0_ : Value, e = .returned (.tuple #[v0_, .int .i64 r2]) ∧ Kd.R k23 23 w' w.heap.size (fun _ => True) v0_ r1 ∧ Below w.heap.size w w' := by
 have hu77 := Try.underlying77
 have HR0 := Ax hr0
 have HC0 := Ax hc0
 clear hr0 hc0
 have HB := Ax (Below.refl w.heap.size w)
 have H : (if (l0.length : Int) > 1024 then (some (([] : List (S23)), 11)) else (ivl_told.l0 k ([] : List (S23)) l0 (l0.length : Int) 0)) = some (r1, r2) := h
 clear h
 by_cases c2 : (l0.length : Int) > 1024
 ·rw [if_pos c2] at H
  have c2b0 : decide (1024 < (l0.length : Int)) = true := decide_eq_true c2
  have c2b1 : decide (1024 < l0.length) = true := decide_eq_true (by omega)
  clear c2
  simp only [Option.some.injEq, Prod.mk.injEq] at H
  obtain ⟨rfl, rfl⟩ := H
  go_enter Try.func19, Try.ntmps19
  go_wp2
  go_ret2
  exact ⟨_, eS, by first | exact Kd.R_nil _ _ _ _ _ | exact Kd.N_nil _ _ _ _ _ | exact Kd.V_nil _ _ _ _ _ | exact Kd.Q_nil _ _ _ _ _ | exact Kd.S_nil _ _ _ _ _, bw0 HB.out⟩
 ·rw [if_neg c2] at H
  have c2b0 : decide (1024 < (l0.length : Int)) = false := decide_eq_false c2
  have c2b1 : decide (1024 < l0.length) = false := decide_eq_false (by omega)
  clear c2
  have H' := Ax H
  clear H
  go_enter Try.func19, Try.ntmps19
  go_wp2
  go_loopg [4, 12] k (fun kq v4 v12 w' => ∃ (x4_1 : List (S23)) (x12_1 : Int), v12 = .int .i64 x12_1 ∧ Aside0 (ivl_told.l0 kq x4_1 l0 (l0.length : Int) x12_1 = some (r1, r2)) ∧ Aside0 (kq ≤ k) ∧ Aside0 (Kd.R k23 23 w' w.heap.size (fun _ => True) v4 x4_1) ∧ Aside0 (Below w.heap.size w w'))
  case atStart => exact ⟨(([] : List (S23))), (0), rS, H', ⟨Nat.le_refl _⟩, ⟨by first | exact Kd.R_nil _ _ _ _ _ | exact Kd.N_nil _ _ _ _ _ | exact Kd.V_nil _ _ _ _ _ | exact Kd.Q_nil _ _ _ _ _ | exact Kd.S_nil _ _ _ _ _⟩, ⟨bw0 HB.out⟩⟩
  case round =>
   clear H'
   try clear c1
   try clear c2
   try clear c2b0
   try clear c2b1
   try clear p2
   obtain ⟨x4_1, x12_1, rfl, HA, HK1, HO_4, HB⟩ := hrel
   cases gk with
   | zero => exact absurd HA.out (by simp [ivl_told.l0])
   | succ k1 =>
    have H := HA.out
    clear HA
    simp only [ivl_told.l0] at H
    by_cases c3 : x12_1 < (l0.length : Int)
    ·rw [if_pos c3] at H
     have c3b0 : decide (x12_1 < (l0.length : Int)) = true := decide_eq_true c3
     clear c3
     by_cases c4 : 0 ≤ x12_1
     ·rw [if_pos c4] at H
      have c4b0 : decide (0 ≤ x12_1) = true := decide_eq_true c4
      clear c4
      by_cases c5 : x12_1 < (l0.length : Int)
      ·rw [if_pos c5] at H
       have c5b0 : decide (x12_1 < (l0.length : Int)) = true := decide_eq_true c5
       clear c5
       by_cases c6 : x4_1.length < 8796093022208
       ·rw [if_pos c6] at H
        have LMc6 := Ax c6
        clear c6
        obtain ⟨y126, hy126⟩ : ∃ y_ : List (S23), y_ = (x4_1 ++ [(⟨(rd_T77 l0 x12_1).f0, (rd_T77 l0 x12_1).f1⟩ : S23)]) := ⟨_, rfl⟩
        replace H : (ivl_told.l0 k1 y126 l0 (l0.length : Int) (wrap64 (x12_1 + 1))) = some (r1, r2) := by first | (rw [hy126]; with_reducible exact H) | (have H2_ := (Option.bind_some _ _).symm.trans H; rw [hy126]; with_reducible exact H2_) | (have H2_ := (Option.bind_some _ _).symm.trans H; with_reducible exact H2_) | with_reducible exact H | (rw [hy126]; exact H) | exact H
        have Ny126 := Ax hy126
        clear hy126
        have H' := Ax H
        clear H
        have p124 : 0 ≤ (x12_1 : Int) := of_decide_eq_true (by first | (with_reducible assumption) | assumption)
        have q124 : x12_1 < (l0.length : Int) := of_decide_eq_true (by first | (with_reducible assumption) | assumption)
        obtain ⟨ad124, e124, hx124_0, hx124_1⟩ := at_T77 HR0.out x12_1 p124 q124
        cases e124
        replace hx124_0 := (HB.out.cell (World.block_lt_of_cell? w _ hx124_0)).trans hx124_0
        replace hx124_1 := (HB.out.cell (World.block_lt_of_cell? w _ hx124_1)).trans hx124_1
        replace p124 := eq_true p124
        replace q124 := eq_true q124
        go_wp2_with (first | ((with_reducible refine gate_dst (N := 6) rfl ?_); refine box_event ?hg (N := 6) ?hd (cs := #[.int .i64 0, .int .i64 0]) (t := 77) ?hr ?_; (case hd => rfl); (case hg => rfl); (case hr => first | (go_simp; done) | (go_simp; rfl)); intro gb125 hg w7 hbox hb; have n0_ := Ax (Kd.R_below (by (with_reducible repeat (first | apply Kd.R_alloc | apply Kd.R_drewN | apply Kd.R_drew)); exact HO_4.out) hb); have n1_ := Bs0 HB hb; have n2_ := Ax (hbox); have n3_ := Gw0 HB hg; have n4_ := Gw0 HB hg; clear HO_4; clear HB; have HO_4 := n0_; have HB := n1_; have BK125 := n2_; have GW125 := n3_; have GE125 := n4_; clear n0_ n1_ n2_ n3_ n4_; clear hb hbox hg; obtain ⟨hcz8_0, hcz8_1, hfz8_0, hfz8_1⟩ := cl2 BK125) | ((with_reducible refine gate_builtin (b := .append) (xs := #[.tmp 16, .tmp 18]) rfl ?_); at_builtin; refine Kd.R_append k23 (w0 := w) w.heap.size rfl (.tmp 16) (.tmp 18) 26 23 (.agg #[(.int .i64 0), (.int .i64 0)]) 16 rfl Try.underlying26 info23 rfl (by decide) (by omega) u4 x4_1 (⟨(rd_T77 l0 x12_1).f0, (rd_T77 l0 x12_1).f1⟩ : S23) [.int .i64 ((rd_T77 l0 x12_1).f0), .int .i64 ((rd_T77 l0 x12_1).f1)] (fun _ => True) (fun _ => False) rfl (by first | (go_simp; done) | (go_simp; rfl)) ?aP (fun _ hk => hk.elim) ?aF ?aO ?aB ?aS ?aL ?_; (case aP => exact k23_mkM _ _ _ (⟨(rd_T77 l0 x12_1).f0, (rd_T77 l0 x12_1).f1⟩ : S23)); (case aB => exact (bw1 HB.out GE125.out)); (case aF => exact (fun _ _ => trivial)); (case aO => exact (by (with_reducible repeat (first | apply Kd.R_alloc | apply Kd.R_drewN | apply Kd.R_drew)); exact Kd.R_mono (Kd.R_far (p := ⟨gb125, 1, none⟩) (Kd.R_far (p := ⟨gb125, 0, none⟩) (Kd.R_types HO_4.out BK125.out (by decide)) (fun _ hk => hk.2) (.int .i64 ((rd_T77 l0 x12_1).f0))) (fun _ hk => hk.2) (.int .i64 ((rd_T77 l0 x12_1).f1))) (fun _ hk => trivial))); (case aS => exact (below_size (bw1 HB.out GE125.out))); (case aL => have := LMc6.out; omega); intro v127 w9 ho hb hg hat; rw [← Ny126.out] at ho; have n0_ := Ax (blk_grown (g := gb125) (o := .cells #[.int .i64 ((rd_T77 l0 x12_1).f0), .int .i64 ((rd_T77 l0 x12_1).f1)] 77 (0, 0)) (by (with_reducible repeat (first | refine blk_drewN ?_ _ | refine blk_drew ?_ | refine blk_alloc ?_ _)); refine blk_put (cs := #[.int .i64 ((rd_T77 l0 x12_1).f0), .int .i64 0]) ?_ 1 _ rfl; (with_reducible repeat (first | refine blk_drewN ?_ _ | refine blk_drew ?_ | refine blk_alloc ?_ _)); refine blk_put (cs := #[.int .i64 0, .int .i64 0]) ?_ 0 _ rfl; (with_reducible repeat (first | refine blk_drewN ?_ _ | refine blk_drew ?_ | refine blk_alloc ?_ _)); exact BK125.out) hg (Kd.R_ne HO_4.out BK125.out (by decide))); have n1_ := Ax (hb); have n2_ := Ax (ho); clear BK125; clear HB; clear HO_4; have BK125 := n0_; have HB := n1_; have HO128 := n2_; clear n0_ n1_ n2_; clear ho hb hg hat))
        go_roundg k1
        case measure => have := HK1.out; omega
        case rel => exact ⟨(y126), (wrap64 (x12_1 + 1)), rS, H', ⟨by have := HK1.out; omega⟩, ⟨by (with_reducible repeat (first | apply Kd.R_alloc | apply Kd.R_drewN | apply Kd.R_drew)); exact HO128.out⟩, ⟨bw1 HB.out GE125.out⟩⟩
       ·rw [if_neg c6] at H
        exact absurd H (by simp)
      ·rw [if_neg c5] at H
       exact absurd H (by simp)
     ·rw [if_neg c4] at H
      exact absurd H (by simp)
    ·rw [if_neg c3] at H
     have c3b0 : decide (x12_1 < (l0.length : Int)) = false := decide_eq_false c3
     clear c3
     simp only [Option.some.injEq, Prod.mk.injEq] at H
     obtain ⟨rfl, rfl⟩ := H
     go_wp2
     go_ret2
     exact ⟨_, eS, by (with_reducible repeat (first | apply Kd.R_alloc | apply Kd.R_drewN | apply Kd.R_drew)); exact HO_4.out, bw0 HB.out⟩
abbrev RnM := S77
def fieldM : Array Value := #[.int .i64 0, .int .i64 1099511627776, .func (.func 32) #[] #[], .func (.func 33) #[] #[], .func (.func 34) #[] #[]]
theorem cmpI_ltM (a b : Int) : decide (cmpI a b < 0) = decide (a < b) := by unfold cmpI; (repeat' split) <;> simp <;> omega
theorem infoM19 : (Try.prog.info? 77).map (fun i => (i.zero, i.size, i.bytes)) = some (some (.agg #[(.int .i64 0), (.int .i64 0)]), 2, 16) := by kernel_rfl
theorem cmpI_le (a b : Int) : decide (cmpI a b ≤ 0) = decide (a ≤ b) := by unfold cmpI; (repeat' split) <;> simp <;> omega
def cutR (x y : RnM) : RnM := ⟨if x.f0 < y.f0 then y.f0 else x.f0, if y.f1 < x.f1 then y.f1 else x.f1⟩
def meetN : Nat → List RnM → List RnM → List RnM
  | n + 1, x :: xs, y :: ys => (if (cutR x y).f0 ≤ (cutR x y).f1 then [cutR x y] else []) ++ if x.f1 ≤ y.f1 then meetN n xs (y :: ys) else meetN n (x :: xs) ys
  | _, _, _ => []
theorem meetN_len : ∀ (n : Nat) (a b : List RnM), (meetN n a b).length ≤ n
  | 0, a, b => by cases a <;> cases b <;> simp [meetN]
  | n + 1, [], b => by simp [meetN]
  | n + 1, x :: xs, [] => by simp [meetN]
  | n + 1, x :: xs, y :: ys => by
    have h1 := meetN_len n xs (y :: ys)
    have h2 := meetN_len n (x :: xs) ys
    simp only [meetN, List.length_append]
    split <;> split <;> simp <;> omega
theorem cut_one {P : Program} (t e : TypeId) {i : TypeInfo} (ht : P.underlying t = some (.slice e)) (hi : P.info? e = some i) (size : Nat) (hsz : i.size = size) (A : Option Addr) (n c : Nat) (hn : 1 ≤ n) (hc : n ≤ c) :
    ∀ W : World, (Instr.slice t (.slice A n c) (some (.int .i64 1)) none none).run P W = .ok (.slice (if c = 1 then A else A.map (·.add (1 * size))) (n - 1) (c - 1)) W := by
  intro W
  have hel : P.elem t = e := by simp [Program.elem, ht]
  have hu : P.underlying t = some (.slice (P.elem t)) := by rw [hel]; exact ht
  rw [run_slice_l W t A n c hu .i64 (1 : Int) (by decide) (by omega), hel]
  simp [sizeOf, typeInfo, hi, hsz, sliced, Result.andThen]
theorem meetN_step (x y : RnM) (xs ys : List RnM) : meetN ((x :: xs).length + (y :: ys).length) (x :: xs) (y :: ys) = (if (cutR x y).f0 ≤ (cutR x y).f1 then [cutR x y] else []) ++ if x.f1 ≤ y.f1 then meetN (xs.length + (y :: ys).length) xs (y :: ys) else meetN ((x :: xs).length + ys.length) (x :: xs) ys := by
  have e : (x :: xs).length + (y :: ys).length = (xs.length + (y :: ys).length) + 1 := by simp only [List.length_cons]; omega
  have e2 : (x :: xs).length + ys.length = xs.length + (y :: ys).length := by simp only [List.length_cons]; omega
  rw [e, e2]
  rfl
theorem cut_row (A : Option Addr) (a : List RnM) (x : RnM) (xs : List RnM) (c : Nat) (ha : a = x :: xs) (hc : a.length ≤ c) : ∃ (A' : Option Addr) (c' : Nat), (∀ W : World, (Instr.slice 64 (.slice A a.length c) (some (.int .i64 1)) none none).run Try.prog W = .ok (.slice A' xs.length c') W) ∧ xs.length ≤ c' ∧ ∀ W : World, Kd.C k77 W A a.length a → Kd.C k77 W A' xs.length xs := by
  obtain ⟨i0, hi, hz⟩ := Option.map_eq_some_iff.1 infoM19
  simp only [Prod.mk.injEq] at hz
  have hs : i0.size = 2 := hz.2.1
  have hl : a.length = xs.length + 1 := by rw [ha]; rfl
  have hd : a.drop 1 = xs := by rw [ha]; rfl
  refine ⟨if c = 1 then A else A.map (·.add (1 * 2)), c - 1, fun W => ?_, ?_, fun W h => ?_⟩
  · rw [cut_one 64 77 Try.underlying64 hi 2 hs A a.length c (by omega) hc W, show a.length - 1 = xs.length by omega]
  · omega
  · have h2 := Kd.C_drop (m := 1) h (by omega) hc
    rw [hd] at h2
    exact h2
structure MtIn (w3 : World) (fb bx : Nat) (u v : Int) (val : Value) (out : List RnM) (W : World) : Prop where
  hx : W.heap[bx]? = some (.cells #[.int .i64 u, .int .i64 v] 77 (0, 0))
  hf : W.heap[fb]? = some (.cells fieldM 68 (0, 0))
  ow : Kd.R k77 77 W w3.heap.size (fun k_ => k_ ≠ bx) val out
  bl : Below w3.heap.size w3 W
  ge : w3.heap.size ≤ bx ∧ fb < w3.heap.size
theorem MtIn.drewN {w3 : World} {fb bx : Nat} {u v : Int} {val : Value} {out : List RnM} {W : World} (h : MtIn w3 fb bx u v val out W) (n : Nat) : MtIn w3 fb bx u v val out (W.drewN n) :=
  ⟨blk_drewN h.hx n, blk_drewN h.hf n, Kd.R_below h.ow (pw_below_drewN (Below.refl _ _) n), pw_below_drewN h.bl n, h.ge⟩
theorem MtIn.set0 {w3 : World} {fb bx : Nat} {u v : Int} {val : Value} {out : List RnM} {W : World} (h : MtIn w3 fb bx u v val out W) (z : Int) : MtIn w3 fb bx z v val out (W.setCell ⟨bx, 0, none⟩ (.int .i64 z)) :=
  ⟨blk_put h.hx 0 (.int .i64 z) rfl, blk_far h.hf (p := ⟨bx, 0, none⟩) (by have := h.ge; show fb ≠ bx; omega) _, Kd.R_far h.ow (p := ⟨bx, 0, none⟩) (fun _ hk => hk) _, h.bl.setCell (p := ⟨bx, 0, none⟩) h.ge.1 _, h.ge⟩
theorem MtIn.set1 {w3 : World} {fb bx : Nat} {u v : Int} {val : Value} {out : List RnM} {W : World} (h : MtIn w3 fb bx u v val out W) (z : Int) : MtIn w3 fb bx u z val out (W.setCell ⟨bx, 1, none⟩ (.int .i64 z)) :=
  ⟨blk_put h.hx 1 (.int .i64 z) rfl, blk_far h.hf (p := ⟨bx, 1, none⟩) (by have := h.ge; show fb ≠ bx; omega) _, Kd.R_far h.ow (p := ⟨bx, 1, none⟩) (fun _ hk => hk) _, h.bl.setCell (p := ⟨bx, 1, none⟩) h.ge.1 _, h.ge⟩
theorem row_at {w3 W : World} {A : Option Addr} {a : List RnM} {x : RnM} {xs : List RnM} (h : Kd.C k77 w3 A a.length a) (hb : Below w3.heap.size w3 W) (ha : a = x :: xs) : ∃ ad, A = some ad ∧ W.cell? ad = some (.int .i64 x.f0) ∧ W.cell? ⟨ad.block, ad.off + 1, none⟩ = some (.int .i64 x.f1) := by
  obtain ⟨ad, e, h0, h1⟩ := at_T77 (Kd.C_below h hb) (0 : Int) (by omega) (by rw [ha]; simp)
  rw [show rd_T77 a 0 = x by rw [ha]; rfl] at h0 h1
  simp only [Int.toNat_zero, Nat.zero_mul, Addr.add_zero'] at h0 h1
  exact ⟨ad, e, h0, h1⟩
set_option maxRecDepth 100000 in
set_option maxHeartbeats 4000000 in
theorem meet_is (A0 : Option Addr) (c0 : Nat) (l0 : List RnM) (A1 : Option Addr) (c1 : Nat) (l1 : List RnM) (hL : (l0.length + l1.length + 1) * 16 ≤ 140737488355328) (w : World) (hr0 : Kd.C k77 w A0 l0.length l0) (hc0 : l0.length ≤ c0) (hr1 : Kd.C k77 w A1 l1.length l1) (hc1 : l1.length ≤ c1) :
    Calls Try.prog 21 #[.agg fieldM, .slice A0 l0.length c0, .slice A1 l1.length c1] w fun e w' => ∃ v : Value, e = .returned v ∧ Kd.R k77 77 w' w.heap.size (fun _ => True) v (meetN (l0.length + l1.length) l0 l1) ∧ Below w.heap.size w w' := by
  have hb0 := Aside0.mk (below_alloc (Below.refl w.heap.size w) (.cells fieldM 68))
  have BF0 := Aside0.mk (heap_alloc_new w (.cells fieldM 68))
  have HR0 := Aside0.mk (Kd.C_below hr0 hb0.out)
  have HR1 := Aside0.mk (Kd.C_below hr1 hb0.out)
  have HL := Aside0.mk hL
  have HC0 := Aside0.mk hc0
  have HC1 := Aside0.mk hc1
  clear hr0 hr1 hL hc0 hc1
  go_enter Try.func21, Try.ntmps21
  unfold fieldM at BF0 hb0 HR0 HR1 ⊢
  go_wp2
  generalize w.alloc (.cells #[.int .i64 0, .int .i64 1099511627776, .func (.func 32) #[] #[], .func (.func 33) #[] #[], .func (.func 34) #[] #[]] 68) = w3 at BF0 hb0 HR0 HR1 ⊢
  go_loopg [1, 2, 7] (l0.length + l1.length) (fun kq v1 v2 v7 w' => ∃ (a b out : List RnM) (Aa Ab : Option Addr) (ca cb : Nat), v1 = .slice Aa a.length ca ∧ v2 = .slice Ab b.length cb ∧ Aside0 (kq = a.length + b.length ∧ a.length ≤ l0.length ∧ b.length ≤ l1.length ∧ a.length ≤ ca ∧ b.length ≤ cb ∧ out.length + (a.length + b.length) ≤ l0.length + l1.length) ∧ Aside0 (Kd.C k77 w3 Aa a.length a) ∧ Aside0 (Kd.C k77 w3 Ab b.length b) ∧ Aside0 (out ++ meetN (a.length + b.length) a b = meetN (l0.length + l1.length) l0 l1) ∧ Aside0 (Kd.R k77 77 w' w3.heap.size (fun _ => True) v7 out) ∧ Aside0 (Below w3.heap.size w3 w'))
  case atStart => exact ⟨l0, l1, [], A0, A1, c0, c1, rfl, rfl, ⟨rfl, Nat.le_refl _, Nat.le_refl _, HC0.out, HC1.out, by simp⟩, HR0, HR1, ⟨rfl⟩, ⟨Kd.R_nil _ _ _ _ _⟩, ⟨Below.refl _ _⟩⟩
  case round =>
    obtain ⟨a, b, out, Aa, Ab, ca, cb, rfl, rfl, HI, HA, HB, HV, HO, Hb⟩ := hrel
    by_cases ha : 0 < a.length
    case neg =>
      obtain rfl : a = [] := List.length_eq_zero_iff.mp (by omega)
      have d1 : decide ((0 : Int) < (0 : Int)) = false := by decide
      have hv := HV.out
      rw [show meetN (([] : List RnM).length + b.length) [] b = [] by cases b <;> cases h : (([] : List RnM).length + List.length _) <;> rfl, List.append_nil] at hv
      have HV2 := Aside0.mk hv
      clear HV hv
      simp only [List.length_nil]
      go_wp2
      go_ret
      exact ⟨_, rfl, by rw [← HV2.out]; exact Kd.R_lower HO.out hb0.out.size, below_step hb0.out Hb.out⟩
    have da : decide (0 < (a.length : Int)) = true := decide_eq_true (by omega)
    have dan : decide (0 < a.length) = true := decide_eq_true ha
    by_cases hb : 0 < b.length
    case neg =>
      obtain rfl : b = [] := List.length_eq_zero_iff.mp (by omega)
      have d1 : decide ((0 : Int) < (0 : Int)) = false := by decide
      have hv := HV.out
      rw [show meetN (a.length + ([] : List RnM).length) a [] = [] by cases a <;> cases h : (List.length _ + ([] : List RnM).length) <;> rfl, List.append_nil] at hv
      have HV2 := Aside0.mk hv
      clear HV hv
      simp only [List.length_nil]
      go_wp2
      go_ret
      exact ⟨_, rfl, by rw [← HV2.out]; exact Kd.R_lower HO.out hb0.out.size, below_step hb0.out Hb.out⟩
    have db : decide (0 < (b.length : Int)) = true := decide_eq_true (by omega)
    have dbn : decide (0 < b.length) = true := decide_eq_true hb
    obtain ⟨x, xs, hax⟩ : ∃ x xs, a = x :: xs := by cases a with | nil => simp at ha | cons x xs => exact ⟨x, xs, rfl⟩
    obtain ⟨y, ys, hby⟩ : ∃ y ys, b = y :: ys := by cases b with | nil => simp at hb | cons y ys => exact ⟨y, ys, rfl⟩
    obtain ⟨ada, eada, hxa0, hxa1⟩ := at_T77 (Kd.C_below HA.out Hb.out) (0 : Int) (by omega) (by omega)
    obtain ⟨adb, eadb, hyb0, hyb1⟩ := at_T77 (Kd.C_below HB.out Hb.out) (0 : Int) (by omega) (by omega)
    subst eada
    subst eadb
    rw [show rd_T77 a 0 = x by rw [hax]; rfl] at hxa0 hxa1
    rw [show rd_T77 b 0 = y by rw [hby]; rfl] at hyb0 hyb1
    simp only [Int.toNat_zero, Nat.zero_mul, Addr.add_zero'] at hxa0 hxa1 hyb0 hyb1
    have HAX := Aside0.mk hax
    have HBY := Aside0.mk hby
    have q0 : ((0 : Int) < (a.length : Int)) = True := eq_true (by omega)
    have q1 : ((0 : Int) < (b.length : Int)) = True := eq_true (by omega)
    have q2 : (0 < a.length) = True := eq_true ha
    have q3 : (0 < b.length) = True := eq_true hb
    clear hax hby ha hb
    have hza0 := cell_alloc_ (.cells #[.int .i64 0, .int .i64 0] 77) hxa0
    have hza1 := cell_alloc_ (.cells #[.int .i64 0, .int .i64 0] 77) hxa1
    go_wp2
    go_region
    have HPA := Aside0.mk (show 0 < a.length by rw [HAX.out]; simp)
    have HPB := Aside0.mk (show 0 < b.length by rw [HBY.out]; simp)
    obtain ⟨A7, c7, rfl⟩ := Kd.R_slice HO.out
    have M3 : Aside0 (MtIn w3 w.heap.size wr.heap.size x.f0 x.f1 (.slice A7 out.length c7) out ((wr.alloc (.cells #[.int .i64 x.f0, .int .i64 x.f1] 77)).drew)) :=
      ⟨⟨blk_drew (heap_alloc_new wr _), blk_drew (blk_alloc (blk_below BF0.out Hb.out) _), Kd.R_mono (Kd.R_below (Kd.R_bound HO.out) (below_drew1 (below_alloc (Below.refl _ _) _))) (fun k_ hk => Nat.ne_of_lt hk.2.2.1), below_drew1 (below_alloc Hb.out _), ⟨Hb.out.size, blk_lt BF0.out⟩⟩⟩
    obtain ⟨Aa2, ca2, hsa, hca2, hca3⟩ := cut_row (some ada) a x xs ca HAX.out HI.out.2.2.2.1
    obtain ⟨Ab2, cb2, hsb, hcb2, hcb3⟩ := cut_row (some adb) b y ys cb HBY.out HI.out.2.2.2.2.1
    have HCA := Aside0.mk (And.intro hca2 hca3)
    have HCB := Aside0.mk (And.intro hcb2 hcb3)
    have HST := Aside0.mk (meetN_step x y xs ys)
    clear hxa0 hxa1 hyb0 hyb1 hza0 hza1 hca2 hca3 hcb2 hcb3 HO Hb
    generalize (wr.alloc (.cells #[.int .i64 x.f0, .int .i64 x.f1] 77)).drew = W3 at M3 ⊢
    generalize wr.heap.size = bx at M3 ⊢
    have HNI := Aside0.mk (show (1 : Int) ≤ (a.length : Int) ∧ (1 : Int) ≤ (b.length : Int) by have := HPA.out; have := HPB.out; omega)
    have e1 : decide (cmpI x.f0 y.f0 < 0) = decide (x.f0 < y.f0) := cmpI_ltM _ _
    obtain ⟨ad_, ed_, hyb0, hyb1⟩ := row_at HB.out M3.out.bl HBY.out
    obtain rfl := Option.some.inj ed_
    have hg2 := (blk_cell M3.out.hf 2).trans (rfl : _ = some (Value.func (.func 32) #[] #[]))
    have hbx0 := (blk_cell M3.out.hx 0).trans (rfl : _ = some (Value.int .i64 x.f0))
    go_wp2
    go_quiet ((go_at_call 32; exact Calls.quiet_of_same (cmp_is _ _ _)))
    have M4 := Aside0.mk (M3.out.drewN nq)
    clear hyb0 hyb1 hg2 hbx0 M3
    generalize W3.drewN nq = W4 at M4 ⊢
    go_upto_if 36 with (fail)
    go_cut [36] from 79 (fun v36 w' => Aside0 (MtIn w3 w.heap.size bx (cutR x y).f0 x.f1 (.slice A7 out.length c7) out w'))
    case first =>
      obtain ⟨ad_, ed_, hyb0, hyb1⟩ := row_at HB.out M4.out.bl HBY.out
      obtain rfl := Option.some.inj ed_
      have hbx0 := (blk_cell M4.out.hx 0).trans (rfl : _ = some (Value.int .i64 x.f0))
      have hbf0 := blk_frozen M4.out.hx 0
      by_cases k1 : x.f0 < y.f0
      · have g1 : decide (x.f0 < y.f0) = true := decide_eq_true k1
        have hc : (cutR x y).f0 = y.f0 := if_pos k1
        have HC := Aside0.mk hc
        clear k1 hc
        (first | rw [g1] | rw [e1, g1])
        go_wp2
        go_meet
        case rel => exact ⟨by rw [HC.out]; exact M4.out.set0 y.f0⟩
      · have g1 : decide (x.f0 < y.f0) = false := decide_eq_false k1
        have hc : (cutR x y).f0 = x.f0 := if_neg k1
        have HC := Aside0.mk hc
        clear k1 hc
        (first | rw [g1] | rw [e1, g1])
        go_wp2
        go_meet
        case rel => exact ⟨by rw [HC.out]; exact M4.out⟩
    case rest =>
    clear M4
    have M5 := hcut
    clear hcut
    obtain ⟨F, hF⟩ : ∃ F, (cutR x y).f0 = F := ⟨_, rfl⟩
    rw [hF] at M5
    have HF := Aside0.mk hF
    clear hF
    obtain ⟨ad_, ed_, hxa0, hxa1⟩ := row_at HA.out M5.out.bl HAX.out
    obtain rfl := Option.some.inj ed_
    obtain ⟨ad_, ed_, hyb0, hyb1⟩ := row_at HB.out M5.out.bl HBY.out
    obtain rfl := Option.some.inj ed_
    have hg2 := (blk_cell M5.out.hf 2).trans (rfl : _ = some (Value.func (.func 32) #[] #[]))
    go_wp2
    go_quiet ((go_at_call 32; exact Calls.quiet_of_same (cmp_is _ _ _)))
    have M6 := Aside0.mk (M5.out.drewN nq)
    clear hxa0 hxa1 hyb0 hyb1 hg2 M5
    generalize wc.drewN nq = W6 at M6 ⊢
    have e2 : decide (0 < cmpI x.f1 y.f1) = decide (y.f1 < x.f1) := cmpI_gt _ _
    go_upto_if 54 with (fail)
    go_cut [54] from 79 (fun v54 w' => Aside0 (MtIn w3 w.heap.size bx F (cutR x y).f1 (.slice A7 out.length c7) out w'))
    case first =>
      obtain ⟨ad_, ed_, hyb0, hyb1⟩ := row_at HB.out M6.out.bl HBY.out
      obtain rfl := Option.some.inj ed_
      have hbx1 := (blk_cell M6.out.hx 1).trans (rfl : _ = some (Value.int .i64 x.f1))
      have hbf1 := blk_frozen M6.out.hx 1
      by_cases k2 : y.f1 < x.f1
      · have g2 : decide (y.f1 < x.f1) = true := decide_eq_true k2
        have hc : (cutR x y).f1 = y.f1 := if_pos k2
        have HC := Aside0.mk hc
        clear k2 hc
        (first | rw [g2] | rw [e2, g2])
        go_wp2
        go_meet
        case rel => exact ⟨by rw [HC.out]; exact M6.out.set1 y.f1⟩
      · have g2 : decide (y.f1 < x.f1) = false := decide_eq_false k2
        have hc : (cutR x y).f1 = x.f1 := if_neg k2
        have HC := Aside0.mk hc
        clear k2 hc
        (first | rw [g2] | rw [e2, g2])
        go_wp2
        go_meet
        case rel => exact ⟨by rw [HC.out]; exact M6.out⟩
    case rest =>
    clear M6
    have M7 := hcut
    clear hcut
    obtain ⟨T, hT⟩ : ∃ T, (cutR x y).f1 = T := ⟨_, rfl⟩
    rw [hT] at M7
    have hst := HST.out
    rw [HF.out, hT, show cutR x y = ⟨F, T⟩ from by rw [← HF.out, ← hT]] at hst
    have HST2 := Aside0.mk hst
    clear hT hst HST
    have hg2 := (blk_cell M7.out.hf 2).trans (rfl : _ = some (Value.func (.func 32) #[] #[]))
    have hbx0 := (blk_cell M7.out.hx 0).trans (rfl : _ = some (Value.int .i64 F))
    have hbx1 := (blk_cell M7.out.hx 1).trans (rfl : _ = some (Value.int .i64 T))
    have e4 : decide (cmpI F T ≤ 0) = decide (F ≤ T) := cmpI_le _ _
    go_upto_if 67 with (go_at_call 32; refine (cmp_is _ _ _).mono ?_; rintro e w' ⟨rfl, rfl⟩)
    go_cut [7, 67] from 79 (fun v7 v67 w' => Aside0 (Kd.R k77 77 w' w3.heap.size (fun _ => True) v7 (out ++ if F ≤ T then [⟨F, T⟩] else [])) ∧ Aside0 (Below w3.heap.size w3 w'))
    case first =>
      by_cases k3 : F ≤ T
      · have g4 : decide (F ≤ T) = true := decide_eq_true k3
        have HK3 := Aside0.mk k3
        clear k3
        (first | rw [g4] | rw [e4, g4])
        go_wp2_with (first | (at_builtin; refine Kd.R_append k77 (w0 := w3) w3.heap.size rfl (.tmp 68) (.tmp 70) 64 77 (.agg #[(.int .i64 0), (.int .i64 0)]) 16 rfl Try.underlying64 infoM19 rfl (by decide) (by omega) _ out ⟨F, T⟩ [.int .i64 F, .int .i64 T] (fun k_ => k_ ≠ bx) (fun _ => False) rfl ?aX (k77_mkM _ _ _ (⟨F, T⟩ : RnM)) (fun _ hk => hk.elim) ?aF M7.out.ow M7.out.bl M7.out.bl.size (by have h1 := HL.out; have h2 := HI.out; have h3 := HPA.out; have h4 := HPB.out; omega) ?_; (case aX => first | rfl | (go_simp; done) | (go_simp; rfl)); (case aF => intro k_ hk_ he_; subst he_; exact absurd (blk_lt M7.out.hx) (Nat.not_lt.2 hk_)); intro v1 w1 ho1 hb1 hg1 hat1; have HOZ := Aside0.mk (Kd.R_mono ho1 (fun _ _ => trivial)); have HbZ := Aside0.mk hb1; clear ho1 hb1 hg1 hat1))
        all_goals
          go_meet
          case rel => exact ⟨⟨by rw [if_pos HK3.out]; exact HOZ.out⟩, HbZ⟩
      · have g4 : decide (F ≤ T) = false := decide_eq_false k3
        have HK3 := Aside0.mk k3
        clear k3
        (first | rw [g4] | rw [e4, g4])
        go_wp2
        go_meet
        case rel => exact ⟨⟨by rw [if_neg (by have := HK3.out; omega), List.append_nil]; exact Kd.R_mono M7.out.ow (fun _ _ => trivial)⟩, ⟨M7.out.bl⟩⟩
    case rest =>
    clear M7 hg2 hbx0 hbx1
    obtain ⟨HO8, Hb8⟩ := hcut
    have e3 : decide (cmpI x.f1 y.f1 ≤ 0) = decide (x.f1 ≤ y.f1) := cmpI_le _ _
    have HLN : Aside0 ((out ++ if F ≤ T then [(⟨F, T⟩ : RnM)] else []).length ≤ out.length + 1) := ⟨by rw [List.length_append]; split <;> simp⟩
    have HV2 := Aside0.mk (show (out ++ if F ≤ T then [(⟨F, T⟩ : RnM)] else []) ++ (if x.f1 ≤ y.f1 then meetN (xs.length + b.length) xs b else meetN (a.length + ys.length) a ys) = meetN (l0.length + l1.length) l0 l1 by
      have hv := HV.out
      have h3 := HST2.out
      rw [← HAX.out, ← HBY.out] at h3
      rw [h3] at hv
      rw [List.append_assoc]
      exact hv)
    have HLA := Aside0.mk (show a.length = xs.length + 1 by rw [HAX.out]; rfl)
    have HLB := Aside0.mk (show b.length = ys.length + 1 by rw [HBY.out]; rfl)
    clear HV HST2
    generalize (out ++ if F ≤ T then [(⟨F, T⟩ : RnM)] else []) = out2 at HO8 HLN HV2 ⊢
    by_cases k4 : x.f1 ≤ y.f1
    · have g3 : decide (x.f1 ≤ y.f1) = true := decide_eq_true k4
      have hv := HV2.out
      rw [if_pos k4] at hv
      have HV3 := Aside0.mk hv
      clear k4 hv
      go_wp2
      go_roundg (xs.length + b.length)
      case measure => have h1 := HLA.out; have h2 := HI.out; omega
      case rel => exact ⟨xs, b, out2, Aa2, some adb, ca2, cb, rfl, rfl, ⟨rfl, by have h1 := HLA.out; have h2 := HI.out; omega, HI.out.2.2.1, HCA.out.1, HI.out.2.2.2.2.1, by have h1 := HLA.out; have h2 := HI.out; have h3 := HLN.out; omega⟩, ⟨HCA.out.2 _ HA.out⟩, HB, HV3, HO8, Hb8⟩
    · have g3 : decide (x.f1 ≤ y.f1) = false := decide_eq_false k4
      have hv := HV2.out
      rw [if_neg k4] at hv
      have HV3 := Aside0.mk hv
      clear k4 hv
      go_wp2
      go_roundg (a.length + ys.length)
      case measure => have h1 := HLB.out; have h2 := HI.out; omega
      case rel => exact ⟨a, ys, out2, some ada, Ab2, ca, cb2, rfl, rfl, ⟨rfl, HI.out.2.1, by have h1 := HLB.out; have h2 := HI.out; omega, HI.out.2.2.2.1, HCB.out.1, by have h1 := HLB.out; have h2 := HI.out; have h3 := HLN.out; omega⟩, HA, ⟨HCB.out.2 _ HB.out⟩, HV3, HO8, Hb8⟩
theorem two_rowsM {W : World} {g : Nat} {A0 A1 : Option Addr} {c0 c1 : Nat} {l0 l1 : List S23} (hg : W.heap[g]? = some (.cells #[.slice A0 l0.length c0, .slice A1 l1.length c1] 26 (0, 0))) (h0 : Kd.C k23 W A0 l0.length l0) (hc0 : l0.length ≤ c0) (h1 : Kd.C k23 W A1 l1.length l1) (hc1 : l1.length ≤ c1) :
    Kd.C (Kd.slice 23 k23) W (some ⟨g, 0, none⟩) [l0, l1].length [l0, l1] := by
  refine ⟨rfl, by simp, fun _ => ⟨_, rfl, fun j p hj => ?_⟩⟩
  match j, hj with
  | 0, hj =>
    obtain rfl := Option.some.inj hj
    refine ⟨[.slice A0 l0.length c0], rfl, ⟨A0, c0, rfl, hc0, h0⟩, fun i u hu => ?_⟩
    match i, hu with
    | 0, hu => exact (blk_cell hg 0).trans hu
  | 1, hj =>
    obtain rfl := Option.some.inj hj
    refine ⟨[.slice A1 l1.length c1], rfl, ⟨A1, c1, rfl, hc1, h1⟩, fun i u hu => ?_⟩
    match i, hu with
    | 0, hu => exact (blk_cell hg 1).trans hu
  | j + 2, hj => simp at hj
def ivl_And.f (k : Nat) (l0 l1 : List S23) : Option (List S23 × Int) := (ivl_rows.f k [l0, l1]).bind fun y =>
  if y ≠ 0 then some ([], y) else (ivl_runs.f k l0).bind fun ra => (ivl_runs.f k l1).bind fun rb =>
  if (ra.length + rb.length + 1) * 16 ≤ 140737488355328 then ivl_told.f k (meetN (ra.length + rb.length) ra rb) else none
set_option maxRecDepth 100000 in
set_option maxHeartbeats 4000000 in
theorem ivl_And.calls (k : Nat) (A0 : Option Addr) (c0 : Nat) (l0 : List (S23)) (A1 : Option Addr) (c1 : Nat) (l1 : List (S23)) (r1 : List (S23)) (r2 : Int) (w : World) (hr0 : Kd.C k23 w A0 l0.length l0) (hc0 : l0.length ≤ c0) (hr1 : Kd.C k23 w A1 l1.length l1) (hc1 : l1.length ≤ c1) (h : ivl_And.f k l0 l1 = some (r1, r2)) :
    Calls Try.prog 7 #[.slice A0 l0.length c0, .slice A1 l1.length c1] w fun e w' => ∃ v0_ : Value, e = .returned (.tuple #[v0_, .int .i64 r2]) ∧ Kd.R k23 23 w' w.heap.size (fun _ => True) v0_ r1 ∧ Below w.heap.size w w' := by
  obtain ⟨y, hy, h⟩ := Option.bind_eq_some_iff.mp h
  have HY := Aside0.mk hy
  have HC0 := Aside0.mk hc0
  have HC1 := Aside0.mk hc1
  have HB1 := Aside0.mk (below_alloc (Below.refl w.heap.size w) (.cells #[.slice A0 l0.length c0, .slice A1 l1.length c1] 26))
  have HR1 := Aside0.mk (two_rowsM (heap_alloc_new w (.cells #[.slice A0 l0.length c0, .slice A1 l1.length c1] 26)) (Kd.C_below hr0 HB1.out) hc0 (Kd.C_below hr1 HB1.out) hc1)
  have HA0 := Aside0.mk hr0
  have HA1 := Aside0.mk hr1
  clear hy hr0 hr1 hc0 hc1
  go_enter Try.func7, Try.ntmps7
  by_cases cy : y ≠ 0
  · rw [if_pos cy] at h
    obtain ⟨e1, e2⟩ := Prod.mk.inj (Option.some.inj h)
    subst e1
    subst e2
    have d0 : (y != 0) = true := bne_iff_ne.mpr cy
    clear cy h
    go_wp2_with (go_at_call 18; refine (ivl_rows.calls k _ 2 _ _ _ HR1.out (by simp) HY.out).mono ?_; rintro e w5 ⟨rfl, hb5⟩; have HB5 := Aside0.mk (below_step HB1.out hb5); clear hb5)
    go_ret2
    exact ⟨_, rfl, Kd.R_nil _ _ _ _ _, HB5.out⟩
  · have cy0 : y = 0 := Decidable.not_not.mp cy
    subst cy0
    rw [if_neg cy] at h
    clear cy
    have d0 : ((0 : Int) != 0) = false := rfl
    obtain ⟨ra, hra, h⟩ := Option.bind_eq_some_iff.mp h
    obtain ⟨rb, hrb, h⟩ := Option.bind_eq_some_iff.mp h
    have HRA := Aside0.mk hra
    have HRB := Aside0.mk hrb
    by_cases cg : (ra.length + rb.length + 1) * 16 ≤ 140737488355328
    case neg => rw [if_neg cg] at h; cases h
    rw [if_pos cg] at h
    obtain ⟨mt, hmt⟩ : ∃ mt, meetN (ra.length + rb.length) ra rb = mt := ⟨_, rfl⟩
    rw [hmt] at h
    have HMT := Aside0.mk hmt
    have HT := Aside0.mk h
    have HG := Aside0.mk cg
    clear h cg hra hrb hmt
    go_wp2_with (first
      | (go_at_call 18; refine (ivl_rows.calls k _ 2 _ _ _ HR1.out (by simp) HY.out).mono ?_; rintro e w5 ⟨rfl, hb5⟩; have HB5 := Aside0.mk (below_step HB1.out hb5); clear hb5)
      | (go_at_call 20; refine (times_is _).mono ?_; rintro e w6 ⟨rfl, hb6⟩; have HB6 := Aside0.mk (below_step HB5.out hb6); have HW6 := Aside0.mk (Eq.refl w6); clear hb6)
      | (go_at_call 22; clear HW6; refine (ivl_runs.calls k _ _ l0 ra _ (Kd.C_below HA0.out HB6.out) HC0.out HRA.out).mono ?_; rintro e w8 ⟨v8, rfl, ho8, hb8⟩; have HB8 := Aside0.mk (below_step HB6.out hb8); obtain ⟨A8, c8, rfl⟩ := Kd.R_slice ho8; have HO8 := Aside0.mk ho8; clear hb8 ho8)
      | (go_at_call 22; refine (ivl_runs.calls k _ _ l1 rb _ (Kd.C_below HA1.out HB8.out) HC1.out HRB.out).mono ?_; rintro e w9 ⟨v9, rfl, ho9, hb9⟩; have HB9 := Aside0.mk (below_step HB8.out hb9); have HO89 := Aside0.mk (Kd.R_below HO8.out hb9); obtain ⟨A9, c9, rfl⟩ := Kd.R_slice ho9; have HO9 := Aside0.mk ho9; clear hb9 ho9)
      | (go_at_call 21; refine (meet_is A8 c8 ra A9 c9 rb HG.out _ (Kd.R_reads' HO89.out).2.2 (Kd.R_reads' HO89.out).2.1 (Kd.R_reads' HO9.out).2.2 (Kd.R_reads' HO9.out).2.1).mono ?_; rintro e w10 ⟨v10, rfl, ho10, hb10⟩; rw [HMT.out] at ho10; have HB10 := Aside0.mk (below_step HB9.out hb10); obtain ⟨A10, c10, rfl⟩ := Kd.R_slice ho10; have HO10 := Aside0.mk ho10; clear hb10 ho10)
      | (go_at_call 19; refine (ivl_told.calls k _ _ mt r1 r2 _ (Kd.R_reads' HO10.out).2.2 (Kd.R_reads' HO10.out).2.1 HT.out).mono ?_; rintro e w11 ⟨v11, rfl, ho11, hb11⟩; have HB11 := Aside0.mk (below_step HB10.out hb11); have HO11 := Aside0.mk (Kd.R_lower ho11 HB10.out.size); clear hb11 ho11))
    go_ret2
    exact ⟨_, rfl, HO11.out, HB11.out⟩
attribute [local go_sem] Oper.semAt_some
def intSzG : Value → Nat
  | .int _ x => x.toNat
  | _ => 0
theorem cell_alloc_neG {W : World} {o : Obj} {a : Addr} (h : (a.block = W.heap.size) = False) : (W.alloc o).cell? a = W.cell? a := by
  have h' : ¬ a.block = W.heap.size := by simpa using h
  have e : (W.alloc o).heap[a.block]? = W.heap[a.block]? := by
    show (W.heap.push o)[a.block]? = _
    rw [Array.getElem?_push, if_neg h']
  simp only [World.cell?, e]
attribute [local go_sem] cell_alloc_neG
theorem prev_is (a : Int) (h0 : -9223372036854775808 ≤ a - 1) (h1 : a - 1 ≤ 9223372036854775807) (w : World) : Calls Try.prog 34 #[.int .i64 a] w fun e w' => e = .returned (.int .i64 (a - 1)) ∧ w' = w := by
  go_enter Try.func34, Try.ntmps34
  go_wp2
  go_ret
  exact ⟨rfl, rfl⟩
def gapsL : Int → List RnM → List RnM
  | f, [] => [⟨f, 1099511627776⟩]
  | f, x :: xs => (if x.f0 = f then [] else [⟨f, x.f0 - 1⟩]) ++ (if x.f1 = 1099511627776 then [] else gapsL (x.f1 + 1) xs)
theorem gapsL_len : ∀ (l : List RnM) (f : Int), (gapsL f l).length ≤ l.length + 1
  | [], f => Nat.le_refl _
  | x :: xs, f => by
    have h := gapsL_len xs (x.f1 + 1)
    simp only [gapsL, List.length_append, List.length_cons]
    split <;> split <;> simp <;> omega
def encR (x : RnM) : Array Value := #[.agg #[.int .i64 x.f0, .int .i64 x.f1]]
def OwnG (gb N : Nat) (W : World) (v : Value) : Prop := W.heap[gb]? = some (.cells #[v] 64 (0, 0)) ∧ ∀ b, v.ownBlock = some b → N ≤ b ∧ b < W.heap.size
def KeepG (gb N : Nat) (W W' : World) : Prop := W.heap.size ≤ W'.heap.size ∧ ∀ v, OwnG gb N W v → ∃ v', OwnG gb N W' v' ∧ (v'.ownBlock = v.ownBlock ∨ ∃ b, v'.ownBlock = some b ∧ W.heap.size ≤ b) ∧ ∀ k cs t fr, W.heap[k]? = some (.cells cs t fr) → k ≠ gb → some k ≠ v.ownBlock → W'.heap[k]? = W.heap[k]?
theorem KeepG.refl (gb N : Nat) (W : World) : KeepG gb N W W := ⟨Nat.le_refl _, fun v h => ⟨v, h, .inl rfl, fun _ _ _ _ _ _ _ => rfl⟩⟩
theorem KeepG.trans {gb N : Nat} {A B C : World} (h : KeepG gb N A B) (k : KeepG gb N B C) : KeepG gb N A C := by
  refine ⟨Nat.le_trans h.1 k.1, fun v hv => ?_⟩
  obtain ⟨v1, h1, h2, h3⟩ := h.2 v hv
  obtain ⟨v2, k1, k2, k3⟩ := k.2 v1 h1
  refine ⟨v2, k1, ?_, fun b cs t fr hb hg ho => ?_⟩
  · rcases k2 with k2 | ⟨b, k2, k4⟩
    · rcases h2 with h2 | ⟨b, h2, h4⟩
      · exact .inl (k2.trans h2)
      · exact .inr ⟨b, k2.trans h2, h4⟩
    · exact .inr ⟨b, k2, Nat.le_trans h.1 k4⟩
  · have e1 := h3 b cs t fr hb hg ho
    rw [← e1]
    refine k3 b cs t fr (e1.trans hb) hg (fun e => ?_)
    rcases h2 with h2 | ⟨b', h2, h4⟩
    · exact ho (e.trans h2)
    · have e2 : b = b' := Option.some.inj (e.trans h2)
      have := blk_lt hb
      omega
theorem KeepG.below {gb N : Nat} {W W' : World} (hb : Below W.heap.size W W') : KeepG gb N W W' := by
  refine ⟨hb.size, fun v hv => ⟨v, ⟨blk_below hv.1 hb, fun b h => ⟨(hv.2 b h).1, Nat.lt_of_lt_of_le (hv.2 b h).2 hb.size⟩⟩, .inl rfl, fun k cs t fr h _ _ => hb.block k (blk_lt h)⟩⟩
theorem KeepG.putWalk {gb N l : Nat} {W : World} {o : Obj} (h : W.heap[l]? = some o) (hc : o.isCells = false) (o' : Obj) : KeepG gb N W (W.putObj l o') := by
  have hg := grownBy_putObj' W l o'
  have hk : ∀ (k : Nat) (cs : Array Value) (t : Nat) (fr : Nat × Nat), W.heap[k]? = some (.cells cs t fr) → (W.putObj l o').heap[k]? = W.heap[k]? := fun k cs t fr hb => hg.block k (blk_lt hb) (fun e => by
    have e' : k = l := Option.some.inj e
    subst e'
    rw [h] at hb
    cases hb
    cases hc)
  exact ⟨hg.size, fun v hv => ⟨v, ⟨(hk _ _ _ _ hv.1).trans hv.1, fun b hb => ⟨(hv.2 b hb).1, Nat.lt_of_lt_of_le (hv.2 b hb).2 hg.size⟩⟩, .inl rfl, fun k cs t fr hb _ _ => hk k cs t fr hb⟩⟩
structure GapsIn (N gb Bf Bs : Nat) (ls : List RnM) (A : Option Addr) (c : Nat) (W : World) : Prop where
  lt : Bf < N ∧ Bs < N ∧ Bf ≠ gb ∧ Bs ≠ gb ∧ N ≤ W.heap.size
  ow : ∃ v, OwnG gb N W v
  bf : W.heap[Bf]? = some (.cells fieldM 68 (0, 0))
  bs : W.heap[Bs]? = some (.cells #[.slice A ls.length c] 64 (0, 0))
  row : Kd.R k77 77 W 0 (fun k => k < N ∧ k ≠ gb) (.slice A ls.length c) ls
theorem GapsIn.keep {N gb Bf Bs : Nat} {ls : List RnM} {A : Option Addr} {c : Nat} {W W' : World} (h : GapsIn N gb Bf Bs ls A c W) (hk : KeepG gb N W W') : GapsIn N gb Bf Bs ls A c W' := by
  obtain ⟨v, hv⟩ := h.ow
  obtain ⟨v', k1, k2, k3⟩ := hk.2 v hv
  have own : ∀ k, k < N → some k ≠ v.ownBlock := fun k hk e => by have := (hv.2 k e.symm).1; omega
  refine ⟨⟨h.lt.1, h.lt.2.1, h.lt.2.2.1, h.lt.2.2.2.1, Nat.le_trans h.lt.2.2.2.2 hk.1⟩, ⟨v', k1⟩, (k3 _ _ _ _ h.bf h.lt.2.2.1 (own _ h.lt.1)).trans h.bf, (k3 _ _ _ _ h.bs h.lt.2.2.2.1 (own _ h.lt.2.1)).trans h.bs, ?_⟩
  exact Kd.R_mono (Kd.R_step (Kd.R_bound h.row) (fun k h1 _ => by
    obtain ⟨h2, _, h3, q, hq, cs, hc⟩ := h1
    exact k3 k cs q (0, 0) hc h2.2 (own k h2.1))) (fun _ h1 => h1.1)
theorem GapsIn.below {N gb Bf Bs : Nat} {ls : List RnM} {A : Option Addr} {c : Nat} {W W' : World} (h : GapsIn N gb Bf Bs ls A c W) (hb : Below W.heap.size W W') : GapsIn N gb Bf Bs ls A c W' := h.keep (KeepG.below hb)
theorem castG (i : Nat) : Value.int .i64 ((i : Int) + 1) = Value.int .i64 ((i + 1 : Nat) : Int) := rfl
theorem bmG {i a : Nat} (h2 : i < a) : a - intSzG (.int .i64 ((i : Int) + 1)) < a - intSzG (.int .i64 (i : Int)) := by simp only [intSzG]; omega
set_option maxRecDepth 100000 in
set_option maxHeartbeats 4000000 in
theorem gaps1_in (n : Nat) (hn : 1 ≤ n) (l N gb Bf Bs : Nat) (ls : List RnM) (A : Option Addr) (c : Nat) (hbd : ∀ x ∈ ls, 0 ≤ x.f0 ∧ x.f0 ≤ x.f1 ∧ x.f1 ≤ 1099511627776) (J Jx : List RnM → World → Prop)
    (hY : ∀ pre x W, J pre W → pre.length < ls.length + 1 → YieldAt Fence.wide (n - 1) Try.prog l (encR x) W fun e W' =>
      (e = .returned (.bool true) ∧ J (pre ++ [x]) W' ∧ KeepG gb N W W') ∨ (e = .returned (.bool false) ∧ Jx (pre ++ [x]) W'))
    (hJg : ∀ pre W W', J pre W → W.grownBy W' none → J pre W')
    (W : World) (hB : GapsIn N gb Bf Bs ls A c W) (h0 : J [] W) :
    CallsIn Fence.wide n Try.prog 39 #[.func (.yield l) #[] #[], .pointer (some ⟨Bf, 0, none⟩), .pointer (some ⟨Bs, 0, none⟩)] W fun e W' => (∃ v, e = .returned v) ∧
      ((∃ ys, ys = gapsL 0 ls ∧ J ys W') ∨ (∃ pre, Jx pre W')) := by
  have HMA := Aside0.mk (Kd.C_max (Kd.R_reads' hB.row).2.2)
  have HBD := Aside0.mk hbd
  clear hbd
  refine callsIn_of_wp Try.func39 rfl trivial ?_ rfl
  simp only [Try.ntmps39, List.size_toArray, List.length_cons, List.length_nil, Nat.reduceAdd, Nat.reduceSub, Array.replicate_succ, Array.replicate_zero, List.push_toArray, List.append_toArray, List.nil_append, List.cons_append]
  have hf0 := (blk_cell hB.bf 0).trans (rfl : _ = some (Value.int .i64 0))
  have hs0 := (blk_cell hB.bs 0).trans (rfl : _ = some (Value.slice A ls.length c))
  gi_wp2
  clear hf0 hs0
  gi_loopw [4, 11] (fun v4 v11 wr => ∃ (i : Nat) (f : Int) (ds : List RnM), v4 = .int .i64 f ∧ v11 = .int .i64 (i : Int) ∧ Aside0 (i ≤ ls.length ∧ ds.length ≤ i) ∧ Aside0 (gapsL 0 ls = ds ++ gapsL f (ls.drop i)) ∧ Aside0 (GapsIn N gb Bf Bs ls A c wr) ∧ J ds wr)
    (fun _ v11 _ => ls.length - intSzG v11)
  case atStart => exact ⟨0, 0, [], rfl, rfl, ⟨Nat.zero_le _, Nat.le_refl _⟩, ⟨rfl⟩, ⟨hB⟩, h0⟩
  case round =>
    obtain ⟨i, f, ds, rfl, rfl, HI, HL, HB, hJ⟩ := hrel
    have hm := HMA.out
    by_cases hi : i < ls.length
    · have hd : decide ((i : Int) < (ls.length : Int)) = true := decide_eq_true (by omega)
      have hdn : decide (i < ls.length) = true := decide_eq_true hi
      have p0 : (0 : Int) ≤ (i : Int) := by omega
      have q0 : (i : Int) < (ls.length : Int) := by omega
      obtain ⟨ad, ead, hx0, hx1⟩ := at_T77 (Kd.R_reads' HB.out.row).2.2 (i : Int) p0 q0
      cases ead
      simp only [Int.toNat_natCast] at hx0 hx1
      obtain ⟨x, hx⟩ : ∃ x, rd_T77 ls (i : Int) = x := ⟨_, rfl⟩
      rw [hx] at hx0 hx1
      have hrd : ls.drop i = x :: ls.drop (i + 1) := by
        rw [List.drop_eq_getElem_cons hi, ← hx]
        simp [rd_T77, List.getD_eq_getElem?_getD, hi]
      have hxm : x ∈ ls := by
        have : x ∈ ls.drop i := by rw [hrd]; exact List.mem_cons_self ..
        exact List.mem_of_mem_drop this
      have HXB := Aside0.mk (HBD.out x hxm)
      have HRD := Aside0.mk hrd
      have HII := Aside0.mk hi
      replace p0 := eq_true p0
      replace q0 := eq_true q0
      have wi : IntKind.i64.wrap ((i : Int) + 1) = (i : Int) + 1 := by rw [i64_w]; unfold wrap64; omega
      have lBf := blk_lt HB.out.bf
      have e1 : (Bf = wr.heap.size) = False := eq_false (by omega)
      have hf1 := (blk_cell HB.out.bf 1).trans (rfl : _ = some (Value.int .i64 1099511627776))
      have hf3 := (blk_cell HB.out.bf 3).trans (rfl : _ = some (Value.func (.func 33) #[] #[]))
      have hf4 := (blk_cell HB.out.bf 4).trans (rfl : _ = some (Value.func (.func 34) #[] #[]))
      have HBW := Aside0.mk (below_alloc (Below.refl wr.heap.size wr) (.cells #[.int .i64 x.f0, .int .i64 x.f1] 77))
      have HB2 := Aside0.mk (HB.out.below HBW.out)
      have WX := Aside0.mk (heap_alloc_new wr (.cells #[.int .i64 x.f0, .int .i64 x.f1] 77))
      have hJ2 : J ds (wr.alloc (.cells #[.int .i64 x.f0, .int .i64 x.f1] 77)) := hJg _ _ _ hJ ⟨HBW.out.os, HBW.out.tape, HBW.out.output, HBW.out.size, fun k hk _ => HBW.out.block k hk⟩
      clear hi hx hrd hxm lBf
      obtain ⟨v, hv⟩ := HB.out.ow
      have hgb := blk_lt hv.1
      have HOV : Aside0 (OwnG gb N (wr.alloc (.cells #[.int .i64 x.f0, .int .i64 x.f1] 77)) v ∧ wr.heap.size ≠ gb ∧ some wr.heap.size ≠ v.ownBlock) := ⟨⟨blk_below hv.1 HBW.out, fun b h => ⟨(hv.2 b h).1, Nat.lt_of_lt_of_le (hv.2 b h).2 HBW.out.size⟩⟩, by omega, fun e => by have := (hv.2 _ e.symm).2; omega⟩
      clear hv hgb
      by_cases c1 : x.f0 = f
      · have b1 : (x.f0 != f) = false := bne_eq_false_iff_eq.mpr c1
        have HCX := Aside0.mk c1
        clear c1
        gi_wp2
        refine ⟨fun _ h => (by cases h), ?_⟩
        have WX5 := WX
        have HB5 := HB2
        have hJ5 := hJ2
        have hz0 := (blk_cell WX5.out 0).trans (rfl : _ = some (Value.int .i64 x.f0))
        have hz1 := (blk_cell WX5.out 1).trans (rfl : _ = some (Value.int .i64 x.f1))
        have hf1 := (blk_cell HB5.out.bf 1).trans (rfl : _ = some (Value.int .i64 1099511627776))
        have hf3 := (blk_cell HB5.out.bf 3).trans (rfl : _ = some (Value.func (.func 33) #[] #[]))
        by_cases c2 : x.f1 = 1099511627776
        · have b2 : (x.f1 == 1099511627776) = true := beq_iff_eq.mpr c2
          have HEX : Aside0 (ds = gapsL 0 ls) := ⟨by rw [HL.out, HRD.out, gapsL, if_pos HCX.out, if_pos c2, List.append_nil]; simp⟩
          clear c2
          gi_wp2
          refine bodyPost_ret (results_none rfl _ _ _) rfl ?_
          exact ⟨⟨_, rfl⟩, .inl ⟨_, HEX.out, hJ5⟩⟩
        · have b2 : (x.f1 == 1099511627776) = false := beq_eq_false_iff_ne.mpr c2
          have HL2 : Aside0 (gapsL 0 ls = (ds) ++ gapsL (x.f1 + 1) (ls.drop (i + 1))) := ⟨by rw [HL.out, HRD.out, gapsL, if_pos HCX.out, if_neg c2]; simp⟩
          clear c2
          gi_wp2
          refine ⟨trivial, ?_⟩
          refine (callsIn_wide.2 (next_is x.f1 (by have := HXB.out; omega) (by have := HXB.out; omega) _)).mono ?_
          rintro e W' ⟨rfl, rfl⟩
          gi_wp2
          go_roundw
          case rel => exact ⟨i + 1, x.f1 + 1, _, rfl, castG i, ⟨by have := HI.out; have := HII.out; omega⟩, HL2, HB5, hJ5⟩
          case measure => exact bmG HII.out
      · have b1 : (x.f0 != f) = true := bne_iff_ne.mpr c1
        have HCX := Aside0.mk c1
        clear c1
        gi_wp2
        refine ⟨trivial, ?_⟩
        refine (callsIn_wide.2 (prev_is x.f0 (by have := HXB.out; omega) (by have := HXB.out; omega) _)).mono ?_
        rintro e W' ⟨rfl, rfl⟩
        obtain ⟨fn, tmps, assign, body, hy, hR⟩ := hY ds ⟨f, x.f0 - 1⟩ _ hJ2 (by have := HI.out; omega)
        dsimp only [encR] at hy
        as_aux_lemma =>
          gi_wp2
          refine hR.mono ?_
          rintro e W5 (⟨rfl, hJ5, hK5⟩ | ⟨rfl, hJx5⟩)
          rotate_left
          · gi_wp2
            refine bodyPost_ret (results_none rfl _ _ _) rfl ?_
            exact ⟨⟨_, rfl⟩, .inr ⟨_, hJx5⟩⟩
          have HB5 := Aside0.mk (HB2.out.keep hK5)
          have WX5 : Aside0 (W5.heap[wr.heap.size]? = some (.cells #[.int .i64 x.f0, .int .i64 x.f1] 77 (0, 0))) := ⟨by
            obtain ⟨v', q1, q2, q3⟩ := hK5.2 v HOV.out.1
            exact (q3 _ _ _ _ WX.out HOV.out.2.1 HOV.out.2.2).trans WX.out⟩
          clear hy hR hJ hJ2 hK5 hx0 hx1 hf1 hf3 hf4
          have hz0 := (blk_cell WX5.out 0).trans (rfl : _ = some (Value.int .i64 x.f0))
          have hz1 := (blk_cell WX5.out 1).trans (rfl : _ = some (Value.int .i64 x.f1))
          have hf1 := (blk_cell HB5.out.bf 1).trans (rfl : _ = some (Value.int .i64 1099511627776))
          have hf3 := (blk_cell HB5.out.bf 3).trans (rfl : _ = some (Value.func (.func 33) #[] #[]))
          by_cases c2 : x.f1 = 1099511627776
          · have b2 : (x.f1 == 1099511627776) = true := beq_iff_eq.mpr c2
            have HEX : Aside0 (ds ++ [⟨f, x.f0 - 1⟩] = gapsL 0 ls) := ⟨by rw [HL.out, HRD.out, gapsL, if_neg HCX.out, if_pos c2, List.append_nil]⟩
            clear c2
            gi_wp2
            refine bodyPost_ret (results_none rfl _ _ _) rfl ?_
            exact ⟨⟨_, rfl⟩, .inl ⟨_, HEX.out, hJ5⟩⟩
          · have b2 : (x.f1 == 1099511627776) = false := beq_eq_false_iff_ne.mpr c2
            have HL2 : Aside0 (gapsL 0 ls = (ds ++ [⟨f, x.f0 - 1⟩]) ++ gapsL (x.f1 + 1) (ls.drop (i + 1))) := ⟨by rw [HL.out, HRD.out, gapsL, if_neg HCX.out, if_neg c2]; simp⟩
            clear c2
            gi_wp2
            refine ⟨trivial, ?_⟩
            refine (callsIn_wide.2 (next_is x.f1 (by have := HXB.out; omega) (by have := HXB.out; omega) _)).mono ?_
            rintro e W' ⟨rfl, rfl⟩
            gi_wp2
            go_roundw
            case rel => exact ⟨i + 1, x.f1 + 1, _, rfl, castG i, ⟨by have := HI.out; have := HII.out; rw [List.length_append, List.length_singleton]; omega⟩, HL2, HB5, hJ5⟩
            case measure => exact bmG HII.out
    · have hd : decide ((i : Int) < (ls.length : Int)) = false := decide_eq_false (by omega)
      have hdn : decide (i < ls.length) = false := decide_eq_false hi
      have hdr : ls.drop i = [] := List.drop_eq_nil_of_le (by omega)
      have HDR := Aside0.mk hdr
      have hf1 := (blk_cell HB.out.bf 1).trans (rfl : _ = some (Value.int .i64 1099511627776))
      clear hi hdr
      obtain ⟨fn, tmps, assign, body, hy, hR⟩ := hY ds ⟨f, 1099511627776⟩ _ hJ (by have := HI.out; omega)
      dsimp only [encR] at hy
      as_aux_lemma =>
        gi_wp2
        refine hR.mono ?_
        rintro e W5 (⟨rfl, hJ5, hK5⟩ | ⟨rfl, hJx5⟩)
        · gi_wp2
          first | go_end0 | ((try simp only [Exit.inBlock, Exit.then]); refine bodyPost_ret (results_none rfl _ _ _) rfl ?_)
          exact ⟨⟨_, rfl⟩, .inl ⟨_, by rw [HL.out, HDR.out]; rfl, hJ5⟩⟩
        · gi_wp2
          first | go_end0 | ((try simp only [Exit.inBlock, Exit.then]); refine bodyPost_ret (results_none rfl _ _ _) rfl ?_)
          exact ⟨⟨_, rfl⟩, .inr ⟨_, hJx5⟩⟩
section
variable {F : Fence} {n : Nat} {P : Program} {ops : Array Oper} {Q : Exit → Act → World → Prop} {md : Region.Mode} {S : World → Prop} {ds : List Nat}
def noDefer (ops : Array Oper) : Bool := ops.all fun o => match o.op with | .defer _ => false | _ => true
theorem noDefer_spec (h : noDefer ops = true) {i : Nat} {o : Oper} (hi : ops[i]? = some o) : ∀ c, o.op ≠ .defer c := by
  intro c hc
  have h1 := Array.all_eq_true_iff_forall_mem.1 h o (Array.mem_of_getElem? hi)
  simp [hc] at h1
def wpAnyLI (F : Fence) (n : Nat) (P : Program) (md : Region.Mode) (ops : Array Oper) (Q : Exit → Act → World → Prop) (S : World → Prop) (ds : List Nat) : Nat → Array Bool → Act → World → Prop
  | 0, listed, a, w => Region.ready md ops listed = [] ∧ Q .normal a w
  | fuel + 1, listed, a, w =>
    (Region.ready md ops listed = [] → Q .normal a w) ∧
    ∀ i ∈ Region.ready md ops listed, wpOpIn F n P ops Q i (fun a' w' => (i ∉ ds → S w → S w') ∧ wpAnyLI F n P md ops Q S ds fuel (listed.setIfInBounds i true) a' w') a w
theorem anyIn_of_LI : ∀ (fuel : Nat) (listed : Array Bool) (a : Act) (w : World), wpAnyLI F n P md ops Q S ds fuel listed a w → wpAnyIn F n P md ops Q fuel listed a w
  | 0, _, _, _, h => h
  | fuel + 1, _, _, _, h => ⟨h.1, fun i hi => wpOpIn_mono (fun a' w' h' => anyIn_of_LI fuel _ a' w' h'.2) (h.2 i hi)⟩
theorem yi_wpOpI (hF : ∀ f, F.fn f) (hnd : noDefer ops = true) {i : Nat} {o : Oper} {v : Value} {a : Act} (hi : ops[i]? = some o) (hy : YieldsIf P ops S o v a)
    {K : Act → World → Prop} {w : World} (hS : S w) (h : K (a.put o.dst v) w) : wpOpIn F n P ops Q i K a w := by
  unfold Go.wpOpIn
  simp only [hi]
  rcases hy with ⟨hw, hv⟩ | ⟨hw, rfl⟩
  · simp only [hw, if_true, Oper.wpIn, Oper.semAt_eq _ _ _ (noDefer_spec hnd hi), hv w hS, Oper.uponIn]; exact ⟨fun f _ => hF f, h⟩
  · simp only [hw, Bool.false_eq_true, if_false]; exact ⟨fun f _ => hF f, h⟩
theorem yields_true {o : Oper} {v : Value} {a : Act} (h : YieldsIf P ops (fun _ => True) o v a) : Yields P ops o v a :=
  h.imp (fun ⟨hw, hv⟩ => ⟨hw, fun w => hv w trivial⟩) id
theorem wpOp_putI (hF : ∀ f, F.fn f) (hnd : noDefer ops = true) {j : Nat} {oi oj : Oper} {v : Value} (hj : ops[j]? = some oj) (hap : oi.apart ops oj = true)
    (hsi : ∀ cs b, oi.op ≠ .select cs b) (hsj : ∀ cs b, oj.op ≠ .select cs b)
    (hQ : ∀ c a w, Q (.panic c) (a.put oi.dst v) w → Q (.panic c) a w) {K : Act → World → Prop} {a : Act} {w : World}
    (hy : YieldsIf P ops S oi v a) (h : wpOpIn F n P ops Q j K (a.put oi.dst v) w) :
    wpOpIn F n P ops Q j (fun a' w' => YieldsIf P ops S oi v a' ∧ K (a'.put oi.dst v) w') a w := by
  obtain ⟨h1, h2, h3⟩ := Oper.apart_spec hap
  have keep : ∀ (a : Act), YieldsIf P ops S oi v a → ∀ u, YieldsIf P ops S oi v (a.put oj.dst u) := fun a hy u =>
    hy.of_same (execOp_put oi hsi a oj.dst u h3) (wanted_put oi a oj.dst u h3)
  have keepD : ∀ d, YieldsIf P ops S oi v { a with defers := d :: a.defers } := fun d => hy.of_same rfl rfl
  have hj' := hj
  unfold wpOpIn at *
  simp only [hj] at h ⊢
  rw [wanted_put oj a oi.dst v h1] at h
  split
  · rename_i hw
    simp only [hw, if_true] at h
    unfold Oper.wpIn at *
    refine ⟨fun f _ => hF f, ?_⟩
    have h := h.2
    rw [Oper.semAt_eq _ _ _ (noDefer_spec hnd hj), execOp_put oj hsj a oi.dst v h1] at h
    rw [Oper.semAt_eq _ _ _ (noDefer_spec hnd hj)]
    generalize (execOp a.eval oj).run P w = r at *
    cases r with
    | ok x w' =>
      cases x <;> simp only [Oper.uponIn] at h ⊢
      case value u => exact ⟨keep a hy u, by rw [← Act.put_comm a v u h2]; exact h⟩
      case skip => exact ⟨keep a hy _, by rw [← Act.put_comm a v undef h2]; exact h⟩
      case defer d =>
        refine ⟨keep _ (keepD d) _, ?_⟩
        rw [← Act.put_comm _ v undef h2, ← Act.put_defers]
        exact h
      case enter f args =>
        refine ⟨h.1, CallsIn.mono h.2 fun e w'' he => ?_⟩
        cases e with
        | returned u => exact ⟨keep a hy u, by rw [← Act.put_comm a v u h2]; exact he⟩
        | panicked c => exact hQ _ _ _ he
        | outgrown => exact he
      case row row args => exact ⟨h.1, RowsIn.mono h.2 fun u w'' he => ⟨keep a hy u, by rw [← Act.put_comm a v u h2]; exact he⟩⟩
      case round l f tmps assign body =>
        refine ⟨h.1, RoundIn.mono h.2 fun e w'' he => ?_⟩
        cases e with
        | returned u => exact ⟨keep a hy u, by rw [← Act.put_comm a v u h2]; exact he⟩
        | panicked c => exact hQ _ _ _ he
        | outgrown => exact he
    | halt x w' =>
      cases x <;> simp only [Oper.uponIn] at h ⊢
      case panic u => exact hQ _ _ _ h
  · rename_i hw
    simp only [hw] at h
    exact ⟨fun f _ => hF f, keep a hy _, by rw [← Act.put_comm a v undef h2]; exact h.2⟩
theorem wpAnyLI_first (hF : ∀ f, F.fn f) (hnd : noDefer ops = true) {i : Nat} {oi : Oper} {v : Value} (hi : ops[i]? = some oi) (hsel : ∀ (j : Nat) (o : Oper) cs b, ops[j]? = some o → o.op ≠ .select cs b)
    (hQ : ∀ c a w, Q (.panic c) (a.put oi.dst v) w → Q (.panic c) a w) (N : Nat) :
    ∀ (fuel : Nat) (listed : Array Bool) (a : Act) (w : World),
      (∀ j oj, ops[j]? = some oj → j ≠ i → listed.getD j true = false → (∀ e ∈ oj.after, Region.binds md e = true → e.on ≠ i) → oi.apart ops oj = true) →
      ListedClosed md ops listed → (∀ d ∈ ds, listed.getD d true = false → Region.reachB md ops i N d = true) →
      i ∈ Region.ready md ops listed → YieldsIf P ops S oi v a → S w →
      wpAnyLI F n P md ops Q S ds fuel (listed.setIfInBounds i true) (a.put oi.dst v) w → wpAnyLI F n P md ops Q S ds (fuel + 1) listed a w := by
  intro fuel
  induction fuel with
  | zero =>
    intro listed a w _ _ _ hr hy hS H
    refine ⟨fun h => (by rw [h] at hr; cases hr), fun j hj => ?_⟩
    by_cases hji : j = i
    · subst hji; exact yi_wpOpI hF hnd hi hy hS ⟨fun _ h => h, H⟩
    · have := ready_mono hj hji
      rw [H.1] at this
      cases this
  | succ fuel ih =>
    intro listed a w hfree hc hd hr hy hS H
    refine ⟨fun h => (by rw [h] at hr; cases hr), fun j hj => ?_⟩
    by_cases hji : j = i
    · subst hji; exact yi_wpOpI hF hnd hi hy hS ⟨fun _ h => h, H⟩
    · have h1 := H.2 j (ready_mono hj hji)
      obtain ⟨hjun, oj, hoj, hall⟩ := mem_ready.1 hj
      have hiun := (mem_ready.1 hr).1
      have hnot : ∀ e ∈ oj.after, Region.binds md e = true → e.on ≠ i := fun e he hb heq => by
        have h1 := hall e he hb
        rw [heq] at h1
        rcases Nat.lt_or_ge i listed.size with h' | h'
        · simp [h'] at hiun h1; rw [hiun] at h1; cases h1
        · simp [Array.getElem?_eq_none h'] at h1
      have hjd : j ∉ ds := fun hm => Region.reach_not_ready hc (hd j hm hjun) hiun hj
      have h2 := wpOp_putI hF hnd hoj (hfree j oj hoj hji hjun hnot) (fun cs b => hsel i oi cs b hi) (fun cs b => hsel j oj cs b hoj) hQ hy h1
      have hfree' : ∀ k ok, ops[k]? = some ok → k ≠ i → (listed.setIfInBounds j true).getD k true = false →
          (∀ e ∈ ok.after, Region.binds md e = true → e.on ≠ i) → oi.apart ops ok = true := fun k ok hk hki hun hno => by
        refine hfree k ok hk hki ?_ hno
        by_cases hjk : j = k
        · subst hjk; exact hjun
        · rw [getD_set_ne true hjk] at hun; exact hun
      have hd' : ∀ d ∈ ds, (listed.setIfInBounds j true).getD d true = false → Region.reachB md ops i N d = true := fun d hm hun => by
        refine hd d hm ?_
        by_cases hjk : j = d
        · subst hjk; exact hjun
        · rw [getD_set_ne true hjk] at hun; exact hun
      refine wpOpIn_mono (fun a' w' h3 => ⟨h3.2.1, ih (listed.setIfInBounds j true) a' w' hfree' (hc.set hj) hd' (ready_mono hr (Ne.symm hji)) h3.1 (h3.2.1 hjd hS) ?_⟩) h2
      rw [Array.setIfInBounds_comm _ _ hji]
      exact h3.2.2
theorem wpAnyLI_any (hF : ∀ f, F.fn f) (hnd : noDefer ops = true) {i : Nat} {oi : Oper} {v : Value} (hi : ops[i]? = some oi) (hsel : ∀ (j : Nat) (o : Oper) cs b, ops[j]? = some o → o.op ≠ .select cs b)
    (hQ : ∀ c a w, Q (.panic c) (a.put oi.dst v) w → Q (.panic c) a w) :
    ∀ (fuel : Nat) (listed : Array Bool) (a : Act) (w : World),
      (∀ j oj, ops[j]? = some oj → j ≠ i → listed.getD j true = false → (∀ e ∈ oj.after, Region.binds md e = true → e.on ≠ i) → oi.apart ops oj = true) →
      i ∈ Region.ready md ops listed → Yields P ops oi v a →
      wpAnyLI F n P md ops Q S ds fuel (listed.setIfInBounds i true) (a.put oi.dst v) w → wpAnyLI F n P md ops Q S ds (fuel + 1) listed a w := by
  intro fuel
  induction fuel with
  | zero =>
    intro listed a w _ hr hy H
    refine ⟨fun h => (by rw [h] at hr; cases hr), fun j hj => ?_⟩
    by_cases hji : j = i
    · subst hji; exact yi_wpOpI hF hnd hi (hy.yieldsIf (S := fun _ => True)) trivial ⟨fun _ h => h, H⟩
    · have := ready_mono hj hji
      rw [H.1] at this
      cases this
  | succ fuel ih =>
    intro listed a w hfree hr hy H
    refine ⟨fun h => (by rw [h] at hr; cases hr), fun j hj => ?_⟩
    by_cases hji : j = i
    · subst hji; exact yi_wpOpI hF hnd hi (hy.yieldsIf (S := fun _ => True)) trivial ⟨fun _ h => h, H⟩
    · have h1 := H.2 j (ready_mono hj hji)
      obtain ⟨hjun, oj, hoj, hall⟩ := mem_ready.1 hj
      have hiun := (mem_ready.1 hr).1
      have hnot : ∀ e ∈ oj.after, Region.binds md e = true → e.on ≠ i := fun e he hb heq => by
        have h1 := hall e he hb
        rw [heq] at h1
        rcases Nat.lt_or_ge i listed.size with h' | h'
        · simp [h'] at hiun h1; rw [hiun] at h1; cases h1
        · simp [Array.getElem?_eq_none h'] at h1
      have h2 := wpOp_putI hF hnd hoj (hfree j oj hoj hji hjun hnot) (fun cs b => hsel i oi cs b hi) (fun cs b => hsel j oj cs b hoj) hQ (hy.yieldsIf (S := fun _ => True)) h1
      have hfree' : ∀ k ok, ops[k]? = some ok → k ≠ i → (listed.setIfInBounds j true).getD k true = false →
          (∀ e ∈ ok.after, Region.binds md e = true → e.on ≠ i) → oi.apart ops ok = true := fun k ok hk hki hun hno => by
        refine hfree k ok hk hki ?_ hno
        by_cases hjk : j = k
        · subst hjk; exact hjun
        · rw [getD_set_ne true hjk] at hun; exact hun
      refine wpOpIn_mono (fun a' w' h3 => ⟨h3.2.1, ih (listed.setIfInBounds j true) a' w' hfree' (ready_mono hr (Ne.symm hji)) (yields_true h3.1) ?_⟩) h2
      rw [Array.setIfInBounds_comm _ _ hji]
      exact h3.2.2
theorem wpAnyLI_take (hF : ∀ f, F.fn f) (hnd : noDefer ops = true) {i : Nat} {oi : Oper} {v : Value} {fuel : Nat} {listed : Array Bool} {a : Act} {w : World} (hi : ops[i]? = some oi)
    (hs : Region.noSelect ops = true) (hf : Region.free md ops listed i = true) (hr : (Region.ready md ops listed).contains i = true)
    (hc : Region.closedB md ops listed = true) (hl : Region.lastB md ops listed ds i = true)
    (hQ : ∀ c a w, Q (.panic c) (a.put oi.dst v) w → Q (.panic c) a w) (hy : YieldsIf P ops S oi v a) (hS : S w)
    (h : wpAnyLI F n P md ops Q S ds fuel (listed.setIfInBounds i true) (a.put oi.dst v) w) : wpAnyLI F n P md ops Q S ds (fuel + 1) listed a w :=
  wpAnyLI_first hF hnd hi (Region.noSelect_spec hs) hQ ops.size fuel listed a w (Region.free_spec hi hf) (Region.closedB_spec hc)
    (fun d hm hun => by have := List.all_eq_true.1 hl d hm; rw [hun] at this; simpa using this) (by simpa using hr) hy hS h
theorem wpAnyLI_all {rs : List Nat} {fuel : Nat} {listed : Array Bool} {a : Act} {w : World} (hr : Region.ready md ops listed = rs) (hne : rs ≠ [])
    (h : ∀ i ∈ rs, wpOpIn F n P ops Q i (fun a' w' => (i ∉ ds → S w → S w') ∧ wpAnyLI F n P md ops Q S ds fuel (listed.setIfInBounds i true) a' w') a w) : wpAnyLI F n P md ops Q S ds (fuel + 1) listed a w :=
  ⟨fun h0 => absurd (hr ▸ h0) hne, hr ▸ h⟩
theorem wpAnyLI_done {listed : Array Bool} {a : Act} {w : World} (hr : Region.ready md ops listed = []) (h : Q .normal a w) :
    ∀ fuel, wpAnyLI F n P md ops Q S ds fuel listed a w
  | 0 => ⟨hr, h⟩
  | _ + 1 => ⟨fun _ => h, by rw [hr]; simp⟩
theorem startI {id m : Nat} {a : Act} {w : World} (l : Array Bool) (hm : P.follows .mixedOrders = true) (hn : ops.size = m) (hl : Array.replicate m false = l) (h : wpAnyLI F n P .any ops Q S ds m l a w.drew) : (Code.region id ops true).wpIn F n P Q a w := by
  subst hn
  subst hl
  exact wpIn_region_any hm (anyIn_of_LI _ _ _ _ h)
theorem takeI (hF : ∀ f, F.fn f) (hnd : noDefer ops = true) {i : Nat} {N : Option Tmp} {oi : Oper} {v : Value} {fuel : Nat} {l : Array Bool} {a : Act} {w : World} (l' : Array Bool) (hi : ops[i]? = some oi) (hN : oi.dst = N) (hc : takeB md ops ds l l' i = true)
    (hQ : ∀ c a w, Q (.panic c) (a.put oi.dst v) w → Q (.panic c) a w) (hy : YieldsIf P ops S oi v a) (hS : S w) {a' : Act} (ha : a.put N v = a')
    (h : wpAnyLI F n P md ops Q S ds fuel l' a' w) : wpAnyLI F n P md ops Q S ds (fuel + 1) l a w := by
  subst ha
  subst hN
  simp only [takeB, Bool.and_eq_true, beq_iff_eq] at hc
  obtain ⟨⟨⟨⟨⟨h1, h2⟩, h3⟩, h4⟩, h5⟩, h6⟩ := hc
  subst h6
  exact wpAnyLI_take hF hnd hi h1 h2 h3 h4 h5 hQ hy hS h
theorem pureI (hF : ∀ f, F.fn f) (hnd : noDefer ops = true) {i : Nat} {N : Option Tmp} {oi : Oper} {v : Value} {fuel : Nat} {l : Array Bool} {a : Act} {w : World} (l' : Array Bool) (hi : ops[i]? = some oi) (hN : oi.dst = N) (hc : anyB md ops l l' i = true)
    (hQ : ∀ c a w, Q (.panic c) (a.put oi.dst v) w → Q (.panic c) a w) (hy : Yields P ops oi v a) {a' : Act} (ha : a.put N v = a')
    (h : wpAnyLI F n P md ops Q S ds fuel l' a' w) : wpAnyLI F n P md ops Q S ds (fuel + 1) l a w := by
  subst ha
  subst hN
  simp only [anyB, Bool.and_eq_true, beq_iff_eq] at hc
  obtain ⟨⟨⟨h1, h2⟩, h3⟩, h6⟩ := hc
  subst h6
  exact wpAnyLI_any hF hnd hi (Region.noSelect_spec h1) hQ fuel l a w (Region.free_spec hi h2) (by simpa using h3) hy h
theorem lastI {i : Nat} {N : Option Tmp} {oi : Oper} {fuel : Nat} {l : Array Bool} {a : Act} {w : World} (l' : Array Bool) (hi : ops[i]? = some oi) (hN : oi.dst = N) (hc : readyB md ops l l' i = true) (hd : i ∈ ds) (hw : Region.wanted oi (yielded ops a.tmps) = true)
    (h : ∀ K : Act → World → Prop, (∀ a' w', wpAnyLI F n P md ops Q S ds fuel l' a' w' → K a' w') → Oper.wpIn F n P oi a w K Q) :
    wpAnyLI F n P md ops Q S ds (fuel + 1) l a w := by
  subst hN
  simp only [readyB, Bool.and_eq_true, beq_iff_eq] at hc
  obtain ⟨h1, h2⟩ := hc
  subst h2
  refine wpAnyLI_all h1 (by simp) (fun j hj => ?_)
  obtain rfl := List.mem_singleton.1 hj
  unfold wpOpIn
  rw [hi]
  simp only [hw, if_true]
  exact h _ (fun a' w' h' => ⟨fun hn => absurd hd hn, h'⟩)
theorem oneI {i : Nat} {N : Option Tmp} {oi : Oper} {fuel : Nat} {l : Array Bool} {a : Act} {w : World} (l' : Array Bool) (hi : ops[i]? = some oi) (hN : oi.dst = N) (hc : readyB md ops l l' i = true) (hw : Region.wanted oi (yielded ops a.tmps) = true)
    (h : ∀ K : Act → World → Prop, (∀ a' w', S w' → wpAnyLI F n P md ops Q S ds fuel l' a' w' → K a' w') → Oper.wpIn F n P oi a w K Q) :
    wpAnyLI F n P md ops Q S ds (fuel + 1) l a w := by
  subst hN
  simp only [readyB, Bool.and_eq_true, beq_iff_eq] at hc
  obtain ⟨h1, h2⟩ := hc
  subst h2
  refine wpAnyLI_all h1 (by simp) (fun j hj => ?_)
  obtain rfl := List.mem_singleton.1 hj
  unfold wpOpIn
  rw [hi]
  simp only [hw, if_true]
  exact h _ (fun a' w' hs h' => ⟨fun _ _ => hs, h'⟩)
theorem doneI {l : Array Bool} {a : Act} {w : World} {m : Nat} (hr : (Region.ready md ops l == []) = true) (h : Q .normal a w) : wpAnyLI F n P md ops Q S ds m l a w := wpAnyLI_done (by simpa using hr) h m
end
theorem R_append_in {F : Fence} {n : Nat} {P : Program} {ops : Array Oper} {rest : List Oper} {o : Oper} {a : Act} {Q : Exit → Act → World → Prop} {α : Type} (d : Kd α) {w0 W : World} (base : Nat) (hgd : o.guard = none) (s x : Operand) (t e : TypeId) (z : Value) (bytes : Nat)
    (ho : o.op = .call { callee := .builtin .append, args := #[s, x], argTypes := #[t, t] })
    (ht : P.underlying t = some (.slice e)) (hinfo : (P.info? e).map (fun i => (i.zero, i.size, i.bytes)) = some (some z, d.sz, bytes)) (hz : z.cells.size = d.sz) (hs0 : 0 < d.sz) (hb0 : 0 < bytes)
    (v : Value) (xs : List α) (p : α) (cs : List Value) (ok okp : Nat → Prop) (hs : a.eval s = v) (hx : a.eval x = .slice (some ⟨W.heap.size, 0, none⟩) 1 1) (hp : d.M W base okp p cs) (hokp : ∀ k, okp k → ok k ∧ some k ≠ v.ownBlock) (hfresh : ∀ k, W.heap.size ≤ k → ok k)
    (HO : d.R e W base ok v xs) (HB : Below base w0 W) (hbase : base ≤ W.heap.size) (hl : (xs.length + 1) * bytes ≤ 140737488355328)
    (h : ∀ v1 w1, d.R e w1 base ok v1 (xs ++ [p]) → Below base w0 w1 → W.grownBy w1 v.ownBlock → (v1.ownBlock = v.ownBlock ∨ ∃ b, v1.ownBlock = some b ∧ W.heap.size ≤ b) → wpListIn F n P ops Q rest (a.put o.dst v1) w1) :
    wpListIn F n P ops Q (o :: rest) a (W.alloc (.cells cs.toArray e)) := by
  obtain ⟨h0, inner, hown, hr⟩ := HO
  obtain ⟨i0, hi, hzz⟩ := Option.map_eq_some_iff.1 hinfo
  simp only [Prod.mk.injEq] at hzz
  obtain ⟨hz0, hz1, hz2⟩ := hzz
  have hys : cs.length = d.sz := d.K_len (d.K_of_M hp)
  have hlen : xs.length + 1 ≤ 140737488355328 := Nat.le_trans (Nat.le_mul_of_pos_right _ hb0) hl
  refine wpListIn_plain hgd fun K hK' => ?_
  obtain ⟨v', w', hrun, r1, r2, _, r4⟩ := run_append_own_at (P := P) (w := W.alloc (.cells cs.toArray e)) base t o.type e i0 z d.sz bytes ht hi hz0 hz1 hz2 hz hs0 v xs.length inner (hown.alloc _) ⟨W.heap.size, 0, none⟩ 1 1 cs (by rw [hys]; simp)
    (by simpa using World.news_of_block (cs := cs.toArray) (t := e) (fr := (0, 0)) (heap_alloc_new W (.cells cs.toArray e))) (d.K_one (d.K_of_M hp)) (by simp only [maxLen]; omega) hl (by simp; omega)
  have hg1 : W.grownBy w' v.ownBlock := World.grownBy.trans (World.grownBy_alloc W _ _) r2
  have hat : v'.ownBlock = v.ownBlock ∨ ∃ b, v'.ownBlock = some b ∧ W.heap.size ≤ b := by
    rcases r4 with r4 | r4
    · exact .inl r4
    · exact .inr ⟨_, r4, by simp⟩
  have hfin := h v' w' (Kd.R_appended h0 hr hp hokp hfresh r1 hg1 hat) ((HB.alloc hbase _).grown r2 (by simp; omega) (own_base hown)) hg1 hat
  unfold Oper.wpIn
  refine ⟨?_, ?_⟩
  · simp [Oper.about, ho, resolve, Target.leads, Sem.run_pure]
  · rw [Oper.semAt_plain F _ _ (by rw [ho]; intro c hc'; cases hc')]
    simp [execOp, ho, resolve, invoke, builtin, hs, hx, hrun, Result.andThen]
    exact hK' _ _ hfin
theorem own_grown {α : Type} {d : Kd α} {e N base : Nat} {ok : Nat → Prop} {W W' : World} {v : Value} {xs : List α} {row : Option Nat} (h : Kd.R d e W base ok v xs) (hg : W.grownBy W' row) (hr : ∀ r, row = some r → N ≤ r ∧ ∃ o : Obj, W.heap[r]? = some o ∧ o.isCells = false) : Kd.R d e W' base ok v xs := by
  refine Kd.R_mono (Kd.R_grown (Kd.R_bound h) hg (fun k hk e => ?_)) (fun k hk => hk.1)
  obtain ⟨_, _, _, q, _, cells, hc⟩ := hk
  obtain ⟨_, o, ho, hf⟩ := hr k e.symm
  rw [hc] at ho
  cases ho
  cases hf
theorem blk_grown_ {W W' : World} {row : Option Nat} {N B t : Nat} {cs : Array Value} {fr : Nat × Nat} (h : W.heap[B]? = some (.cells cs t fr)) (hg : W.grownBy W' row) (hr : ∀ r, row = some r → N ≤ r ∧ ∃ o : Obj, W.heap[r]? = some o ∧ o.isCells = false) : W'.heap[B]? = some (.cells cs t fr) :=
  (hg.block B (blk_lt h) (fun e => by
    obtain ⟨_, o, ho, hc⟩ := hr B e.symm
    rw [h] at ho
    cases ho
    cases hc)).trans h
attribute [local go_sem] Oper.semAt_some
theorem gaps_in (n : Nat) (A : Option Addr) (m c : Nat) (w : World) :
    CallsIn Fence.wide n Try.prog 25 #[.agg fieldM, .slice A m c] w fun e w' => e = .returned (.func (.func 39) #[] #[.pointer (some ⟨w.heap.size, 0, none⟩), .pointer (some ⟨w.heap.size + 1, 0, none⟩)]) ∧ w' = (w.alloc (.cells fieldM 68)).alloc (.cells #[.slice A m c] 64) := by
  refine callsIn_of_wp Try.func25 rfl trivial ?_ rfl
  simp only [Try.ntmps25, List.size_toArray, List.length_cons, List.length_nil, Nat.reduceAdd, Nat.reduceSub, Array.replicate_succ, Array.replicate_zero, List.push_toArray, List.append_toArray, List.nil_append, List.cons_append]
  gi_wp2
  go_ret
  exact ⟨rfl, rfl⟩
theorem one_rowM {W : World} {g : Nat} (x : S23) (hg : W.heap[g]? = some (.cells #[.int .i64 x.f0, .int .i64 x.f1] 23 (0, 0))) : Kd.C k23 W (some ⟨g, 0, none⟩) [x].length [x] := by
  refine ⟨rfl, by simp, fun _ => ⟨_, rfl, fun j p hj => ?_⟩⟩
  match j, hj with
  | 0, hj =>
    obtain rfl := Option.some.inj hj
    refine ⟨[.int .i64 x.f0, .int .i64 x.f1], rfl, k23_mk W x, fun i u hu => ?_⟩
    match i, hu with
    | 0, hu => exact (blk_cell hg 0).trans hu
    | 1, hu => exact (blk_cell hg 1).trans hu
  | j + 1, hj => simp at hj
theorem results_put {fn : Func} (hfn : fn.results = #[.tmp 4, .tmp 5]) {i : Nat} (h4 : i ≠ 4) (h5 : i ≠ 5) (t : Array Value) (v : Value) : results fn (t.setIfInBounds i v) = results fn t := by
  unfold results
  rw [hfn]
  simp [Array.getElem?_setIfInBounds_ne h4, Array.getElem?_setIfInBounds_ne h5]
theorem leaves_tmps {F : Fence} {n : Nat} {P : Program} {fn : Func} {R : Ending → World → Prop} {t t' : Array Value} (ht : results fn t = results fn t') : ∀ (ds : List Deferred) (u : FrameMode) (w : World), LeavesInM F n P fn t R ds u w → LeavesInM F n P fn t' R ds u w
  | [], .returning, w, h => by
    obtain ⟨v, h1, h2⟩ := h
    exact ⟨v, by rw [← ht]; exact h1, h2⟩
  | [], .panicking _, w, h => h
  | [], .run, w, h => h.elim
  | d :: ds, u, w, h => by
    obtain ⟨h1, h2⟩ := h
    refine ⟨h1, ?_⟩
    rcases h2 with ⟨r, w', e1, e2, h3⟩ | ⟨h3, fv, cap, f, args, e1, e2, e3, h4⟩
    · exact .inl ⟨r, w', e1, e2, leaves_tmps ht ds u w' h3⟩
    · refine .inr ⟨h3, fv, cap, f, args, e1, e2, e3, h4.mono (fun e u' w' he => ?_)⟩
      cases e with
      | returned _ => exact leaves_tmps ht ds _ w' he
      | panicked _ => exact leaves_tmps ht ds _ w' he
      | outgrown => exact he
theorem panQ {F : Fence} {n : Nat} {P : Program} {fn : Func} {R : Ending → World → Prop} {K : Act → World → Prop} (hfn : fn.results = #[.tmp 4, .tmp 5]) (i : Nat) (h4 : i ≠ 4) (h5 : i ≠ 5) (v : Value) : ∀ c a w, Exit.then K (bodyPostM F n P fn R) (.panic c) (a.put (some i) v) w → Exit.then K (bodyPostM F n P fn R) (.panic c) a w :=
  fun c a w h => leaves_tmps (results_put hfn h4 h5 a.tmps v) a.defers (.panicking c) w h
structure NotIn (w1 W2 W : World) (gb : Nat) (pre : List RnM) : Prop where
  line : ∃ v, W.heap[gb]? = some (.cells #[v] 64 (0, 0)) ∧ Kd.R k77 77 W w1.heap.size (fun k => k ≠ gb) v pre ∧ ∀ b, v.ownBlock = some b → W2.heap.size ≤ b ∧ b < W.heap.size
  bl : Below w1.heap.size w1 W
  size : W2.heap.size ≤ W.heap.size
theorem NotIn.own {w1 W2 A B : World} {gb N : Nat} {pre : List RnM} {row : Option Nat} (h : NotIn w1 W2 A gb pre) (hg : A.grownBy B row) (hr : ∀ r, row = some r → N ≤ r ∧ ∃ o : Obj, A.heap[r]? = some o ∧ o.isCells = false) (hN : w1.heap.size ≤ N) : NotIn w1 W2 B gb pre := by
  obtain ⟨⟨v, h1, h2, h5⟩, h3, h4⟩ := h
  exact ⟨⟨v, blk_grown_ h1 hg hr, own_grown h2 hg hr, fun b hb => ⟨(h5 b hb).1, Nat.lt_of_lt_of_le (h5 b hb).2 hg.size⟩⟩, h3.grown hg h3.size (fun k e => by have := (hr k e).1; omega), Nat.le_trans h4 hg.size⟩
theorem NotIn.below {w1 W2 A B : World} {gb : Nat} {pre : List RnM} (h : NotIn w1 W2 A gb pre) (hb : Below A.heap.size A B) : NotIn w1 W2 B gb pre := by
  obtain ⟨⟨v, h1, h2, h5⟩, h3, h4⟩ := h
  exact ⟨⟨v, blk_below h1 hb, Kd.R_below h2 hb, fun b h => ⟨(h5 b h).1, Nat.lt_of_lt_of_le (h5 b h).2 hb.size⟩⟩, below_step h3 hb, Nat.le_trans h4 hb.size⟩
theorem KeepG.append {gb N : Nat} {W W1 : World} {v v1 : Value} (hv : W.heap[gb]? = some (.cells #[v] 64 (0, 0))) (hg : W.grownBy W1 v.ownBlock) (hat : v1.ownBlock = v.ownBlock ∨ ∃ b, v1.ownBlock = some b ∧ W.heap.size ≤ b) (hne : some gb ≠ v.ownBlock) (ho : ∀ b, v1.ownBlock = some b → N ≤ b ∧ b < W1.heap.size) :
    KeepG gb N W (W1.setCell ⟨gb, 0, none⟩ v1) := by
  have hz : (W1.setCell ⟨gb, 0, none⟩ v1).heap.size = W1.heap.size := World.size_setCell _ _ _
  refine ⟨by rw [hz]; exact hg.size, fun v0 h0 => ?_⟩
  have e0 : v0 = v := by
    have e1 := h0.1.symm.trans hv
    injection e1 with e1
    injection e1 with e1
    simpa using e1
  subst e0
  refine ⟨v1, ⟨blk_set ((hg.block gb (blk_lt hv) hne).trans hv) 0 v1, fun b hb => by rw [hz]; exact ho b hb⟩, hat, fun k cs t fr hk hkg hko => ?_⟩
  rw [Below.heap_setCell W1 (⟨gb, 0, none⟩ : Addr) v1 k hkg]
  exact hg.block k (blk_lt hk) hko
set_option maxRecDepth 100000 in
set_option maxHeartbeats 4000000 in
theorem ivl_Not.walk (k : Nat) (A0 : Option Addr) (c0 : Nat) (l0 : List S23) (x0 x1 : Int) (ra rb : List RnM) (r1 : List S23) (r2 : Int) (w : World) (hr0 : Kd.C k23 w A0 l0.length l0) (hc0 : l0.length ≤ c0)
    (h1 : ivl_rows.f k [l0, [⟨x0, x1⟩]] = some 0) (h2 : ivl_runs.f k l0 = some ra) (h3 : ivl_runs.f k [⟨x0, x1⟩] = some rb) (hl : (ra.length + rb.length + 4) * 16 ≤ 140737488355328) (hok : ∀ x ∈ ra, 0 ≤ x.f0 ∧ x.f0 ≤ x.f1 ∧ x.f1 ≤ 1099511627776)
    (h4 : ivl_told.f k (meetN ((gapsL 0 ra).length + rb.length) (gapsL 0 ra) rb) = some (r1, r2)) :
    Calls Try.prog 9 #[.slice A0 l0.length c0, .agg #[.int .i64 x0, .int .i64 x1]] w fun e w' => ∃ v0_ : Value, e = .returned (.tuple #[v0_, .int .i64 r2]) ∧ Kd.R k23 23 w' w.heap.size (fun _ => True) v0_ r1 ∧ Below w.heap.size w w' := by
  refine (callsIn_wide (n := 4)).1 ?_
  have HC0 := Aside0.mk hc0
  have H1 := Aside0.mk h1
  have H2 := Aside0.mk h2
  have H3 := Aside0.mk h3
  have H4 := Aside0.mk h4
  have HL := Aside0.mk hl
  have HOK := Aside0.mk hok
  have hbx := heap_alloc_new w (.cells #[.int .i64 x0, .int .i64 x1] 23)
  have hb1 := below_alloc (Below.refl w.heap.size w) (.cells #[.int .i64 x0, .int .i64 x1] 23)
  have hz1 : (w.alloc (.cells #[.int .i64 x0, .int .i64 x1] 23)).heap.size = w.heap.size + 1 := World.size_alloc _ _
  have hc0 := (blk_cell hbx 0).trans (rfl : _ = some (Value.int .i64 x0))
  have hc1 := (blk_cell hbx 1).trans (rfl : _ = some (Value.int .i64 x1))
  clear h1 h2 h3 h4 hl hok
  refine callsIn_of_wp_marks Try.func9 rfl trivial ?_ rfl
  simp only [Try.ntmps9, List.size_toArray, List.length_cons, List.length_nil, Nat.reduceAdd, Nat.reduceSub, Array.replicate_succ, Array.replicate_zero, List.push_toArray, List.append_toArray, List.nil_append, List.cons_append]
  gi_wp2
  have hg1 : ((w.alloc (.cells #[.int .i64 x0, .int .i64 x1] 23)).alloc (.cells #[.int .i64 x0, .int .i64 x1] 23)).heap[w.heap.size + 1]? = some (.cells #[.int .i64 x0, .int .i64 x1] 23 (0, 0)) := by
    have := heap_alloc_new (w.alloc (.cells #[.int .i64 x0, .int .i64 x1] 23)) (.cells #[.int .i64 x0, .int .i64 x1] 23)
    rwa [World.size_alloc] at this
  have hz2 : ((w.alloc (.cells #[.int .i64 x0, .int .i64 x1] 23)).alloc (.cells #[.int .i64 x0, .int .i64 x1] 23)).heap.size = w.heap.size + 1 + 1 := by rw [World.size_alloc, World.size_alloc]
  have hb2 := below_alloc hb1 (.cells #[.int .i64 x0, .int .i64 x1] 23)
  have hC0 := Kd.C_below hr0 hb2
  have hCX := one_rowM (⟨x0, x1⟩ : S23) hg1
  clear hc0 hc1 hbx hb1 hz1 hg1
  generalize (w.alloc (.cells #[.int .i64 x0, .int .i64 x1] 23)).alloc (.cells #[.int .i64 x0, .int .i64 x1] 23) = WB at hz2 hb2 hC0 hCX ⊢
  have hgt := heap_alloc_new WB (.cells #[.slice A0 l0.length c0, .slice (some ⟨w.heap.size + 1, 0, none⟩) 1 1] 26)
  rw [hz2] at hgt
  have hbt := below_alloc (Below.refl WB.heap.size WB) (.cells #[.slice A0 l0.length c0, .slice (some ⟨w.heap.size + 1, 0, none⟩) 1 1] 26)
  have HR2 := Aside0.mk (two_rowsM hgt (Kd.C_below hC0 hbt) HC0.out (Kd.C_below hCX hbt) (by simp))
  have HBT := Aside0.mk (below_step hb2 hbt)
  have HCX := Aside0.mk (Kd.C_below hCX hbt)
  clear hgt hC0 hCX hb2
  refine ⟨trivial, ?_⟩
  refine (callsIn_wide.2 (ivl_rows.calls k _ 2 [l0, [⟨x0, x1⟩]] 0 _ HR2.out (by simp) H1.out)).mono ?_
  rintro e w1 ⟨rfl, hb3⟩
  have HB1 := Aside0.mk (below_step HBT.out hb3)
  have HCX1 := Aside0.mk (Kd.C_below HCX.out hb3)
  clear hb3 HR2 HBT HCX hbt hz2
  gi_wp2
  refine ⟨trivial, ?_⟩
  have hgb := heap_alloc_new w1 (.cells #[.slice none 0 0] 64)
  have hbb := below_alloc (Below.refl w1.heap.size w1) (.cells #[.slice none 0 0] 64)
  have hzb : w1.heap.size + 1 = (w1.alloc (.cells #[.slice none 0 0] 64)).heap.size := (World.size_alloc _ _).symm
  generalize w1.alloc (.cells #[.slice none 0 0] 64) = w2 at hgb hbb hzb ⊢
  refine (callsIn_wide.2 (times_is w2)).mono ?_
  rintro e w3 ⟨rfl, hb3⟩
  have hgb3 := blk_below hgb hb3
  have hbb3 := below_step hbb hb3
  have hz3 := hb3.size
  clear hgb hbb hb3
  gi_wp2
  refine ⟨trivial, ?_⟩
  refine (callsIn_wide.2 (ivl_runs.calls k A0 c0 l0 ra w3 (Kd.C_below (Kd.C_below hr0 HB1.out) hbb3) HC0.out H2.out)).mono ?_
  rintro e w4 ⟨v4, rfl, ho4, hb4⟩
  obtain ⟨A4, c4, rfl⟩ := Kd.R_slice ho4
  have hgb4 := blk_below hgb3 hb4
  have hbb4 := below_step hbb3 hb4
  have hz4 := hb4.size
  clear hgb3 hbb3 hb4
  gi_wp2
  refine ⟨trivial, ?_⟩
  refine (gaps_in _ A4 ra.length c4 w4).mono ?_
  rintro e w5 ⟨rfl, rfl⟩
  gi_wp2
  have hb6 : Below w4.heap.size w4 ((w4.alloc (.cells fieldM 68)).alloc (.cells #[.slice A4 ra.length c4] 64)) := below_alloc (below_alloc (Below.refl _ _) _) _
  have hbf : ((w4.alloc (.cells fieldM 68)).alloc (.cells #[.slice A4 ra.length c4] 64)).heap[w4.heap.size]? = some (.cells fieldM 68 (0, 0)) := blk_alloc (heap_alloc_new w4 _) _
  have hbs : ((w4.alloc (.cells fieldM 68)).alloc (.cells #[.slice A4 ra.length c4] 64)).heap[w4.heap.size + 1]? = some (.cells #[.slice A4 ra.length c4] 64 (0, 0)) := by
    have := heap_alloc_new (w4.alloc (.cells fieldM 68)) (.cells #[.slice A4 ra.length c4] 64)
    rwa [World.size_alloc] at this
  have hz6 : w4.heap.size + 2 = ((w4.alloc (.cells fieldM 68)).alloc (.cells #[.slice A4 ra.length c4] 64)).heap.size := by rw [World.size_alloc, World.size_alloc]
  generalize ((w4.alloc (.cells fieldM 68)).alloc (.cells #[.slice A4 ra.length c4] 64)) = w6 at hb6 hbf hbs hz6 ⊢
  have hgb6 := blk_below hgb4 hb6
  have hbb6 := below_step hbb4 hb6
  have HGI : Aside0 (GapsIn w6.heap.size w1.heap.size w4.heap.size (w4.heap.size + 1) ra A4 c4 w6) :=
    ⟨⟨⟨by omega, by omega, by omega, by omega, Nat.le_refl _⟩, ⟨_, hgb6, fun b h => by simp [Value.ownBlock] at h⟩, hbf, hbs, Kd.R_mono (Kd.R_lower (Kd.R_bound (Kd.R_mono (Kd.R_bound (Kd.R_below ho4 (Below.refl _ _))) (ok' := fun k => w3.heap.size ≤ k ∧ k < w4.heap.size) (fun k hk => ⟨hk.2.1, hk.2.2.1⟩) |> fun h => Kd.R_below h hb6)) (Nat.zero_le _)) (fun k hk => ⟨by have := hk.1; omega, by have := hk.1; omega⟩)⟩⟩
  have hD0 : NotIn w1 w6 w6 w1.heap.size [] := ⟨⟨_, hgb6, Kd.R_nil _ _ _ _ _, fun b h => by simp [Value.ownBlock] at h⟩, hbb6, Nat.le_refl _⟩
  have HCX6 := Aside0.mk (Kd.C_below HCX1.out hbb6)
  have HN6 : Aside0 (w1.heap.size < w6.heap.size) := ⟨by omega⟩
  clear hgb4 hbb4 hb6 hbf hbs hgb6 hbb6 ho4
  have hseq : SeqStopsK Fence.wide 3 Try.prog 39 #[.pointer (some ⟨w4.heap.size, 0, none⟩), .pointer (some ⟨w4.heap.size + 1, 0, none⟩)] encR (KeepG w1.heap.size w6.heap.size) (fun ys => ys = gapsL 0 ra) (fun _ => True) (ra.length + 1) w6 := fun l J Jx W hW hJ _ hY h0 =>
    (gaps1_in 3 (by omega) l w6.heap.size w1.heap.size w4.heap.size (w4.heap.size + 1) ra A4 c4 HOK.out J Jx hY (fun _ _ _ h hg => hJ _ _ _ none h hg (fun _ e => by cases e)) W (HGI.out.below hW) h0).mono (by
      rintro e W' ⟨hv, (⟨ys, hys, hj⟩ | ⟨pre, hj⟩)⟩
      · exact ⟨hv, .inl ⟨ys, hys, hj⟩⟩
      · exact ⟨hv, .inr ⟨pre, trivial, hj⟩⟩)
  have henc : ∀ x : RnM, (encR x).size = 1 := fun _ => rfl
  refine wpIn_rangeFunc_ownH rfl (by omega) (gf := 39) (lb := #[.pointer (some ⟨w4.heap.size, 0, none⟩), .pointer (some ⟨w4.heap.size + 1, 0, none⟩)]) rfl trivial (enters_of Try.func39 (by kernel_rfl) rfl)
    hseq (fun h k => h.trans k) (fun W l o o' _ ho hc _ => KeepG.putWalk ho hc o') (Below.refl _ _) (fun _ => rfl)
    (fun pre W => NotIn w1 w6 W w1.heap.size pre)
    (fun _ _ _ => False)
    (fun s A B row h hg hr => h.own hg hr (by have := HN6.out; omega))
    (fun _ _ _ _ _ hs _ _ => hs)
    hD0
    (fun x a' W => ∃ Bx, w6.heap.size ≤ Bx ∧ W.heap[Bx]? = some (.cells #[.int .i64 x.f0, .int .i64 x.f1] 77 (0, 0)) ∧ a' = { tmps := #[.slice A0 l0.length c0, .agg #[.int .i64 x0, .int .i64 x1], undef, .pointer (some ⟨w.heap.size, 0, none⟩), .slice none 0 0, .int .i64 0, .slice (some ⟨w.heap.size + 1, 0, none⟩) 1 1, .int .i64 0, .pointer (some ⟨w1.heap.size, 0, none⟩), .pointer (some ⟨Bx, 0, none⟩), .agg #[.int .i64 x0, .int .i64 x1], .slice (some ⟨w.heap.size + 1, 0, none⟩) 1 1, .slice A0 l0.length c0, .slice (some ⟨w.heap.size + 1, 0, none⟩) 1 1, .slice (some ⟨w.heap.size + 1 + 1, 0, none⟩) 2 2, .int .i64 0, .int .i64 0, .bool false, undef, fieldT, .slice A0 l0.length c0, .slice A4 ra.length c4, .func (.func 39) #[] #[.pointer (some ⟨w4.heap.size, 0, none⟩), .pointer (some ⟨w4.heap.size + 1, 0, none⟩)], .agg #[.int .i64 x.f0, .int .i64 x.f1], undef, undef, undef, undef, undef, undef, undef, undef, undef, undef, undef, undef], defers := [] })
    (fun x a' _ A B row ⟨Bx, h1, h2, h3⟩ hg hr => ⟨Bx, h1, blk_grown_ h2 hg hr, h3⟩) ?assign ?body ?done ?stop
  case assign =>
    rintro l pre x W K hI hK
    dsimp only [encR]
    gi_wp2
    have hb := below_alloc (Below.refl W.heap.size W) (.cells #[.int .i64 x.f0, .int .i64 x.f1] 77)
    exact hK _ _ ((KeepsOthers.alloc _ _).from _) (KeepG.below hb) (hI.below hb) ⟨W.heap.size, hI.size, heap_alloc_new _ _, rfl⟩
  case body =>
    rintro l pre x a' W hl hr hI ⟨Bx, hBx, hx, rfl⟩ hlt
    obtain ⟨v, hv, hrow, hown⟩ := hI.line
    have hcg := (blk_cell hv 0).trans (rfl : _ = some v)
    have hcx0 := (blk_cell hx 0).trans (rfl : _ = some (Value.int .i64 x.f0))
    have hcx1 := (blk_cell hx 1).trans (rfl : _ = some (Value.int .i64 x.f1))
    have HLN : Aside0 ((pre.length + 1) * 16 ≤ 140737488355328) := ⟨by have := HL.out; omega⟩
    have hbw := hI.bl
    have hsz := hI.size
    gi_wp2_with (gi_at_builtin; refine R_append_in k77 (w0 := w1) w1.heap.size rfl (.tmp 24) (.tmp 26) 64 77 (.agg #[(.int .i64 0), (.int .i64 0)]) 16 rfl Try.underlying64 infoM19 rfl (by decide) (by omega) v pre x [.int .i64 x.f0, .int .i64 x.f1] (fun k_ => k_ ≠ w1.heap.size) (fun _ => False) rfl rfl (k77_mkM _ _ _ _) (fun _ hk => hk.elim) ?aF hrow hbw hbw.size HLN.out ?_; (case aF => intro k_ hk_ he_; subst he_; exact absurd (blk_lt hv) (Nat.not_lt.2 hk_)); intro v1 w9 ho1 hb1 hg1 hat1; obtain ⟨A1, c1, rfl⟩ := Kd.R_slice ho1; have hv1 : w9.heap[w1.heap.size]? = some (.cells #[v] 64 (0, 0)) := blk_grown hv hg1 (Kd.R_away hrow (fun _ hk => hk)); have hcg1 := (blk_cell hv1 0).trans (rfl : _ = some v); have hcf1 := blk_frozen hv1 0)
    have hnew : ∀ b, (Value.slice A1 (pre ++ [x]).length c1).ownBlock = some b → w6.heap.size ≤ b ∧ b < w9.heap.size := fun b hb => by
      refine ⟨?_, own_lt (Kd.R_own ho1).choose_spec b hb⟩
      rcases hat1 with e | ⟨b', e, h⟩
      · exact (hown b (e.symm.trans hb)).1
      · have : b' = b := Option.some.inj (e.symm.trans hb)
        omega
    have hne : some w1.heap.size ≠ v.ownBlock := Kd.R_away hrow (fun _ hk => hk)
    refine ⟨((KeepsOthers.of_grownBy hg1 (fun j o hj ho => ?_)).trans (KeepsOthers.setCell _ _ _)).from _, by simpa using KeepG.append hv hg1 hat1 hne hnew, ⟨⟨_, blk_set hv1 0 _, by simpa using Kd.R_far ho1 (p := ⟨w1.heap.size, 0, none⟩) (fun _ hk => hk) (.slice A1 (pre ++ [x]).length c1), fun b hb => by rw [World.size_setCell]; exact hnew b (by simpa using hb)⟩, hb1.setCell (p := ⟨w1.heap.size, 0, none⟩) (Nat.le_refl _) _, Nat.le_trans hsz (Nat.le_trans hg1.size (Nat.le_of_eq (World.size_setCell _ _ _).symm))⟩⟩
    obtain ⟨inner, hown2⟩ := Kd.R_own hrow
    obtain ⟨cells, hcs⟩ := own_typed hown2 j hj
    rw [hcs] at ho
    cases ho
    rfl
  case done =>
    rintro D xs W hD hxs hI hDd
    obtain ⟨v, hv, hrow, hown⟩ := hI.line
    obtain ⟨Ag, cg, rfl⟩ := Kd.R_slice hrow
    obtain ⟨gs, hgs⟩ : ∃ gs, gapsL 0 ra = gs := ⟨_, rfl⟩
    have hxg : xs = gs := hxs.trans hgs
    subst hxg
    have hgl := gapsL_len ra 0
    have h4 := H4.out
    rw [hgs] at h4 hgl
    have H4' := Aside0.mk h4
    have HGL := Aside0.mk hgl
    have HDd := Aside0.mk (blk_below hDd (below_drew1 (Below.refl W.heap.size W)))
    have HDw : Aside0 (w.heap.size ≤ D) := ⟨by have := HB1.out.size; have := HN6.out; omega⟩
    have HV := Aside0.mk (blk_below hv (below_drew1 (Below.refl W.heap.size W)))
    have HRW := Aside0.mk (Kd.R_below hrow (below_drew1 (Below.refl W.heap.size W)))
    have HBW := Aside0.mk (below_drew1 (below_step HB1.out hI.bl))
    have HCW := Aside0.mk (Kd.C_below HCX1.out (below_drew1 hI.bl))
    have hmo : Try.prog.follows .mixedOrders = true := by kernel_rfl
    clear hv hrow hown h4 hgl hgs hDd hI hxs
    gi_wp2
    refine startI (m := 10) (S := fun w' => w'.cell? ⟨w1.heap.size, 0, none⟩ = some (.slice Ag xs.length cg)) (ds := []) #[false,false,false,false,false,false,false,false,false,false] hmo rfl rfl ?_
    have hHeld : W.drew.cell? ⟨w1.heap.size, 0, none⟩ = some (.slice Ag xs.length cg) := (blk_cell HV.out 0).trans rfl
    generalize W.drew = W7 at HDd HV HRW HBW HCW hHeld ⊢
    refine takeI (fun _ => trivial) (by kernel_rfl) (i := 1) (N := some 29) (v := ?_) (a' := ?_) #[false,true,false,false,false,false,false,false,false,false] rfl rfl (by kernel_rfl) (panQ rfl 29 (by decide) (by decide) _) (Or.inl ⟨by rfl, ?_⟩) hHeld ?_ ?_
    rotate_left
    · rintro w' s0
      go_simp
      with_reducible rfl
    rotate_left
    · simp only [Go.Act.put]
      rfl
    refine pureI (fun _ => trivial) (by kernel_rfl) (i := 2) (N := some 30) (v := ?_) (a' := ?_) #[false,true,true,false,false,false,false,false,false,false] rfl rfl (by kernel_rfl) (panQ rfl 30 (by decide) (by decide) _) (Or.inl ⟨by rfl, ?_⟩) ?_ ?_
    rotate_left
    · intro w'
      go_simp
      with_reducible rfl
    rotate_left
    · simp only [Go.Act.put]
      rfl
    refine oneI (i := 0) (N := some 28) #[true,true,true,false,false,false,false,false,false,false] rfl rfl (by kernel_rfl) (by rfl) (fun K hK => ?_)
    clear hHeld
    go_simp
    refine ⟨trivial, ?_⟩
    refine (callsIn_wide.2 (times_is W7)).mono ?_
    rintro e W8 ⟨rfl, hb8⟩
    have HDd8 := Aside0.mk (blk_below HDd.out hb8)
    have HRW8 := Aside0.mk (Kd.R_below HRW.out hb8)
    have HV8 := Aside0.mk (blk_below HV.out hb8)
    have HBW8 := Aside0.mk (below_step HBW.out hb8)
    have HCW8 := Aside0.mk (Kd.C_below HCW.out hb8)
    clear hb8
    refine hK _ _ ((blk_cell HV8.out 0).trans rfl) ?_
    clear hK K
    refine oneI (i := 3) (N := some 31) #[true,true,true,true,false,false,false,false,false,false] rfl rfl (by kernel_rfl) (by rfl) (fun K hK => ?_)
    go_simp
    refine ⟨trivial, ?_⟩
    have hrc := ivl_runs.calls k _ 1 [⟨x0, x1⟩] rb W8 HCW8.out (by simp) H3.out
    simp only [List.length_cons, List.length_nil, Nat.zero_add] at hrc
    refine (callsIn_wide.2 hrc).mono ?_
    clear hrc
    rintro e W9 ⟨v9, rfl, ho9, hb9⟩
    obtain ⟨A9, c9, rfl⟩ := Kd.R_slice ho9
    have HDd9 := Aside0.mk (blk_below HDd8.out hb9)
    have HRW9 := Aside0.mk (Kd.R_below HRW8.out hb9)
    have HV9 := Aside0.mk (blk_below HV8.out hb9)
    have HBW9 := Aside0.mk (below_step HBW8.out hb9)
    have HO9 := Aside0.mk ho9
    clear hb9 ho9
    refine hK _ _ ((blk_cell HV9.out 0).trans rfl) ?_
    clear hK K
    refine oneI (i := 4) (N := some 32) #[true,true,true,true,true,false,false,false,false,false] rfl rfl (by kernel_rfl) (by rfl) (fun K hK => ?_)
    unfold fieldT
    go_simp
    refine ⟨trivial, ?_⟩
    refine (callsIn_wide.2 (meet_is Ag cg xs A9 c9 rb (by have h1 := HL.out; have h2 := HGL.out; omega) W9 (Kd.R_reads' HRW9.out).2.2 (Kd.R_reads' HRW9.out).2.1 (Kd.R_reads' HO9.out).2.2 (Kd.R_reads' HO9.out).2.1)).mono ?_
    rintro e W10 ⟨v10, rfl, ho10, hb10⟩
    obtain ⟨mt, hmt⟩ : ∃ mt, meetN (xs.length + rb.length) xs rb = mt := ⟨_, rfl⟩
    have h4 := H4'.out
    rw [hmt] at ho10 h4
    obtain ⟨A10, c10, rfl⟩ := Kd.R_slice ho10
    have HDd10 := Aside0.mk (blk_below HDd9.out hb10)
    have HV10 := Aside0.mk (blk_below HV9.out hb10)
    have HBW10 := Aside0.mk (below_step HBW9.out hb10)
    have HO10 := Aside0.mk ho10
    have H5 := Aside0.mk h4
    clear hb10 ho10 hmt h4
    refine hK _ _ ((blk_cell HV10.out 0).trans rfl) ?_
    clear hK K
    refine oneI (i := 5) (N := some 33) #[true,true,true,true,true,true,false,false,false,false] rfl rfl (by kernel_rfl) (by rfl) (fun K hK => ?_)
    go_simp
    refine ⟨trivial, ?_⟩
    refine (callsIn_wide.2 (ivl_told.calls k _ _ mt r1 r2 W10 (Kd.R_reads' HO10.out).2.2 (Kd.R_reads' HO10.out).2.1 H5.out)).mono ?_
    rintro e W11 ⟨v11, rfl, ho11, hb11⟩
    have HDd11 := Aside0.mk (blk_below HDd10.out hb11)
    have HV11 := Aside0.mk (blk_below HV10.out hb11)
    have HBW11 := Aside0.mk (below_step HBW10.out hb11)
    have HO11 := Aside0.mk (Kd.R_lower ho11 HBW10.out.size)
    clear hb11 ho11
    refine hK _ _ ((blk_cell HV11.out 0).trans rfl) ?_
    clear hK K
    refine pureI (fun _ => trivial) (by kernel_rfl) (i := 6) (N := some 34) (v := ?_) (a' := ?_) #[true,true,true,true,true,true,true,false,false,false] rfl rfl (by kernel_rfl) (panQ rfl 34 (by decide) (by decide) _) (Or.inl ⟨by rfl, ?_⟩) ?_ ?_
    rotate_left
    · intro w'
      go_simp
      with_reducible rfl
    rotate_left
    · simp only [Go.Act.put]
      rfl
    refine pureI (fun _ => trivial) (by kernel_rfl) (i := 7) (N := some 35) (v := ?_) (a' := ?_) #[true,true,true,true,true,true,true,true,false,false] rfl rfl (by kernel_rfl) (panQ rfl 35 (by decide) (by decide) _) (Or.inl ⟨by rfl, ?_⟩) ?_ ?_
    rotate_left
    · intro w'
      go_simp
      with_reducible rfl
    rotate_left
    · simp only [Go.Act.put]
      rfl
    refine oneI (i := 8) (N := some 4) #[true,true,true,true,true,true,true,true,true,false] rfl rfl (by kernel_rfl) (by rfl) (fun K hK => ?_)
    go_simp
    refine hK _ _ ((blk_cell HV11.out 0).trans rfl) ?_
    clear hK K
    refine oneI (i := 9) (N := some 5) #[true,true,true,true,true,true,true,true,true,true] rfl rfl (by kernel_rfl) (by rfl) (fun K hK => ?_)
    go_simp
    refine hK _ _ ((blk_cell HV11.out 0).trans rfl) ?_
    clear hK K
    refine doneI (by kernel_rfl) ?_
    gi_wp2
    have hgr := grownBy_putObj' W11 D (.deferred none)
    have hrr : ∀ r, some D = some r → w.heap.size ≤ r ∧ ∃ o : Obj, W11.heap[r]? = some o ∧ o.isCells = false := fun r e => by cases e; exact ⟨HDw.out, _, HDd11.out, rfl⟩
    refine ⟨by simp, .inl ⟨_, _, rfl, run_takeDeferred HDd11.out, ?_⟩⟩
    exact ⟨_, results_list (rs := [.tmp 4, .tmp 5]) rfl (by simp) (.tmp (.tmp .nil)), _, rfl, own_grown HO11.out hgr hrr, HBW11.out.grown hgr HBW11.out.size (fun k e => (hrr k e).1)⟩
  case stop =>
    rintro D c pre W _ _ h _
    exact h.elim
def okM (l : List RnM) : Bool := l.all (fun x => decide (0 ≤ x.f0 ∧ x.f0 ≤ x.f1 ∧ x.f1 ≤ 1099511627776))
theorem okM_of {l : List RnM} (h : okM l = true) : ∀ x ∈ l, 0 ≤ x.f0 ∧ x.f0 ≤ x.f1 ∧ x.f1 ≤ 1099511627776 := fun x hx => of_decide_eq_true (List.all_eq_true.1 h x hx)
def ivl_Not.f (k : Nat) (l0 : List S23) (a1_0 a1_1 : Int) : Option (List S23 × Int) := (ivl_rows.f k [l0, [⟨a1_0, a1_1⟩]]).bind fun y =>
  if y ≠ 0 then some ([], y) else (ivl_runs.f k l0).bind fun ra => (ivl_runs.f k [⟨a1_0, a1_1⟩]).bind fun rb =>
  if (ra.length + rb.length + 4) * 16 ≤ 140737488355328 ∧ okM ra = true then ivl_told.f k (meetN ((gapsL 0 ra).length + rb.length) (gapsL 0 ra) rb) else none
set_option maxRecDepth 100000 in
set_option maxHeartbeats 4000000 in
theorem ivl_Not.calls (k : Nat) (A0 : Option Addr) (c0 : Nat) (l0 : List (S23)) (a1_0 : Int) (a1_1 : Int) (r1 : List (S23)) (r2 : Int) (w : World) (hr0 : Kd.C k23 w A0 l0.length l0) (hc0 : l0.length ≤ c0) (h : ivl_Not.f k l0 a1_0 a1_1 = some (r1, r2)) :
    Calls Try.prog 9 #[.slice A0 l0.length c0, .agg #[.int .i64 a1_0, .int .i64 a1_1]] w fun e w' => ∃ v0_ : Value, e = .returned (.tuple #[v0_, .int .i64 r2]) ∧ Kd.R k23 23 w' w.heap.size (fun _ => True) v0_ r1 ∧ Below w.heap.size w w' := by
  obtain ⟨y, hy, h⟩ := Option.bind_eq_some_iff.mp h
  by_cases cy : y ≠ 0
  · rw [if_pos cy] at h
    obtain ⟨e1, e2⟩ := Prod.mk.inj (Option.some.inj h)
    subst e1
    subst e2
    have d0 : (y != 0) = true := bne_iff_ne.mpr cy
    have HY := Aside0.mk hy
    have hbx := heap_alloc_new w (.cells #[.int .i64 a1_0, .int .i64 a1_1] 23)
    have hb1 := below_alloc (Below.refl w.heap.size w) (.cells #[.int .i64 a1_0, .int .i64 a1_1] 23)
    have hg1 : ((w.alloc (.cells #[.int .i64 a1_0, .int .i64 a1_1] 23)).alloc (.cells #[.int .i64 a1_0, .int .i64 a1_1] 23)).heap[w.heap.size + 1]? = some (.cells #[.int .i64 a1_0, .int .i64 a1_1] 23 (0, 0)) := by
      have := heap_alloc_new (w.alloc (.cells #[.int .i64 a1_0, .int .i64 a1_1] 23)) (.cells #[.int .i64 a1_0, .int .i64 a1_1] 23)
      rwa [World.size_alloc] at this
    have hz2 : ((w.alloc (.cells #[.int .i64 a1_0, .int .i64 a1_1] 23)).alloc (.cells #[.int .i64 a1_0, .int .i64 a1_1] 23)).heap.size = w.heap.size + 1 + 1 := by rw [World.size_alloc, World.size_alloc]
    have hb2 := below_alloc hb1 (.cells #[.int .i64 a1_0, .int .i64 a1_1] 23)
    have hC0 := Kd.C_below hr0 hb2
    have hCX := one_rowM (⟨a1_0, a1_1⟩ : S23) hg1
    have hgt := heap_alloc_new ((w.alloc (.cells #[.int .i64 a1_0, .int .i64 a1_1] 23)).alloc (.cells #[.int .i64 a1_0, .int .i64 a1_1] 23)) (.cells #[.slice A0 l0.length c0, .slice (some ⟨w.heap.size + 1, 0, none⟩) 1 1] 26)
    rw [hz2] at hgt
    have hbt := below_alloc (Below.refl _ ((w.alloc (.cells #[.int .i64 a1_0, .int .i64 a1_1] 23)).alloc (.cells #[.int .i64 a1_0, .int .i64 a1_1] 23))) (.cells #[.slice A0 l0.length c0, .slice (some ⟨w.heap.size + 1, 0, none⟩) 1 1] 26)
    have HR2 := Aside0.mk (two_rowsM hgt (Kd.C_below hC0 hbt) hc0 (Kd.C_below hCX hbt) (by simp))
    have HBT := Aside0.mk (below_step hb2 hbt)
    have hc0_ := (blk_cell hbx 0).trans (rfl : _ = some (Value.int .i64 a1_0))
    have hc1_ := (blk_cell hbx 1).trans (rfl : _ = some (Value.int .i64 a1_1))
    clear cy h hgt hC0 hCX hb2 hbx hb1 hg1 hz2 hbt
    go_enter Try.func9, Try.ntmps9
    go_wp2_with (go_at_call 18; refine (ivl_rows.calls k _ 2 [l0, [⟨a1_0, a1_1⟩]] y _ HR2.out (by simp) HY.out).mono ?_; rintro e w5 ⟨rfl, hb5⟩; have HB5 := Aside0.mk (below_step HBT.out hb5); clear hb5)
    go_ret2
    exact ⟨_, rfl, Kd.R_nil _ _ _ _ _, HB5.out⟩
  · have cy0 : y = 0 := Decidable.not_not.mp cy
    subst cy0
    rw [if_neg cy] at h
    obtain ⟨ra, hra, h⟩ := Option.bind_eq_some_iff.mp h
    obtain ⟨rb, hrb, h⟩ := Option.bind_eq_some_iff.mp h
    by_cases cg : (ra.length + rb.length + 4) * 16 ≤ 140737488355328 ∧ okM ra = true
    case neg => rw [if_neg cg] at h; cases h
    rw [if_pos cg] at h
    exact ivl_Not.walk k A0 c0 l0 a1_0 a1_1 ra rb r1 r2 w hr0 hc0 hy hra hrb cg.1 (okM_of cg.2) h
end Go.Proofs.Ytoheongejamapaa.Q
end
section
namespace Go.Proofs.Ytoheongejamapaa.Q
open Go.RowKit Go.Proofs.YtoheongejamapaaW.PrintWords Go.Proofs.YtoheongejamapaaW.PrintLast Go.Proofs.YtoheongejamapaaW.PrintMore
attribute [local go_sem] max2_int min2_int max_two min_two max_three min_three max_four min_four   -- for this text's walks alone
set_option linter.unusedVariables false
set_option linter.unusedSimpArgs false
theorem eqA32 (d : Nat) (w : World) (x0 y0 : Int) (x1 y1 : Int) :
    (Op.equalIn (d + 2) 32 (.agg #[.int .u8 x0, .int .i64 x1]) (.agg #[.int .u8 y0, .int .i64 y1])).run Try.prog w = .ok (x0 == y0 && (x1 == y1)) w := by
  refine eqA_of Try.underlying32 (by kernel_rfl) ?_
  refine eqf_cons (by rfl) (by go_simp; rfl) (by go_simp; rfl) (by go_simp) ?_
  exact eqf_last (by rfl) (by go_simp; rfl) (by go_simp; rfl) (by go_simp)
end Go.Proofs.Ytoheongejamapaa.Q
end
section
namespace Go.Proofs.Ytoheongejamapaa.Q
open Go.RowKit Go.Proofs.YtoheongejamapaaW.PrintWords Go.Proofs.YtoheongejamapaaW.PrintLast Go.Proofs.YtoheongejamapaaW.PrintMore
attribute [local go_sem] max2_int min2_int max_two min_two max_three min_three max_four min_four   -- for this text's walks alone
set_option linter.unusedVariables false
set_option linter.unusedSimpArgs false
attribute [local go_sem high] eqA32
def line_window.f (k : Nat) (a0_0 : Int) (a0_1 : Int) : Option (Bool) := (ivl_Check.f k (([(⟨a0_0, a0_1⟩ : S23)] : List (S23)))).bind fun t133 => (some (t133 == 0))
set_option maxHeartbeats 8000000 in
set_option maxRecDepth 100000 in
theorem line_window.calls (k : Nat) (a0_0 : Int) (a0_1 : Int) (r : Bool) (w : World) (h : line_window.f k a0_0 a0_1 = some r) :
  Calls Try.prog 29 #[.agg #[.int .i64 a0_0, .int .i64 a0_1]] w fun e w' => e = .returned (.bool r) ∧ Below w.heap.size w w' := by
 have hu23 := Try.underlying23
 have HB := Ax (Below.refl w.heap.size w)
 have H : ((ivl_Check.f k (([(⟨a0_0, a0_1⟩ : S23)] : List (S23)))).bind fun t133 => (some (t133 == 0))) = some r := h
 clear h
 obtain ⟨y130, hy130⟩ : ∃ y_ : List (S23), y_ = (([(⟨a0_0, a0_1⟩ : S23)] : List (S23))) := ⟨_, rfl⟩
 replace H : ((ivl_Check.f k y130).bind fun t133 => (some (t133 == 0))) = some r := by first | (rw [hy130]; with_reducible exact H) | (have H2_ := (Option.bind_some _ _).symm.trans H; rw [hy130]; with_reducible exact H2_) | (have H2_ := (Option.bind_some _ _).symm.trans H; with_reducible exact H2_) | with_reducible exact H | (rw [hy130]; exact H) | exact H
 have Ny130 := Ax hy130
 clear hy130
 replace H := Option.bind_eq_some_iff.mp H
 obtain ⟨t133, A20, H⟩ := H
 replace H : (some (t133 == 0)) = some r := H
 have A2 := Ax A20
 clear A20
 obtain rfl := Option.some.inj H
 go_enter Try.func29, Try.ntmps29
 go_wp2_with (first | ((with_reducible refine gate_dst (N := 1) rfl ?_); refine box_event ?hg (N := 1) ?hd (cs := #[.int .i64 a0_0, .int .i64 a0_1]) (t := 23) ?hr ?_; (case hd => rfl); (case hg => rfl); (case hr => first | (go_simp; done) | (go_simp; rfl)); intro gb129 hg w3 hbox hb; have n0_ := Bs0 HB hb; have n1_ := Ax (hbox); have n2_ := Gw0 HB hg; have n3_ := Gw0 HB hg; clear HB; have HB := n0_; have BK129 := n1_; have GW129 := n2_; have GE129 := n3_; clear n0_ n1_ n2_ n3_; clear hb hbox hg; obtain ⟨hcz4_0, hcz4_1, hfz4_0, hfz4_1⟩ := cl2 BK129) | ((with_reducible refine gate_dst (N := 4) rfl ?_); refine Kd.R_lit k23 _ 23 ?hg (N := 4) ?hd (xs := ([(⟨a0_0, a0_1⟩ : S23)] : List (S23))) (inner := [.int .i64 a0_0, .int .i64 a0_1]) (ok := fun _ => True) (okp := fun _ => True) ?hr ?hp (fun _ hk => hk) trivial (Below.refl _ _) (Nat.le_refl _) (by simp) ?_; (case hd => rfl); (case hg => rfl); (case hr => first | (go_simp; done) | (go_simp; rfl)); (case hp => exact (Reps.c2 (show Kd.M k23 _ _ _ (⟨a0_0, a0_1⟩ : S23) [.int .i64 a0_0, .int .i64 a0_1] from (k23_mkM _ _ _ (⟨a0_0, a0_1⟩ : S23) )) (Reps.none _ _))); intro v131 w5 ho6 hb hg_ hnew_; clear hg_ hnew_; (first | rw [← Ny130.out] at ho6 | (simp only [Int.reduceToNat] at ho6; rw [← Ny130.out] at ho6)); have HO132 := Ax (Kd.R_lower (Kd.R_newB ho6 (g := gb129) (o := .cells #[.int .i64 a0_0, .int .i64 a0_1] 23 (0, 0)) (bf0 BK129.out)) (below_size (bw1 HB.out GE129.out))); replace BK129 := Bx0 BK129 hb; replace HB := Bs1 HB hb GE129.out; clear hb ho6; obtain ⟨Ao7, co7, eo7⟩ := Kd.R_slice HO132.out; subst eo7) | ((with_reducible refine gate_callee (f := 26) rfl ?_); refine goesL_ (some 5) rfl rfl Try.func26 (by kernel_rfl) rfl #[.slice Ao7 y130.length co7] rfl gS ?_; (with_reducible refine (ivl_Check.calls k _ _ y130 t133 _ ?side1 ?side2 A2.out).mono ?_); (case side1 => repeat (first | exact (Kd.R_reads' HO132.out).2.2 | (with_reducible refine Kd.C_alloc ?_ _) | (with_reducible refine Kd.C_drewN ?_ _) | (with_reducible refine Kd.C_drew ?_))); (case side2 => exact (Kd.R_reads' HO132.out).2.1); rintro e w8 ⟨rfl, hb⟩; refine ⟨_, rfl, ?_⟩; have n0_ := Ax (Kd.R_below (by (with_reducible repeat (first | apply Kd.R_alloc | apply Kd.R_drewN | apply Kd.R_drew)); exact HO132.out) hb); have n1_ := Bx0 BK129 hb; have n2_ := Bs1 HB hb GE129.out; clear HO132; clear BK129; clear HB; have HO132 := n0_; have BK129 := n1_; have HB := n2_; clear n0_ n1_ n2_; (try clear hb)))
 go_ret
 exact ⟨eS, bw1 HB.out GE129.out⟩
def line_right.f (a0_0 : Int) (a0_1 : Int) : Option (Bool) := if a0_0 > 0 then (if a0_0 < 5 then (if a0_1 ≥ 0 then (some (decide (a0_1 ≤ 1048576))) else (some false)) else (some false)) else (some false)
set_option maxHeartbeats 8000000 in
set_option maxRecDepth 100000 in
theorem line_right.calls (a0_0 : Int) (a0_1 : Int) (r : Bool) (w : World) (h : line_right.f a0_0 a0_1 = some r) :
  Calls Try.prog 30 #[.agg #[.int .u8 a0_0, .int .i64 a0_1]] w fun e w' => e = .returned (.bool r) ∧ Below w.heap.size w w' := by
 have hu32 := Try.underlying32
 have HB := Ax (Below.refl w.heap.size w)
 have H : (if a0_0 > 0 then (if a0_0 < 5 then (if a0_1 ≥ 0 then (some (decide (a0_1 ≤ 1048576))) else (some false)) else (some false)) else (some false)) = some r := h
 clear h
 by_cases c2 : a0_0 > 0
 ·rw [if_pos c2] at H
  have c2b0 : decide (0 < a0_0) = true := decide_eq_true c2
  clear c2
  by_cases c3 : a0_0 < 5
  ·rw [if_pos c3] at H
   have c3b0 : decide (a0_0 < 5) = true := decide_eq_true c3
   clear c3
   by_cases c4 : a0_1 ≥ 0
   ·rw [if_pos c4] at H
    have c4b0 : decide (0 ≤ a0_1) = true := decide_eq_true c4
    clear c4
    obtain rfl := Option.some.inj H
    go_enter Try.func30, Try.ntmps30
    go_wp2_with (first | ((with_reducible refine gate_dst (N := 1) rfl ?_); refine box_event ?hg (N := 1) ?hd (cs := #[.int .u8 a0_0, .int .i64 a0_1]) (t := 32) ?hr ?_; (case hd => rfl); (case hg => rfl); (case hr => first | (go_simp; done) | (go_simp; rfl)); intro gb134 hg w5 hbox hb; have n0_ := Bs0 HB hb; have n1_ := Ax (hbox); have n2_ := Gw0 HB hg; have n3_ := Gw0 HB hg; clear HB; have HB := n0_; have BK134 := n1_; have GW134 := n2_; have GE134 := n3_; clear n0_ n1_ n2_ n3_; clear hb hbox hg; obtain ⟨hcz6_0, hcz6_1, hfz6_0, hfz6_1⟩ := cl2 BK134))
    go_ret
    exact ⟨eS, bw1 HB.out GE134.out⟩
   ·rw [if_neg c4] at H
    have c4b0 : decide (0 ≤ a0_1) = false := decide_eq_false c4
    clear c4
    obtain rfl := Option.some.inj H
    go_enter Try.func30, Try.ntmps30
    go_wp2_with (first | ((with_reducible refine gate_dst (N := 1) rfl ?_); refine box_event ?hg (N := 1) ?hd (cs := #[.int .u8 a0_0, .int .i64 a0_1]) (t := 32) ?hr ?_; (case hd => rfl); (case hg => rfl); (case hr => first | (go_simp; done) | (go_simp; rfl)); intro gb134 hg w7 hbox hb; have n0_ := Bs0 HB hb; have n1_ := Ax (hbox); have n2_ := Gw0 HB hg; have n3_ := Gw0 HB hg; clear HB; have HB := n0_; have BK134 := n1_; have GW134 := n2_; have GE134 := n3_; clear n0_ n1_ n2_ n3_; clear hb hbox hg; obtain ⟨hcz8_0, hcz8_1, hfz8_0, hfz8_1⟩ := cl2 BK134))
    go_ret
    exact ⟨eS, bw1 HB.out GE134.out⟩
  ·rw [if_neg c3] at H
   have c3b0 : decide (a0_0 < 5) = false := decide_eq_false c3
   clear c3
   obtain rfl := Option.some.inj H
   go_enter Try.func30, Try.ntmps30
   go_wp2_with (first | ((with_reducible refine gate_dst (N := 1) rfl ?_); refine box_event ?hg (N := 1) ?hd (cs := #[.int .u8 a0_0, .int .i64 a0_1]) (t := 32) ?hr ?_; (case hd => rfl); (case hg => rfl); (case hr => first | (go_simp; done) | (go_simp; rfl)); intro gb134 hg w9 hbox hb; have n0_ := Bs0 HB hb; have n1_ := Ax (hbox); have n2_ := Gw0 HB hg; have n3_ := Gw0 HB hg; clear HB; have HB := n0_; have BK134 := n1_; have GW134 := n2_; have GE134 := n3_; clear n0_ n1_ n2_ n3_; clear hb hbox hg; obtain ⟨hcz10_0, hcz10_1, hfz10_0, hfz10_1⟩ := cl2 BK134))
   go_ret
   exact ⟨eS, bw1 HB.out GE134.out⟩
 ·rw [if_neg c2] at H
  have c2b0 : decide (0 < a0_0) = false := decide_eq_false c2
  clear c2
  obtain rfl := Option.some.inj H
  go_enter Try.func30, Try.ntmps30
  go_wp2_with (first | ((with_reducible refine gate_dst (N := 1) rfl ?_); refine box_event ?hg (N := 1) ?hd (cs := #[.int .u8 a0_0, .int .i64 a0_1]) (t := 32) ?hr ?_; (case hd => rfl); (case hg => rfl); (case hr => first | (go_simp; done) | (go_simp; rfl)); intro gb134 hg w11 hbox hb; have n0_ := Bs0 HB hb; have n1_ := Ax (hbox); have n2_ := Gw0 HB hg; have n3_ := Gw0 HB hg; clear HB; have HB := n0_; have BK134 := n1_; have GW134 := n2_; have GE134 := n3_; clear n0_ n1_ n2_ n3_; clear hb hbox hg; obtain ⟨hcz12_0, hcz12_1, hfz12_0, hfz12_1⟩ := cl2 BK134))
  go_ret
  exact ⟨eS, bw1 HB.out GE134.out⟩
mutual
def line_Check.j0 : Nat → List (S34) → Bool → Int → Int → Option (Int)
 | 0, _, _, _, _ => none
 | k + 1, x1, x42, x136000, x136001 => if x42 = true then (some 2) else (line_Check.l0 k x1 x1 (x1.length : Int) 0 x136000 x136001)
def line_Check.l0 : Nat → List (S34) → List (S34) → Int → Int → Int → Int → Option (Int)
 | 0, _, _, _, _, _, _ => none
 | k + 1, x1, x43, x44, x45, x136000, x136001 => if x45 < x44 then (if 0 ≤ x45 then (if x45 < (x43.length : Int) then ((line_right.f ((rd_T34 x43 x45).f1.f0) ((rd_T34 x43 x45).f1.f1)).bind fun t141 => (if t141 = true then (if ((rd_T34 x43 x45).f0.f1) < ((rd_T34 x43 x45).f0.f0) then (line_Check.j2 k x1 x45 x43 x44 x45 true x136000 x136001 ((rd_T34 x43 x45).f0.f0) ((rd_T34 x43 x45).f0.f1) ((rd_T34 x43 x45).f1.f0) ((rd_T34 x43 x45).f1.f1)) else (line_Check.j2 k x1 x45 x43 x44 x45 (decide (((rd_T34 x43 x45).f0.f1) > x136001)) x136000 x136001 ((rd_T34 x43 x45).f0.f0) ((rd_T34 x43 x45).f0.f1) ((rd_T34 x43 x45).f1.f0) ((rd_T34 x43 x45).f1.f1))) else (line_Check.j2 k x1 x45 x43 x44 x45 true x136000 x136001 ((rd_T34 x43 x45).f0.f0) ((rd_T34 x43 x45).f0.f1) ((rd_T34 x43 x45).f1.f0) ((rd_T34 x43 x45).f1.f1)))) else (none)) else (none)) else (some 0)
def line_Check.j2 : Nat → List (S34) → Int → List (S34) → Int → Int → Bool → Int → Int → Int → Int → Int → Int → Option (Int)
 | 0, _, _, _, _, _, _, _, _, _, _, _, _ => none
 | k + 1, x1, x6, x43, x44, x45, x50, x136000, x136001, x141000, x141001, x141002, x141003 => if x50 = true then (some 2) else (if x6 > 0 then (if 0 ≤ (wrap64 (x6 - 1)) then (if (wrap64 (x6 - 1)) < (x1.length : Int) then (if (wrap64 (x141000 - 1)) = ((rd_T34 x1 (wrap64 (x6 - 1))).f0.f1) then (if (x141002 == ((rd_T34 x1 (wrap64 (x6 - 1))).f1.f0) && (x141003 == ((rd_T34 x1 (wrap64 (x6 - 1))).f1.f1))) = true then (some 2) else (line_Check.l0 k x1 x43 x44 (wrap64 (x45 + 1)) x136000 x136001)) else (some 2)) else (none)) else (none)) else (line_Check.l0 k x1 x43 x44 (wrap64 (x45 + 1)) x136000 x136001))
end
def line_Check.f (k : Nat) (a0_0 : Int) (a0_1 : Int) (l1 : List (S34)) : Option (Int) := (line_window.f k a0_0 a0_1).bind fun t136 => (if t136 = true then (if (l1.length : Int) = 0 then (line_Check.j0 k l1 true a0_0 a0_1) else (if (l1.length : Int) > 1024 then (line_Check.j0 k l1 true a0_0 a0_1) else (if 0 < (l1.length : Int) then (if ((rd_T34 l1 0).f0.f0) = a0_0 then (if 0 ≤ (wrap64 ((l1.length : Int) - 1)) then (if (wrap64 ((l1.length : Int) - 1)) < (l1.length : Int) then (line_Check.j0 k l1 (((rd_T34 l1 (wrap64 ((l1.length : Int) - 1))).f0.f1) != a0_1) a0_0 a0_1) else (none)) else (none)) else (line_Check.j0 k l1 true a0_0 a0_1)) else (none)))) else (line_Check.j0 k l1 true a0_0 a0_1))
def line_Check.T2 : Bool × List (List Nat × List Nat) := (true, [([], []), ([0], [0]), ([1], [1]), ([2, 1], [2]), ([3], [3]), ([4, 3], [3, 4]), ([3, 5], [3, 5]), ([6, 3], [6]), ([7], [7]), ([8, 7], [7, 8]), ([7, 9], [7, 9]), ([10, 7], [10]), ([11], [11]), ([12, 11], [11, 12]), ([13, 11], [11, 13]), ([14, 11], [11, 14]), ([15, 11], [11, 15]), ([11], [11]), ([17, 11], [11, 17]), ([16, 18, 11], [11, 16, 18]), ([11, 19], [11, 19]), ([20, 11], [20]), ([21], [21]), ([21], [21]), ([23, 21], [21, 23]), ([22, 24, 21], [21, 22, 24]), ([25, 21], [21, 25]), ([26, 21], [21, 26]), ([27, 21], [21, 27]), ([21], [21]), ([29, 21], [21, 29]), ([28, 30, 21], [21, 28, 30]), ([21, 31], [21, 31])])
def line_Check.B2 : List Nat := [0, 1, 3, 7, 15, 31, 63, 127, 255, 511, 1023, 2047, 4095, 8191, 16383, 32767, 65535, 4095, 135167, 524287, 1048575, 2097151, 4194303, 4194303, 12582911, 33554431, 67108863, 134217727, 268435455, 4194303, 541065215, 2147483647, 4294967295]
theorem line_Check.tab2 : rtab .any (opsOf Try.f14 2) = line_Check.T2 := by kernel_rfl
theorem line_Check.bits2 : waitsOk line_Check.T2.2 line_Check.B2 = true := by kernel_rfl
def line_Check.T9 : Bool × List (List Nat × List Nat) := (true, [([], []), ([0], [0]), ([1], [1]), ([2], [2]), ([3, 2], [2, 3]), ([4, 2], [2, 4]), ([5, 2], [2, 5]), ([2], [2]), ([2], [2]), ([8, 2], [2, 8]), ([7, 9, 2], [2, 7, 9]), ([10, 2], [2, 10]), ([11, 2], [2, 11]), ([12, 2], [2, 12]), ([6, 13, 2], [2, 6, 13]), ([14, 2, 2], [2, 14]), ([15], [15]), ([16, 15], [15, 16]), ([15], [15]), ([15], [15]), ([19, 15], [15, 19]), ([18, 20, 15], [15, 18, 20]), ([21, 15], [15, 21]), ([22, 15], [15, 22]), ([17, 23, 15], [15, 17, 23]), ([15, 24, 2], [2, 15, 24]), ([2, 25], [2, 25]), ([26, 15], [26])])
def line_Check.B9 : List Nat := [0, 1, 3, 7, 15, 31, 63, 7, 7, 263, 903, 1927, 3975, 8071, 16383, 32767, 65535, 131071, 65535, 65535, 589823, 1900543, 3997695, 8191999, 16777215, 33554431, 67108863, 134217727]
theorem line_Check.tab9 : rtab .any (opsOf Try.f14 9) = line_Check.T9 := by kernel_rfl
theorem line_Check.bits9 : waitsOk line_Check.T9.2 line_Check.B9 = true := by kernel_rfl
end Go.Proofs.Ytoheongejamapaa.Q
end
