-- Merged and trimmed by this session's program wip/tools/trim.py.
import Derived.Test.YtkjjidanakmkeaaProg
import Derived.Below
import Derived.Deep.Draws
import Derived.Deep.AppendLies
import Derived.Maps.AppendAt
import Derived.OwnWalk
import Derived.Laws.BytesArg
import Derived.Laws.MakeOwn
import Derived.Laws.OwnMore
import Derived.Deep.OwnRows
import Derived.Tactics
import Derived.Lib.ConvBytes
import Derived.Laws.Slices
import Derived.WalkKit
import Derived.KernelRfl
import Derived.RowKit3
import Derived.Deep.LoopGhost
import Derived.Deep.QuietTactic
import Derived.BigQuiet
import Derived.WideLaws
import Derived.Deep.DeepCutAuto
import Derived.Deep.CutBlock
import Derived.Deep.RegionHeld3
import Derived.Laws.Rows
import Derived.Lib.AppendStr
import Derived.ArgAppend
import Derived.Laws.IdiomCopy
import Derived.OrdersHeld
import Derived.Laws.BitsLemmas
import Derived.RowKit
import Derived.Deep.RegionLaw
import Derived.Deep.RegionWith
import Derived.Laws.EntriesVeiled
import Derived.Shelf.RegionOpen
import Derived.Outline
import Derived.WalkSpells
import Derived.Shelf.SlSortCmp.WholeK
import Derived.Deep.Cut
import Derived.Shelf.Abstract
import Derived.RangeFuncNested
import Derived.RangeFuncBox
import Derived.RangeFuncLeaves
import Derived.RangeFuncFrom
import Derived.RangeFuncCalls
import Derived.RangeFuncBound
import Derived.OwnWalkIn
import Derived.TacticsInMore
import Derived.LoopNIn
import Derived.LoopIn
import Derived.Sort.QuietIn
import Derived.OrdersIn
import Derived.TacticsIn
import Derived.Test.YtkjjidanakmkeaaTIvlAll0
section
namespace Go.Proofs.Ytkjjidanakmkeaa.Q
open Go.RowKit Go.Proofs.YtkjjidanakmkeaaW.PrintWords Go.Proofs.YtkjjidanakmkeaaW.PrintLast Go.Proofs.YtkjjidanakmkeaaW.PrintMore
attribute [local go_sem] max2_int min2_int max_two min_two max_three min_three max_four min_four   -- for this text's walks alone
set_option linter.unusedVariables false
set_option linter.unusedSimpArgs false
def errW : Option Int → Value
  | none => .nilIface
  | some c => .iface 0 (.int .i64 c)
theorem errW_none : errW none = .nilIface := rfl
theorem errW_some (c : Int) : errW (some c) = .iface 0 (.int .i64 c) := rfl
theorem bw0 {P Q  : Prop} (q : Q) (h : Q → P := by intro q_; repeat (first | (with_reducible first | exact q_ | apply below_alloc | apply pw_below_drewN | apply below_drew1) | exact q_)) : P := h q
theorem bf0 {P Q  : Prop} (q : Q) (h : Q → P := by intro q_; (with_reducible repeat (first | refine blk_drewN ?_ _ | refine blk_drew ?_ | refine blk_alloc ?_ _)); exact q_) : P := h q
theorem bw1 {P Q G0 : Prop} (q : Q) (g0 : G0) (h : Q → G0 → P := by intro q_ g0_; repeat (first | (with_reducible first | exact q_ | apply below_alloc | apply pw_below_drewN | apply below_drew1 | refine below_set ?_ g0_) | exact q_)) : P := h q g0
theorem Bx0 {W W1 w : World} {g : Nat} {o : Obj} (q : Aside0 (W.heap[g]? = some o)) (hb : Below W1.heap.size W1 w) (h : W.heap[g]? = some o → W1.heap[g]? = some o := by intro q_; (with_reducible repeat (first | refine blk_drewN ?_ _ | refine blk_drew ?_ | refine blk_alloc ?_ _)); exact q_) : Aside0 (w.heap[g]? = some o) := ⟨blk_below (h q.out) hb⟩
theorem Bs0 {w W W1 w2 : World} (q : Aside0 (Below w.heap.size w W)) (hb : Below W1.heap.size W1 w2) (h : Below w.heap.size w W → Below w.heap.size w W1 := by intro q_; repeat (first | (with_reducible first | exact q_ | apply below_alloc | apply pw_below_drewN | apply below_drew1) | exact q_)) : Aside0 (Below w.heap.size w w2) := ⟨below_step (h q.out) hb⟩
theorem Gw0 {w W W1 : World} {g : Nat} (q : Aside0 (Below w.heap.size w W)) (hg : g = W1.heap.size) (h : Below w.heap.size w W → Below w.heap.size w W1 := by intro q_; repeat (first | (with_reducible first | exact q_ | apply below_alloc | apply pw_below_drewN | apply below_drew1) | exact q_)) : Aside0 (w.heap.size ≤ g) := ⟨by rw [hg]; exact below_size (h q.out)⟩
theorem Bs1 {w W W1 w2 : World} {G0 : Prop} (q : Aside0 (Below w.heap.size w W)) (hb : Below W1.heap.size W1 w2) (g0 : G0) (h : Below w.heap.size w W → G0 → Below w.heap.size w W1 := by intro q_ g0_; repeat (first | (with_reducible first | exact q_ | apply below_alloc | apply pw_below_drewN | apply below_drew1 | refine below_set ?_ g0_) | exact q_)) : Aside0 (Below w.heap.size w w2) := ⟨below_step (h q.out g0) hb⟩
theorem cl2 {W : World} {g : Nat} {t : TypeId} {x0 x1 : Value} (h : Aside0 (W.heap[g]? = some (.cells #[x0, x1] t (0, 0)))) : W.cell? ⟨g, 0, none⟩ = some x0 ∧ W.cell? ⟨g, 1, none⟩ = some x1 ∧ W.frozen? ⟨g, 0, none⟩ = false ∧ W.frozen? ⟨g, 1, none⟩ = false := ⟨(blk_cell h.out 0).trans rfl, (blk_cell h.out 1).trans rfl, blk_frozen h.out 0, blk_frozen h.out 1⟩
theorem cl10 {W : World} {g : Nat} {t : TypeId} {x0 x1 x2 x3 x4 x5 x6 x7 x8 x9 : Value} (h : Aside0 (W.heap[g]? = some (.cells #[x0, x1, x2, x3, x4, x5, x6, x7, x8, x9] t (0, 0)))) : W.cell? ⟨g, 0, none⟩ = some x0 ∧ W.cell? ⟨g, 1, none⟩ = some x1 ∧ W.cell? ⟨g, 2, none⟩ = some x2 ∧ W.cell? ⟨g, 3, none⟩ = some x3 ∧ W.cell? ⟨g, 4, none⟩ = some x4 ∧ W.cell? ⟨g, 5, none⟩ = some x5 ∧ W.cell? ⟨g, 6, none⟩ = some x6 ∧ W.cell? ⟨g, 7, none⟩ = some x7 ∧ W.cell? ⟨g, 8, none⟩ = some x8 ∧ W.cell? ⟨g, 9, none⟩ = some x9 ∧ W.frozen? ⟨g, 0, none⟩ = false ∧ W.frozen? ⟨g, 1, none⟩ = false ∧ W.frozen? ⟨g, 2, none⟩ = false ∧ W.frozen? ⟨g, 3, none⟩ = false ∧ W.frozen? ⟨g, 4, none⟩ = false ∧ W.frozen? ⟨g, 5, none⟩ = false ∧ W.frozen? ⟨g, 6, none⟩ = false ∧ W.frozen? ⟨g, 7, none⟩ = false ∧ W.frozen? ⟨g, 8, none⟩ = false ∧ W.frozen? ⟨g, 9, none⟩ = false := ⟨(blk_cell h.out 0).trans rfl, (blk_cell h.out 1).trans rfl, (blk_cell h.out 2).trans rfl, (blk_cell h.out 3).trans rfl, (blk_cell h.out 4).trans rfl, (blk_cell h.out 5).trans rfl, (blk_cell h.out 6).trans rfl, (blk_cell h.out 7).trans rfl, (blk_cell h.out 8).trans rfl, (blk_cell h.out 9).trans rfl, blk_frozen h.out 0, blk_frozen h.out 1, blk_frozen h.out 2, blk_frozen h.out 3, blk_frozen h.out 4, blk_frozen h.out 5, blk_frozen h.out 6, blk_frozen h.out 7, blk_frozen h.out 8, blk_frozen h.out 9⟩
theorem eS {P : Prop} (h : P := by first | rfl | (simp [errW_none, errW_some] <;> rfl) | (simp [*, errW_none, errW_some] <;> rfl)) : P := h
theorem Ax {p : Prop} (h : p) : Aside0 p := ⟨h⟩
abbrev tr : Bool := true
abbrev fa : Bool := false
theorem rS {P : Prop} (h : P := by first | rfl | (simp; done) | (simp [*]; done)) : P := h
theorem gS {P : Prop} (h : P := by (try simp only [List.map_toArray, List.map_cons, List.map_nil]); first | done | rfl | (simp only [List.length_drop, List.length_take]; rfl) | (simp only [Int.toNat_natCast, ByteArray.extract_zero_size]; rfl) | (simp only [Int.toNat_natCast, ByteArray.extract_zero_size]; done)) : P := h
theorem sP : (∀ (a : Act) (d : Tmp) (v : Value), Act.put a (some d) v = { a with tmps := a.tmps.setIfInBounds d v }) ∧ (∀ (a : Act) (v : Value), Act.put a none v = a) ∧ (∀ (l : List Value) (i : Nat) (a : Value), l.toArray.setIfInBounds i a = (l.set i a).toArray) ∧ (∀ (l : List Value) (x a : Value), (x :: l).set 0 a = a :: l) ∧ (∀ (l : List Value) (x a : Value) (n : Nat), (x :: l).set (n + 1) a = x :: l.set n a) ∧ (∀ n : Int, IntKind.i64.wrap n = Go.RowKit.wrap64 n) ∧ (∀ n : Int, IntKind.i32.wrap n = Go.RowKit.wrap32 n) := ⟨fun _ _ _ => rfl, fun _ _ => rfl, fun _ _ _ => List.setIfInBounds_toArray .., fun _ _ _ => rfl, fun _ _ _ _ => rfl, i64_w, i32_w⟩
theorem info2 : (Try.prog.info? 2).map (fun i => (i.zero, i.size, i.bytes)) = some (some (.int .i64 0), 1, 8) := by kernel_rfl
theorem info36 : (Try.prog.info? 36).map (fun i => (i.zero, i.size, i.bytes)) = some (some (.agg #[(.int .i64 0), (.int .i64 0)]), 2, 16) := by kernel_rfl
theorem info63 : (Try.prog.info? 63).map (fun i => (i.zero, i.size, i.bytes)) = some (some (.agg #[(.int .i64 0), (.int .i64 0)]), 2, 16) := by kernel_rfl
structure S36 where
  f0 : Int
  f1 : Int
def z36 : S36 := ⟨(0 : Int), (0 : Int)⟩
def k36 : Kd S36 := Kd.iso (Kd.pair (Kd.int .i64) (Kd.int .i64)) (fun x : S36 => (x.f0, x.f1))
theorem k36_open {w : World} {x : S36} {cs : List Value} (h : k36.K w x cs) : cs = [.int .i64 x.f0, .int .i64 x.f1] := by
  obtain ⟨_, _, rfl, rfl, rfl⟩ := h
  exact rfl
theorem k36_openM {w : World} {base : Nat} {ok : Nat → Prop} {x : S36} {cs : List Value} (h : k36.M w base ok x cs) : cs = [.int .i64 x.f0, .int .i64 x.f1] := by
  obtain ⟨_, _, rfl, rfl, rfl⟩ := h
  exact rfl
theorem k36_mk (w : World) (x : S36)  : k36.K w x [.int .i64 x.f0, .int .i64 x.f1] := ⟨[.int .i64 x.f0], [.int .i64 x.f1], rfl, rfl, rfl⟩
theorem k36_mkM (w : World) (base : Nat) (ok : Nat → Prop) (x : S36)  : k36.M w base ok x [.int .i64 x.f0, .int .i64 x.f1] := ⟨[.int .i64 x.f0], [.int .i64 x.f1], rfl, rfl, rfl⟩
def rd_T36 (xs : List S36) (i : Int) : S36 := xs.getD i.toNat z36
theorem at_T36 {w : World} {A : Option Addr} {n : Nat} {xs : List S36} (h : Kd.C k36 w A n xs) (i : Int) (h0 : 0 ≤ i) (h1 : i < n) : ∃ ad , A = some ad ∧ w.cell? (ad.add (i.toNat * 2)) = some (.int .i64 (rd_T36 xs i).f0) ∧ w.cell? ⟨(ad.add (i.toNat * 2)).block, (ad.add (i.toNat * 2)).off + 1, none⟩ = some (.int .i64 (rd_T36 xs i).f1) := by
  obtain ⟨ad, c, e, _, hK, hc0⟩ := Kd.C_get h z36 i h0 h1
  have hc : ∀ j u, c[j]? = some u → w.cell? (ad.add (i.toNat * 2 + j)) = some u := hc0
  obtain rfl := k36_open hK
  exact ⟨ad, e, hc 0 _ rfl, by rw [← add_field _ _ 1 (by omega)]; exact hc 1 _ rfl⟩
structure S63 where
  f0 : Int
  f1 : Int
def z63 : S63 := ⟨(0 : Int), (0 : Int)⟩
def k63 : Kd S63 := Kd.iso (Kd.pair (Kd.int .i64) (Kd.int .i64)) (fun x : S63 => (x.f0, x.f1))
theorem k63_open {w : World} {x : S63} {cs : List Value} (h : k63.K w x cs) : cs = [.int .i64 x.f0, .int .i64 x.f1] := by
  obtain ⟨_, _, rfl, rfl, rfl⟩ := h
  exact rfl
theorem k63_openM {w : World} {base : Nat} {ok : Nat → Prop} {x : S63} {cs : List Value} (h : k63.M w base ok x cs) : cs = [.int .i64 x.f0, .int .i64 x.f1] := by
  obtain ⟨_, _, rfl, rfl, rfl⟩ := h
  exact rfl
theorem k63_mkM (w : World) (base : Nat) (ok : Nat → Prop) (x : S63)  : k63.M w base ok x [.int .i64 x.f0, .int .i64 x.f1] := ⟨[.int .i64 x.f0], [.int .i64 x.f1], rfl, rfl, rfl⟩
def rd_T63 (xs : List S63) (i : Int) : S63 := xs.getD i.toNat z63
theorem at_T63 {w : World} {A : Option Addr} {n : Nat} {xs : List S63} (h : Kd.C k63 w A n xs) (i : Int) (h0 : 0 ≤ i) (h1 : i < n) : ∃ ad , A = some ad ∧ w.cell? (ad.add (i.toNat * 2)) = some (.int .i64 (rd_T63 xs i).f0) ∧ w.cell? ⟨(ad.add (i.toNat * 2)).block, (ad.add (i.toNat * 2)).off + 1, none⟩ = some (.int .i64 (rd_T63 xs i).f1) := by
  obtain ⟨ad, c, e, _, hK, hc0⟩ := Kd.C_get h z63 i h0 h1
  have hc : ∀ j u, c[j]? = some u → w.cell? (ad.add (i.toNat * 2 + j)) = some u := hc0
  obtain rfl := k63_open hK
  exact ⟨ad, e, hc 0 _ rfl, by rw [← add_field _ _ 1 (by omega)]; exact hc 1 _ rfl⟩
def rd_L3 (xs : List (List S36)) (i : Int) : (List S36) := xs.getD i.toNat ([] : List S36)
theorem at_L3 {w : World} {A : Option Addr} {n : Nat} {xs : List (List S36)} (h : Kd.C (Kd.slice 36 k36) w A n xs) (i : Int) (h0 : 0 ≤ i) (h1 : i < n) : ∃ ad A0 c0, A = some ad ∧ w.cell? (ad.add i.toNat) = some (.slice A0 (rd_L3 xs i).length c0) ∧ (rd_L3 xs i).length ≤ c0 ∧ k36.C w A0 (rd_L3 xs i).length (rd_L3 xs i) := by
  obtain ⟨ad, c, e, _, hK, hc0⟩ := Kd.C_get h ([] : List S36) i h0 h1
  have hc : ∀ j u, c[j]? = some u → w.cell? (ad.add (i.toNat * 1 + j)) = some u := hc0
  obtain ⟨A0, c0, rfl, l0, g0⟩ := hK
  exact ⟨ad, A0, c0, e, by have hq := hc 0 _ rfl; rwa [Nat.mul_one, Nat.add_zero] at hq, l0, g0⟩
end Go.Proofs.Ytkjjidanakmkeaa.Q
end
section
namespace Go.Proofs.Ytkjjidanakmkeaa.Q
open Go.RowKit Go.Proofs.YtkjjidanakmkeaaW.PrintWords Go.Proofs.YtkjjidanakmkeaaW.PrintLast Go.Proofs.YtkjjidanakmkeaaW.PrintMore
attribute [local go_sem] max2_int min2_int max_two min_two max_three min_three max_four min_four   -- for this text's walks alone
set_option linter.unusedVariables false
set_option linter.unusedSimpArgs false
def ivl_runs.l0 : Nat → List (S63) → List (S36) → Int → Int → Option ((List (S63)))
 | 0, _, _, _, _ => none
 | k + 1, x3, x9, x10, x11 => if x11 < x10 then (if 0 ≤ x11 then (if x11 < (x9.length : Int) then (if x11 < (x3.length : Int) then (ivl_runs.l0 k (x3.set (x11 : Int).toNat (⟨(rd_T36 x9 x11).f0, (rd_T36 x9 x11).f1⟩ : S63)) x9 x10 (wrap64 (x11 + 1))) else (none)) else (none)) else (none)) else (some x3)
def ivl_runs.f (k : Nat) (l0 : List (S36)) : Option ((List (S63))) := if 0 ≤ (l0.length : Int) then (if ((l0.length : Int) : Int).toNat ≤ 17592186044416 then (ivl_runs.l0 k (List.replicate ((l0.length : Int) : Int).toNat z63) l0 (l0.length : Int) 0) else (none)) else (none)
theorem ivl_runs.mono_l : ∀ k, (∀ y0 y1 y2 y3, LeO (ivl_runs.l0 k y0 y1 y2 y3) (ivl_runs.l0 (k + 1) y0 y1 y2 y3))
 | 0 => fun _ _ _ _ r h => by simp [ivl_runs.l0] at h
 | k + 1 => by
  have ih0 := ivl_runs.mono_l k
  ·intro y0 y1 y2 y3
   unfold ivl_runs.l0
   repeat' first
   | (with_reducible exact ih0 _ _ _ _)
   | (with_reducible exact LeO.refl _)
   | (with_reducible exact LeO.none _)
   | (with_reducible refine LeO.ite ?_ ?_)
   | (with_reducible refine LeO.bind ?_ (fun _ => ?_))
   | exact ih0 _ _ _ _
   | exact LeO.none _
   | refine LeO.ite ?_ ?_
   | refine LeO.bind ?_ (fun _ => ?_)
theorem ivl_runs.mono : ∀ a0 k, LeO (ivl_runs.f k a0) (ivl_runs.f (k + 1) a0) := by
 intro a0 k
 have ih0 := ivl_runs.mono_l k
 unfold ivl_runs.f
 repeat' first
   | (with_reducible exact ih0 _ _ _ _)
   | (with_reducible exact LeO.refl _)
   | (with_reducible exact LeO.none _)
   | (with_reducible refine LeO.ite ?_ ?_)
   | (with_reducible refine LeO.bind ?_ (fun _ => ?_))
   | exact ih0 _ _ _ _
   | exact LeO.none _
   | refine LeO.ite ?_ ?_
   | refine LeO.bind ?_ (fun _ => ?_)
set_option maxHeartbeats 8000000 in
set_option maxRecDepth 100000 in
theorem ivl_runs.calls (k : Nat) (A0 : Option Addr) (c0 : Nat) (l0 : List (S36)) (r : List (S63)) (w : World) (hr0 : Kd.C k36 w A0 l0.length l0) (hc0 : l0.length ≤ c0) (h : ivl_runs.f k l0 = some r) :
  Calls Try.prog 31 #[.slice A0 l0.length c0] w fun e w' => ∃ v0_ : Value, e = .returned (v0_) ∧ Kd.R k63 63 w' w.heap.size (fun _ => True) v0_ r ∧ Below w.heap.size w w' := by
 have hu36 := Try.underlying36
 have hu63 := Try.underlying63
 have HR0 := Ax hr0
 have HC0 := Ax hc0
 clear hr0 hc0
 have HB := Ax (Below.refl w.heap.size w)
 have H : (if 0 ≤ (l0.length : Int) then (if ((l0.length : Int) : Int).toNat ≤ 17592186044416 then (ivl_runs.l0 k (List.replicate ((l0.length : Int) : Int).toNat z63) l0 (l0.length : Int) 0) else (none)) else (none)) = some r := h
 clear h
 by_cases c2 : 0 ≤ (l0.length : Int)
 ·rw [if_pos c2] at H
  have c2b0 := eq_true c2
  have c2b1 : decide (0 ≤ (l0.length : Int)) = true := decide_eq_true c2
  clear c2
  by_cases c3 : ((l0.length : Int) : Int).toNat ≤ 17592186044416
  ·rw [if_pos c3] at H
   have c3b0 := eq_true c3
   have c3b1 : decide (((l0.length : Int) : Int).toNat ≤ 17592186044416) = true := decide_eq_true c3
   clear c3
   obtain ⟨y103, hy103⟩ : ∃ y_ : List (S63), y_ = (List.replicate ((l0.length : Int) : Int).toNat z63) := ⟨_, rfl⟩
   replace H : (ivl_runs.l0 k y103 l0 (l0.length : Int) 0) = some r := by first | (rw [hy103]; with_reducible exact H) | (have H2_ := (Option.bind_some _ _).symm.trans H; rw [hy103]; with_reducible exact H2_) | (have H2_ := (Option.bind_some _ _).symm.trans H; with_reducible exact H2_) | with_reducible exact H | (rw [hy103]; exact H) | exact H
   have Ny103 := Ax hy103
   clear hy103
   have H' := Ax H
   clear H
   go_enter Try.func31, Try.ntmps31
   go_wp2_with (first | ((with_reducible refine gate_dst (N := 8) rfl ?_); refine Kd.R_make k63 _ 63 rfl (N := 8) rfl 46 _ _ rfl (l0.length : Int) rfl rfl Try.underlying46 (.agg #[(.int .i64 0), (.int .i64 0)]) 16 info63 rfl (by decide) (by omega) z63 (ok := fun _ => True) (okp := fun _ => True) (k63_mkM _ _ _ z63 ) (fun _ hk => hk) trivial (of_decide_eq_true (by first | (with_reducible assumption) | assumption)) (Nat.le_trans (Nat.mul_le_mul_right _ (of_decide_eq_true (by first | (with_reducible assumption) | assumption) : (l0.length : Int).toNat ≤ 17592186044416)) (by omega)) (Below.refl _ _) (Nat.le_refl _) ?_; intro v104 w4 ho5 hb hg_ hnew_; clear hg_ hnew_; (first | rw [← Ny103.out] at ho5 | (simp only [Int.reduceToNat] at ho5; rw [← Ny103.out] at ho5)); have HO105 := Ax (Kd.R_lower ho5 (below_size (bw0 HB.out))); replace HB := Bs0 HB hb; clear hb ho5))
   go_loopg [11] k (fun kq v11 w' => ∃ (x3_1 : List (S63)) (x11_1 : Int), v11 = .int .i64 x11_1 ∧ Aside0 (ivl_runs.l0 kq x3_1 l0 (l0.length : Int) x11_1 = some r) ∧ Aside0 (kq ≤ k) ∧ Aside0 (Kd.R k63 63 w' w.heap.size (fun _ => True) v104 x3_1) ∧ Aside0 (Below w.heap.size w w'))
   case atStart => exact ⟨(y103), (0), rS, H', ⟨Nat.le_refl _⟩, ⟨by (with_reducible repeat (first | apply Kd.R_alloc | apply Kd.R_drewN | apply Kd.R_drew)); exact HO105.out⟩, ⟨bw0 HB.out⟩⟩
   case round =>
    clear H'
    try clear c2
    try clear c2b0
    try clear c2b1
    try clear p2
    try clear c3
    try clear c3b0
    try clear c3b1
    obtain ⟨x3_1, x11_1, rfl, HA, HK1, HO_3, HB⟩ := hrel
    cases gk with
    | zero => exact absurd HA.out (by simp [ivl_runs.l0])
    | succ k1 =>
     have H := HA.out
     clear HA
     simp only [ivl_runs.l0] at H
     by_cases c6 : x11_1 < (l0.length : Int)
     ·rw [if_pos c6] at H
      have c6b0 : decide (x11_1 < (l0.length : Int)) = true := decide_eq_true c6
      clear c6
      by_cases c7 : 0 ≤ x11_1
      ·rw [if_pos c7] at H
       have c7b0 : decide (0 ≤ x11_1) = true := decide_eq_true c7
       clear c7
       by_cases c8 : x11_1 < (l0.length : Int)
       ·rw [if_pos c8] at H
        have c8b0 : decide (x11_1 < (l0.length : Int)) = true := decide_eq_true c8
        clear c8
        by_cases c9 : x11_1 < (x3_1.length : Int)
        ·rw [if_pos c9] at H
         have c9b0 : decide (x11_1 < (x3_1.length : Int)) = true := decide_eq_true c9
         clear c9
         obtain ⟨y108, hy108⟩ : ∃ y_ : List (S63), y_ = (x3_1.set (x11_1 : Int).toNat (⟨(rd_T36 l0 x11_1).f0, (rd_T36 l0 x11_1).f1⟩ : S63)) := ⟨_, rfl⟩
         replace H : (ivl_runs.l0 k1 y108 l0 (l0.length : Int) (wrap64 (x11_1 + 1))) = some r := by first | (rw [hy108]; with_reducible exact H) | (have H2_ := (Option.bind_some _ _).symm.trans H; rw [hy108]; with_reducible exact H2_) | (have H2_ := (Option.bind_some _ _).symm.trans H; with_reducible exact H2_) | with_reducible exact H | (rw [hy108]; exact H) | exact H
         have Ny108 := Ax hy108
         clear hy108
         have H' := Ax H
         clear H
         have p106 : 0 ≤ (x11_1 : Int) := of_decide_eq_true (by first | (with_reducible assumption) | assumption)
         have q106 : x11_1 < (l0.length : Int) := of_decide_eq_true (by first | (with_reducible assumption) | assumption)
         obtain ⟨ad106, e106, hx106_0, hx106_1⟩ := at_T36 HR0.out x11_1 p106 q106
         cases e106
         replace hx106_0 := (HB.out.cell (World.block_lt_of_cell? w _ hx106_0)).trans hx106_0
         replace hx106_1 := (HB.out.cell (World.block_lt_of_cell? w _ hx106_1)).trans hx106_1
         replace p106 := eq_true p106
         replace q106 := eq_true q106
         go_wp2_with (first | ((with_reducible refine gate_dst (N := 5) rfl ?_); refine box_event ?hg (N := 5) ?hd (cs := #[.int .i64 0, .int .i64 0]) (t := 36) ?hr ?_; (case hd => rfl); (case hg => rfl); (case hr => first | (go_simp; done) | (go_simp; rfl)); intro gb107 hg w11 hbox hb; have n0_ := Ax (Kd.R_below (by (with_reducible repeat (first | apply Kd.R_alloc | apply Kd.R_drewN | apply Kd.R_drew)); exact HO_3.out) hb); have n1_ := Bs0 HB hb; have n2_ := Ax (hbox); have n3_ := Gw0 HB hg; have n4_ := Gw0 HB hg; clear HO_3; clear HB; have HO_3 := n0_; have HB := n1_; have BK107 := n2_; have GW107 := n3_; have GE107 := n4_; clear n0_ n1_ n2_ n3_ n4_; clear hb hbox hg; obtain ⟨hcz12_0, hcz12_1, hfz12_0, hfz12_1⟩ := cl2 BK107) | ((with_reducible refine gate_store (t := 36) (p := 5) rfl ?_); refine store_event (t := 36) (p := 5) (v := ?vo_w13) (w1 := ((w11.setCell ⟨gb107, 0, none⟩ (.int .i64 ((rd_T36 l0 x11_1).f0))).setCell ⟨gb107, 1, none⟩ (.int .i64 ((rd_T36 l0 x11_1).f1)))) ?hg ?ho ?hn ?hr ?_; (case ho => rfl); (case hg => rfl); (case hn => rfl); (case hr => first | (go_simp; done) | (go_simp; rfl)); intro w13 hw; have n0_ : Aside0 (Kd.R k63 63 w13 w.heap.size (fun _ => True) v104 x3_1) := ⟨(by rw [hw]; exact (by (with_reducible repeat (first | apply Kd.R_alloc | apply Kd.R_drewN | apply Kd.R_drew)); exact Kd.R_mono (Kd.R_far (p := ⟨gb107, 1, none⟩) (Kd.R_far (p := ⟨gb107, 0, none⟩) (Kd.R_types HO_3.out BK107.out (by decide)) (fun _ hk => hk.2) (.int .i64 ((rd_T36 l0 x11_1).f0))) (fun _ hk => hk.2) (.int .i64 ((rd_T36 l0 x11_1).f1))) (fun _ hk => trivial)))⟩; have n1_ : Aside0 (w13.heap[gb107]? = some (.cells #[.int .i64 ((rd_T36 l0 x11_1).f0), .int .i64 ((rd_T36 l0 x11_1).f1)] 36 (0, 0))) := ⟨(by rw [hw]; exact (by (with_reducible repeat (first | refine blk_drewN ?_ _ | refine blk_drew ?_ | refine blk_alloc ?_ _)); refine blk_put (cs := #[.int .i64 ((rd_T36 l0 x11_1).f0), .int .i64 0]) ?_ 1 _ rfl; (with_reducible repeat (first | refine blk_drewN ?_ _ | refine blk_drew ?_ | refine blk_alloc ?_ _)); refine blk_put (cs := #[.int .i64 0, .int .i64 0]) ?_ 0 _ rfl; (with_reducible repeat (first | refine blk_drewN ?_ _ | refine blk_drew ?_ | refine blk_alloc ?_ _)); exact BK107.out))⟩; have n2_ : Aside0 (Below w.heap.size w w13) := ⟨(by rw [hw]; exact (bw1 HB.out GE107.out))⟩; clear hw; clear HO_3; clear BK107; clear HB; have HO_3 := n0_; have BK107 := n1_; have HB := n2_; clear n0_ n1_ n2_; obtain ⟨hcz14_0, hcz14_1, hfz14_0, hfz14_1⟩ := cl2 BK107; have p10 : 0 ≤ (x11_1 : Int) := of_decide_eq_true (by first | (with_reducible assumption) | assumption); have q10 : (x11_1 : Int) < ((x3_1.length : Int) : Int) := of_decide_eq_true (by first | (with_reducible assumption) | assumption); obtain ⟨go10, co10, eo10, gb10, gl10, cl10, HG10⟩ := Kd.R_form HO_3.out (by omega); (first | cases eo10 | (injection eo10 with ea_ en_ ec_; (first | subst ea_ | (injection ea_ with ea_; subst ea_)); subst ec_; clear en_)); have GB10 := Ax gb10; have GG10 := Ax HG10; clear gb10 gl10 HG10; obtain ⟨ce10, hcl10, hM10, hcc10, hfr10⟩ := Kd.R_elem HO_3.out z63 (x11_1 : Int) p10 q10; obtain rfl := k63_openM hM10; have hx10_0 : w13.cell? ⟨go10, (x11_1 : Int).toNat * 2, none⟩ = some (.int .i64 ((rd_T63 x3_1 x11_1).f0)) := hcc10 0 _ rfl; have hx10_1 : w13.cell? ⟨go10, (x11_1 : Int).toNat * 2 + 1, none⟩ = some (.int .i64 ((rd_T63 x3_1 x11_1).f1)) := hcc10 1 _ rfl; have hf10_0 : w13.frozen? ⟨go10, (x11_1 : Int).toNat * 2, none⟩ = false := hfr10 0; have hf10_1 : w13.frozen? ⟨go10, (x11_1 : Int).toNat * 2 + 1, none⟩ = false := hfr10 1; clear hcl10 hcc10 hfr10 hM10; replace p10 := eq_true p10; replace q10 := eq_true q10; have HX15 := Ax (show Kd.R k63 63 w13 w.heap.size (fun _ => True) (.slice (some ⟨go10, 0, none⟩) x3_1.length co10) x3_1 from (by (with_reducible repeat (first | apply Kd.R_alloc | apply Kd.R_drewN | apply Kd.R_drew)); exact HO_3.out)); obtain ⟨ce15, hcl15, hM15, hcc15, hfr15⟩ := Kd.R_elem HX15.out z63 (x11_1 : Int) (of_decide_eq_true (by first | (with_reducible assumption) | assumption)) (by have h_ : (x11_1 : Int) < ((x3_1.length : Int) : Int) := of_decide_eq_true (by first | (with_reducible assumption) | assumption); first | exact h_ | (have e_ := (Kd.R_reads' HO_3.out).1; omega) | simpa using h_); obtain rfl := k63_openM hM15; have HP15 := Kd.R_seg HX15.out (x11_1 : Int) (of_decide_eq_true (by first | (with_reducible assumption) | assumption)) (by have h_ : (x11_1 : Int) < ((x3_1.length : Int) : Int) := of_decide_eq_true (by first | (with_reducible assumption) | assumption); first | exact h_ | (have e_ := (Kd.R_reads' HO_3.out).1; omega) | simpa using h_) (seg := [.int .i64 ((rd_T36 l0 x11_1).f0), .int .i64 ((rd_T36 l0 x11_1).f1)]) (j := 0) hcl15 hcc15 (show 2 ≤ 2 from by decide) (x' := (⟨(rd_T36 l0 x11_1).f0, (rd_T36 l0 x11_1).f1⟩ : S63)) (k63_mkM _ _ _ (⟨(rd_T36 l0 x11_1).f0, (rd_T36 l0 x11_1).f1⟩ : S63) ) (fun _ hk => hk); have hx15_0 := hcc15 0 _ rfl; (try simp only [show (k63).sz = 2 from rfl, Nat.mul_one, Nat.add_zero] at hx15_0); have hf15_0 := hfr15 0; (try simp only [show (k63).sz = 2 from rfl, Nat.mul_one, Nat.add_zero] at hf15_0); have hx15_1 := hcc15 1 _ rfl; (try simp only [show (k63).sz = 2 from rfl, Nat.mul_one, Nat.add_zero] at hx15_1); have hf15_1 := hfr15 1; (try simp only [show (k63).sz = 2 from rfl, Nat.mul_one, Nat.add_zero] at hf15_1); clear hcl15 hcc15 hfr15 hM15) | ((with_reducible refine gate_store (t := 63) (p := 19) rfl ?_); refine store_event (t := 63) (p := 19) (v := ?vo_w16) (w1 := ((w13.setCell ⟨go10, (x11_1 : Int).toNat * 2, none⟩ (.int .i64 ((rd_T36 l0 x11_1).f0))).setCell ⟨go10, (x11_1 : Int).toNat * 2 + 1, none⟩ (.int .i64 ((rd_T36 l0 x11_1).f1)))) ?hg ?ho ?hn ?hr ?_; (case ho => rfl); (case hg => rfl); (case hn => rfl); (case hr => first | (go_simp; done) | (go_simp; rfl)); intro w16 hw; have hg : w13.grownBy w16 (some go10) := (by rw [hw]; exact HP15.2); have hp_ : Kd.R k63 63 w16 w.heap.size (fun _ => True) (.slice (some ⟨go10, 0, none⟩) x3_1.length co10) y108 := (by rw [hw, Ny108.out]; exact HP15.1); clear HP15; have n0_ := Ax (hp_); have n1_ := Ax (blk_grown (g := gb107) (o := .cells #[.int .i64 ((rd_T36 l0 x11_1).f0), .int .i64 ((rd_T36 l0 x11_1).f1)] 36 (0, 0)) (bf0 BK107.out) hg (Kd.R_ne HO_3.out BK107.out (by decide))); have n2_ := Ax ((by rw [hw]; exact below_set (below_set (HB.out) GB10.out) GB10.out : Below w.heap.size w w16)); clear HO_3; clear BK107; clear HB; have HO_3 := n0_; have BK107 := n1_; have HB := n2_; clear n0_ n1_ n2_; clear hg hw hp_))
         go_roundg k1
         case measure => have := HK1.out; omega
         case rel => exact ⟨(y108), (wrap64 (x11_1 + 1)), rS, H', ⟨by have := HK1.out; omega⟩, ⟨by (with_reducible repeat (first | apply Kd.R_alloc | apply Kd.R_drewN | apply Kd.R_drew)); exact HO_3.out⟩, ⟨bw1 HB.out GE107.out⟩⟩
        ·rw [if_neg c9] at H
         exact absurd H (by simp)
       ·rw [if_neg c8] at H
        exact absurd H (by simp)
      ·rw [if_neg c7] at H
       exact absurd H (by simp)
     ·rw [if_neg c6] at H
      have c6b0 : decide (x11_1 < (l0.length : Int)) = false := decide_eq_false c6
      clear c6
      obtain rfl := Option.some.inj H
      go_wp2
      go_ret
      exact ⟨_, eS, by (with_reducible repeat (first | apply Kd.R_alloc | apply Kd.R_drewN | apply Kd.R_drew)); exact HO_3.out, bw0 HB.out⟩
  ·rw [if_neg c3] at H
   exact absurd H (by simp)
 ·rw [if_neg c2] at H
  exact absurd H (by simp)
def cmpI (a b : Int) : Int := if a < b then -1 else if b < a then 1 else 0
theorem cmpI_gt (a b : Int) : decide (0 < cmpI a b) = decide (b < a) := by unfold cmpI; (repeat' split) <;> simp <;> omega
theorem cmpI_ge (a b : Int) : decide (0 ≤ cmpI a b) = decide (b ≤ a) := by unfold cmpI; (repeat' split) <;> simp <;> omega
theorem isnan_is (a : Int) (w : World) : Calls Try.prog 52 #[.int .i64 a] w fun e w' => e = .returned (.bool false) ∧ w' = w := by
  go_enter Try.func52, Try.ntmps52
  go_wp2
  repeat (go_quiet (fail); try go_wp2)
  go_ret
  exact ⟨rfl, rfl⟩
theorem cmp_is (a b : Int) (w : World) : Calls Try.prog 43 #[.int .i64 a, .int .i64 b] w fun e w' => e = .returned (.int .i64 (cmpI a b)) ∧ w' = w := by
  unfold cmpI
  by_cases h : a < b
  · have hd : decide (a < b) = true := decide_eq_true h
    rw [if_pos h]
    clear h
    go_enter Try.func43, Try.ntmps43
    go_wp2_with (go_at_call 52; refine (isnan_is _ _).mono ?_; rintro e w' ⟨rfl, rfl⟩)
    go_ret
    exact ⟨rfl, rfl⟩
  · have hd : decide (a < b) = false := decide_eq_false h
    rw [if_neg h]
    clear h
    by_cases h : b < a
    · have hd2 : decide (b < a) = true := decide_eq_true h
      rw [if_pos h]
      clear h
      go_enter Try.func43, Try.ntmps43
      go_wp2_with (go_at_call 52; refine (isnan_is _ _).mono ?_; rintro e w' ⟨rfl, rfl⟩)
      go_ret
      exact ⟨rfl, rfl⟩
    · have hd2 : decide (b < a) = false := decide_eq_false h
      rw [if_neg h]
      clear h
      go_enter Try.func43, Try.ntmps43
      go_wp2_with (go_at_call 52; refine (isnan_is _ _).mono ?_; rintro e w' ⟨rfl, rfl⟩)
      go_ret
      exact ⟨rfl, rfl⟩
theorem next_is (a : Int) (h0 : 0 ≤ a + 1) (h1 : a + 1 ≤ 9223372036854775807) (w : World) : Calls Try.prog 44 #[.int .i64 a] w fun e w' => e = .returned (.int .i64 (a + 1)) ∧ w' = w := by
  go_enter Try.func44, Try.ntmps44
  go_wp2
  go_ret
  exact ⟨rfl, rfl⟩
def fieldT : Value := .agg #[.int .i64 0, .int .i64 1099511627776, .func (.func 43) #[] #[], .func (.func 44) #[] #[], .func (.func 45) #[] #[]]
theorem times_is (w : World) : Calls Try.prog 29 #[] w fun e w' => e = .returned fieldT ∧ Below w.heap.size w w' := by
  go_enter Try.func29, Try.ntmps29
  go_wp2
  refine bodyPost_ret (results_cell_row rfl _ _ w.heap.size 50 #[.int .i64 0, .int .i64 1099511627776, .func (.func 43) #[] #[], .func (.func 44) #[] #[], .func (.func 45) #[] #[]] (0, 0) _ rfl (heap_alloc_new _ _) Try.underlying50 rfl (by kernel_rfl)) rfl ?_
  exact ⟨rfl, below_alloc (Below.refl _ _) _⟩
theorem cell_alloc_ {W : World} {a : Addr} {v : Value} (o : Obj) (h : W.cell? a = some v) : (W.alloc o).cell? a = some v := (World.grownBy_alloc W o none).cell h (by simp)
def soundL : Option Int → List S63 → Bool
  | _, [] => true
  | p, x :: xs => if x.f0 < 0 ∨ x.f1 < x.f0 ∨ 1099511627776 < x.f1 then false else
    match p with
    | none => soundL (some x.f1) xs
    | some t => if t = 1099511627776 ∨ x.f0 ≤ t + 1 then false else soundL (some x.f1) xs
set_option maxRecDepth 100000 in
set_option maxHeartbeats 4000000 in
theorem sound_is (A1 : Option Addr) (c1 : Nat) (l1 : List S63) (r : Bool) (h : soundL none l1 = r) (w : World) (hr1 : Kd.C k63 w A1 l1.length l1) (hc1 : l1.length ≤ c1) :
    Calls Try.prog 36 #[fieldT, .slice A1 l1.length c1] w fun e w' => e = .returned (.bool r) ∧ Below w.heap.size w w' := by
  have HR1 := Aside0.mk hr1
  have HC1 := Aside0.mk hc1
  have HM := Aside0.mk (Kd.C_max hr1)
  have H0 := Aside0.mk h
  clear hr1 hc1 h
  unfold fieldT
  go_enter Try.func36, Try.ntmps36
  go_wp2
  have BF0 := Aside0.mk (heap_alloc_new w (.cells #[.int .i64 0, .int .i64 1099511627776, .func (.func 43) #[] #[], .func (.func 44) #[] #[], .func (.func 45) #[] #[]] 50))
  have hb0 := Aside0.mk (below_alloc (Below.refl w.heap.size w) (.cells #[.int .i64 0, .int .i64 1099511627776, .func (.func 43) #[] #[], .func (.func 44) #[] #[], .func (.func 45) #[] #[]] 50))
  generalize hw1 : w.alloc (.cells #[.int .i64 0, .int .i64 1099511627776, .func (.func 43) #[] #[], .func (.func 44) #[] #[], .func (.func 45) #[] #[]] 50) = w1 at BF0 hb0 ⊢
  clear hw1
  go_loopg [9] l1.length (fun kq v9 w' => ∃ (i : Nat) (p : Option Int), v9 = .int .i64 (i : Int) ∧ Aside0 (i ≤ l1.length ∧ kq = l1.length - i) ∧ Aside0 (soundL p (l1.drop i) = r) ∧ Aside0 (p = if 0 < i then some (rd_T63 l1 ((i - 1 : Nat) : Int)).f1 else none) ∧ Aside0 (∀ t, p = some t → 0 ≤ t ∧ t ≤ 1099511627776) ∧ Aside0 (w'.heap[w.heap.size]? = some (.cells #[.int .i64 0, .int .i64 1099511627776, .func (.func 43) #[] #[], .func (.func 44) #[] #[], .func (.func 45) #[] #[]] 50 (0, 0))) ∧ Aside0 (Below w.heap.size w w'))
  case atStart => exact ⟨0, none, rfl, ⟨Nat.zero_le _, rfl⟩, H0, ⟨rfl⟩, ⟨fun _ h => by cases h⟩, BF0, hb0⟩
  case round =>
    clear BF0 hb0 H0
    obtain ⟨i, p, rfl, HI, HA, HP, HPB, BF, Hb⟩ := hrel
    have hm := HM.out
    by_cases hi : i < l1.length
    · have hd : decide ((i : Int) < (l1.length : Int)) = true := decide_eq_true (by omega)
      have hdn : decide (i < l1.length) = true := decide_eq_true hi
      have hrd : l1.drop i = rd_T63 l1 (i : Int) :: l1.drop (i + 1) := by
        rw [List.drop_eq_getElem_cons hi]
        simp [rd_T63, List.getD_eq_getElem?_getD, hi]
      have ha0 := HA.out
      rw [hrd] at ha0
      have p0 : (0 : Int) ≤ (i : Int) := by omega
      have q0 : (i : Int) < (l1.length : Int) := by omega
      have HC := Aside0.mk (Kd.C_below HR1.out Hb.out)
      obtain ⟨ad, ead, hx0, hx1⟩ := at_T63 HC.out (i : Int) p0 q0
      cases ead
      simp only [Int.toNat_natCast] at hx0 hx1
      obtain ⟨x, hx⟩ : ∃ x, rd_T63 l1 (i : Int) = x := ⟨_, rfl⟩
      have HX := Aside0.mk hx
      rw [hx] at hx0 hx1 ha0
      have HA2 := Aside0.mk ha0
      clear hx ha0 hrd HA
      replace p0 := eq_true p0
      replace q0 := eq_true q0
      have HII := Aside0.mk hi
      have e1 : decide (0 < cmpI 0 x.f0) = decide (x.f0 < 0) := cmpI_gt _ _
      have hg0 : (wr.alloc (.cells #[.int .i64 x.f0, .int .i64 x.f1] 63)).cell? ⟨w.heap.size, 0, none⟩ = some (.int .i64 0) := (blk_cell (blk_alloc BF.out _) 0).trans rfl
      have hg1 : (wr.alloc (.cells #[.int .i64 x.f0, .int .i64 x.f1] 63)).cell? ⟨w.heap.size, 1, none⟩ = some (.int .i64 1099511627776) := (blk_cell (blk_alloc BF.out _) 1).trans rfl
      have hg2 : (wr.alloc (.cells #[.int .i64 x.f0, .int .i64 x.f1] 63)).cell? ⟨w.heap.size, 2, none⟩ = some (.func (.func 43) #[] #[]) := (blk_cell (blk_alloc BF.out _) 2).trans rfl
      have hg3 : (wr.alloc (.cells #[.int .i64 x.f0, .int .i64 x.f1] 63)).cell? ⟨w.heap.size, 3, none⟩ = some (.func (.func 44) #[] #[]) := (blk_cell (blk_alloc BF.out _) 3).trans rfl
      have ha := HA2.out
      simp only [soundL] at ha
      have e2 : decide (0 < cmpI x.f0 x.f1) = decide (x.f1 < x.f0) := cmpI_gt _ _
      have e3 : decide (0 < cmpI x.f1 1099511627776) = decide (1099511627776 < x.f1) := cmpI_gt _ _
      by_cases c1 : x.f0 < 0
      · have d1 : decide (x.f0 < 0) = true := decide_eq_true c1
        rw [if_pos (.inl c1)] at ha
        clear HA2
        subst ha
        go_wp2_with (first | (go_at_call 43; refine (cmp_is _ _ _).mono ?_; rintro e w' ⟨rfl, rfl⟩))
        go_ret
        exact ⟨rfl, below_alloc Hb.out _⟩
      have d1 : decide (x.f0 < 0) = false := decide_eq_false c1
      by_cases c2 : x.f1 < x.f0
      · have d2 : decide (x.f1 < x.f0) = true := decide_eq_true c2
        rw [if_pos (.inr (.inl c2))] at ha
        clear HA2
        subst ha
        go_wp2_with (first | (go_at_call 43; refine (cmp_is _ _ _).mono ?_; rintro e w' ⟨rfl, rfl⟩))
        go_ret
        exact ⟨rfl, below_alloc Hb.out _⟩
      have d2 : decide (x.f1 < x.f0) = false := decide_eq_false c2
      by_cases c3 : 1099511627776 < x.f1
      · have d3 : decide (1099511627776 < x.f1) = true := decide_eq_true c3
        rw [if_pos (.inr (.inr c3))] at ha
        clear HA2
        subst ha
        go_wp2_with (first | (go_at_call 43; refine (cmp_is _ _ _).mono ?_; rintro e w' ⟨rfl, rfl⟩))
        go_ret
        exact ⟨rfl, below_alloc Hb.out _⟩
      have d3 : decide (1099511627776 < x.f1) = false := decide_eq_false c3
      rw [if_neg (by omega)] at ha
      have HA3 := Aside0.mk ha
      have HX01 := Aside0.mk (show 0 ≤ x.f1 ∧ x.f1 ≤ 1099511627776 by omega)
      clear ha HA2
      by_cases ci : 0 < i
      · obtain ⟨t, ht⟩ : ∃ t, rd_T63 l1 ((i - 1 : Nat) : Int) = t := ⟨_, rfl⟩
        obtain ⟨ad', ead', hy0, hy1⟩ := at_T63 HC.out ((i - 1 : Nat) : Int) (by omega) (by omega)
        cases ead'
        simp only [Int.toNat_natCast] at hy0 hy1
        rw [ht] at hy0 hy1
        have hp := HP.out
        rw [if_pos ci, ht] at hp
        subst hp
        have hb := HPB.out t.f1 rfl
        have ha := HA3.out
        simp only at ha
        have di : decide (0 < (i : Int)) = true := decide_eq_true (by omega)
        have din : decide (0 < i) = true := decide_eq_true ci
        have wi : IntKind.i64.wrap ((i : Int) - 1) = (i : Int) - 1 := by rw [i64_w]; unfold wrap64; omega
        have ti : ((i : Int) - 1).toNat = i - 1 := by omega
        have pi0 : (0 ≤ (i : Int) - 1) = True := eq_true (by omega)
        have qi0 : ((i : Int) - 1 < (l1.length : Int)) = True := eq_true (by omega)
        have e4 : decide (0 ≤ cmpI (t.f1 + 1) x.f0) = decide (x.f0 ≤ t.f1 + 1) := cmpI_ge _ _
        have hz0 : (wr.alloc (.cells #[.int .i64 x.f0, .int .i64 x.f1] 63)).cell? (ad.add ((i - 1) * 2)) = some (.int .i64 t.f0) := cell_alloc_ _ hy0
        have hz1 : (wr.alloc (.cells #[.int .i64 x.f0, .int .i64 x.f1] 63)).cell? ⟨(ad.add ((i - 1) * 2)).block, (ad.add ((i - 1) * 2)).off + 1, none⟩ = some (.int .i64 t.f1) := cell_alloc_ _ hy1
        have Hb2 := below_alloc Hb.out (.cells #[.int .i64 x.f0, .int .i64 x.f1] 63)
        have BF2 := blk_alloc BF.out (.cells #[.int .i64 x.f0, .int .i64 x.f1] 63)
        have HB2 := Aside0.mk Hb2
        have BF2' := Aside0.mk BF2
        clear hy0 hy1 Hb2 BF2
        by_cases c4 : t.f1 = 1099511627776
        · have d4 : (t.f1 == 1099511627776) = true := beq_iff_eq.mpr c4
          rw [if_pos (.inl c4)] at ha
          subst ha
          clear HA3
          go_wp2_with (first | (go_at_call 43; refine (cmp_is _ _ _).mono ?_; rintro e w' ⟨rfl, rfl⟩))
          go_quiet ((first | (go_at_call 43; exact Calls.quiet_of_same (cmp_is _ _ _)) | (go_at_call 44; exact Calls.quiet_of_same (next_is _ (by omega) (by omega) _))))
          go_wp2
          go_ret
          exact ⟨rfl, pw_below_drewN HB2.out _⟩
        · have d4 : (t.f1 == 1099511627776) = false := beq_eq_false_iff_ne.mpr c4
          by_cases c5 : x.f0 ≤ t.f1 + 1
          · have d5 : decide (x.f0 ≤ t.f1 + 1) = true := decide_eq_true c5
            rw [if_pos (.inr c5)] at ha
            subst ha
            clear HA3
            go_wp2_with (first | (go_at_call 43; refine (cmp_is _ _ _).mono ?_; rintro e w' ⟨rfl, rfl⟩))
            go_quiet ((first | (go_at_call 43; exact Calls.quiet_of_same (cmp_is _ _ _)) | (go_at_call 44; exact Calls.quiet_of_same (next_is _ (by omega) (by omega) _))))
            go_wp2
            go_ret
            exact ⟨rfl, pw_below_drewN HB2.out _⟩
          · have d5 : decide (x.f0 ≤ t.f1 + 1) = false := decide_eq_false c5
            rw [if_neg (by omega)] at ha
            have HA4 := Aside0.mk ha
            clear ha HA3
            go_wp2_with (first | (go_at_call 43; refine (cmp_is _ _ _).mono ?_; rintro e w' ⟨rfl, rfl⟩))
            go_quiet ((first | (go_at_call 43; exact Calls.quiet_of_same (cmp_is _ _ _)) | (go_at_call 44; exact Calls.quiet_of_same (next_is _ (by omega) (by omega) _))))
            go_wp2
            go_roundg (l1.length - (i + 1))
            case measure => have := HI.out; omega
            case rel => exact ⟨i + 1, some x.f1, by go_num, ⟨by omega, rfl⟩, HA4, ⟨by rw [if_pos (by omega), ← HX.out]; simp⟩, ⟨fun t h => by obtain rfl := Option.some.inj h; exact HX01.out⟩, ⟨blk_drewN BF2'.out _⟩, ⟨pw_below_drewN HB2.out _⟩⟩
      · obtain rfl : i = 0 := by omega
        have hp := HP.out
        rw [if_neg (by omega)] at hp
        subst hp
        have ha := HA3.out
        simp only at ha
        have HA4 := Aside0.mk ha
        have di : decide ((0 : Int) < (0 : Int)) = false := by decide
        have HB2 := Aside0.mk (below_alloc Hb.out (.cells #[.int .i64 x.f0, .int .i64 x.f1] 63))
        have BF2' := Aside0.mk (blk_alloc BF.out (.cells #[.int .i64 x.f0, .int .i64 x.f1] 63))
        clear ha HA3
        simp only [Nat.zero_mul, Addr.add_zero'] at hx0 hx1
        go_wp2_with (first | (go_at_call 43; refine (cmp_is _ _ _).mono ?_; rintro e w' ⟨rfl, rfl⟩))
        go_quiet ((first | (go_at_call 43; exact Calls.quiet_of_same (cmp_is _ _ _)) | (go_at_call 44; exact Calls.quiet_of_same (next_is _ (by omega) (by omega) _))))
        go_wp2
        go_roundg (l1.length - 1)
        case measure => have := HI.out; omega
        case rel => exact ⟨1, some x.f1, by go_num, ⟨by omega, rfl⟩, HA4, ⟨by rw [if_pos (by omega), ← HX.out]⟩, ⟨fun t h => by obtain rfl := Option.some.inj h; exact HX01.out⟩, ⟨blk_drewN BF2'.out _⟩, ⟨pw_below_drewN HB2.out _⟩⟩
    · have hd : decide ((i : Int) < (l1.length : Int)) = false := decide_eq_false (by omega)
      have hdn : decide (i < l1.length) = false := decide_eq_false hi
      have ha := HA.out
      rw [List.drop_eq_nil_of_le (by omega)] at ha
      cases p <;> (simp only [soundL] at ha; subst ha; clear HA; go_wp2; go_ret; exact ⟨rfl, Hb.out⟩)
def ivl_Check.f (k : Nat) (l0 : List (S36)) : Option (Int) := if 1024 < (l0.length : Int) then some 2 else (ivl_runs.f k l0).bind fun rs => some (if soundL none rs then 0 else 2)
theorem ivl_Check.mono : ∀ a0 k, LeO (ivl_Check.f k a0) (ivl_Check.f (k + 1) a0) := by
  intro a0 k
  unfold ivl_Check.f
  repeat' first
      | (with_reducible exact ivl_runs.mono _ _)
      | (with_reducible exact LeO.refl _)
      | (with_reducible exact LeO.none _)
      | (with_reducible refine LeO.ite ?_ ?_)
      | (with_reducible refine LeO.bind ?_ (fun _ => ?_))
      | exact ivl_runs.mono _ _
      | exact LeO.none _
      | refine LeO.ite ?_ ?_
      | refine LeO.bind ?_ (fun _ => ?_)
set_option maxRecDepth 100000 in
set_option maxHeartbeats 4000000 in
theorem ivl_Check.calls (k : Nat) (A0 : Option Addr) (c0 : Nat) (l0 : List (S36)) (r : Int) (w : World) (hr0 : Kd.C k36 w A0 l0.length l0) (hc0 : l0.length ≤ c0) (h : ivl_Check.f k l0 = some r) :
    Calls Try.prog 17 #[.slice A0 l0.length c0] w fun e w' => e = .returned (.int .i64 r) ∧ Below w.heap.size w w' := by
  have HR0 := Aside0.mk hr0
  have HC0 := Aside0.mk hc0
  clear hr0 hc0
  unfold ivl_Check.f at h
  by_cases c1 : 1024 < (l0.length : Int)
  · rw [if_pos c1] at h
    obtain rfl := Option.some.inj h
    have d1 : decide (1024 < (l0.length : Int)) = true := decide_eq_true c1
    have d2 : decide (1024 < l0.length) = true := decide_eq_true (by omega)
    clear h
    go_enter Try.func17, Try.ntmps17
    go_wp2
    go_ret
    exact ⟨rfl, Below.refl _ _⟩
  · rw [if_neg c1] at h
    have d1 : decide (1024 < (l0.length : Int)) = false := decide_eq_false c1
    have d2 : decide (1024 < l0.length) = false := decide_eq_false (by omega)
    obtain ⟨rs, hrs, h⟩ := Option.bind_eq_some_iff.mp h
    have HRS := Aside0.mk hrs
    obtain rfl := Option.some.inj h
    obtain ⟨b, hb⟩ : ∃ b, soundL none rs = b := ⟨_, rfl⟩
    have HBS := Aside0.mk hb
    rw [hb]
    clear h hrs hb
    cases b
    all_goals
      go_enter Try.func17, Try.ntmps17
      go_wp2_with (first | (go_at_call 29; refine (times_is _).mono ?_; rintro e w5 ⟨rfl, hb5⟩; have Hb5 := Aside0.mk hb5; have HR5 := Aside0.mk (Kd.C_below HR0.out hb5); clear hb5) | (go_at_call 31; refine (ivl_runs.calls k _ _ l0 rs _ HR5.out HC0.out HRS.out).mono ?_; rintro e w6 ⟨v0, rfl, ho6, hb6⟩; have Hb6 := Aside0.mk (below_step Hb5.out hb6); have HO6 := Aside0.mk ho6; clear ho6 hb6; obtain ⟨A6, c6, rfl⟩ := Kd.R_slice HO6.out) | (go_at_call 36; refine (sound_is _ _ rs _ HBS.out _ (Kd.R_reads' HO6.out).2.2 (Kd.R_reads' HO6.out).2.1).mono ?_; rintro e w7 ⟨rfl, hb7⟩; have Hb7 := Aside0.mk (below_step Hb6.out hb7); clear hb7))
      go_ret
      exact ⟨rfl, Hb7.out⟩
def ivl_rows.l0 : Nat → List (List (S36)) → Int → Int → Option (Int)
 | 0, _, _, _ => none
 | k + 1, x6, x7, x8 => if x8 < x7 then (if 0 ≤ x8 then (if x8 < (x6.length : Int) then ((ivl_Check.f k (rd_L3 x6 x8)).bind fun t110 => (if t110 = 0 then (ivl_rows.l0 k x6 x7 (wrap64 (x8 + 1))) else (some t110))) else (none)) else (none)) else (some 0)
def ivl_rows.f (k : Nat) (l0 : List (List (S36))) : Option (Int) := ivl_rows.l0 k l0 (l0.length : Int) 0
theorem ivl_rows.mono_l : ∀ k, (∀ y0 y1 y2, LeO (ivl_rows.l0 k y0 y1 y2) (ivl_rows.l0 (k + 1) y0 y1 y2))
 | 0 => fun _ _ _ r h => by simp [ivl_rows.l0] at h
 | k + 1 => by
  have ih0 := ivl_rows.mono_l k
  ·intro y0 y1 y2
   unfold ivl_rows.l0
   repeat' first
   | (with_reducible exact ih0 _ _ _)
   | (with_reducible exact ivl_Check.mono _ _)
   | (with_reducible exact LeO.refl _)
   | (with_reducible exact LeO.none _)
   | (with_reducible refine LeO.ite ?_ ?_)
   | (with_reducible refine LeO.bind ?_ (fun _ => ?_))
   | exact ih0 _ _ _
   | exact ivl_Check.mono _ _
   | exact LeO.none _
   | refine LeO.ite ?_ ?_
   | refine LeO.bind ?_ (fun _ => ?_)
theorem ivl_rows.mono : ∀ a0 k, LeO (ivl_rows.f k a0) (ivl_rows.f (k + 1) a0) := by
 intro a0 k
 have ih0 := ivl_rows.mono_l k
 unfold ivl_rows.f
 repeat' first
   | (with_reducible exact ih0 _ _ _)
   | (with_reducible exact ivl_Check.mono _ _)
   | (with_reducible exact LeO.refl _)
   | (with_reducible exact LeO.none _)
   | (with_reducible refine LeO.ite ?_ ?_)
   | (with_reducible refine LeO.bind ?_ (fun _ => ?_))
   | exact ih0 _ _ _
   | exact ivl_Check.mono _ _
   | exact LeO.none _
   | refine LeO.ite ?_ ?_
   | refine LeO.bind ?_ (fun _ => ?_)
set_option maxHeartbeats 8000000 in
set_option maxRecDepth 100000 in
theorem ivl_rows.calls (k : Nat) (A0 : Option Addr) (c0 : Nat) (l0 : List (List (S36))) (r : Int) (w : World) (hr0 : Kd.C (Kd.slice 36 k36) w A0 l0.length l0) (hc0 : l0.length ≤ c0) (h : ivl_rows.f k l0 = some r) :
  Calls Try.prog 37 #[.slice A0 l0.length c0] w fun e w' => e = .returned (.int .i64 r) ∧ Below w.heap.size w w' := by
 have HR0 := Ax hr0
 have HC0 := Ax hc0
 clear hr0 hc0
 have HB := Ax (Below.refl w.heap.size w)
 have H : (ivl_rows.l0 k l0 (l0.length : Int) 0) = some r := h
 clear h
 have H' := Ax H
 clear H
 go_enter Try.func37, Try.ntmps37
 go_wp2
 go_loopg [8] k (fun kq v8 w' => ∃ (x8_1 : Int), v8 = .int .i64 x8_1 ∧ Aside0 (ivl_rows.l0 kq l0 (l0.length : Int) x8_1 = some r) ∧ Aside0 (kq ≤ k) ∧ Aside0 (Below w.heap.size w w'))
 case atStart => exact ⟨(0), rS, H', ⟨Nat.le_refl _⟩, ⟨bw0 HB.out⟩⟩
 case round =>
  clear H'
  obtain ⟨x8_1, rfl, HA, HK1, HB⟩ := hrel
  cases gk with
  | zero => exact absurd HA.out (by simp [ivl_rows.l0])
  | succ k1 =>
   have H := HA.out
   clear HA
   simp only [ivl_rows.l0] at H
   by_cases c2 : x8_1 < (l0.length : Int)
   ·rw [if_pos c2] at H
    have c2b0 : decide (x8_1 < (l0.length : Int)) = true := decide_eq_true c2
    clear c2
    by_cases c3 : 0 ≤ x8_1
    ·rw [if_pos c3] at H
     have c3b0 : decide (0 ≤ x8_1) = true := decide_eq_true c3
     clear c3
     by_cases c4 : x8_1 < (l0.length : Int)
     ·rw [if_pos c4] at H
      have c4b0 : decide (x8_1 < (l0.length : Int)) = true := decide_eq_true c4
      clear c4
      replace H := Option.bind_eq_some_iff.mp H
      obtain ⟨t110, A50, H⟩ := H
      replace H : (if t110 = 0 then (ivl_rows.l0 k1 l0 (l0.length : Int) (wrap64 (x8_1 + 1))) else (some t110)) = some r := H
      have A5 := Ax A50
      clear A50
      by_cases c6 : t110 = 0
      ·rw [if_pos c6] at H
       have c6b0 : (t110 == 0) = true := beq_iff_eq.mpr c6
       have c6b1 : (t110 != 0) = false := bne_eq_false_iff_eq.mpr c6
       clear c6
       have H' := Ax H
       clear H
       have p109 : 0 ≤ (x8_1 : Int) := of_decide_eq_true (by first | (with_reducible assumption) | assumption)
       have q109 : x8_1 < (l0.length : Int) := of_decide_eq_true (by first | (with_reducible assumption) | assumption)
       obtain ⟨ad109, A109_0, c109_0, e109, hx109_0, hl109_0, hi109_0⟩ := at_L3 HR0.out x8_1 p109 q109
       cases e109
       replace hx109_0 := (HB.out.cell (World.block_lt_of_cell? w _ hx109_0)).trans hx109_0
       have HR109_0 := Ax hi109_0
       have HC109_0 := Ax hl109_0
       clear hi109_0 hl109_0
       replace p109 := eq_true p109
       replace q109 := eq_true q109
       go_wp2_with (first | ((with_reducible refine gate_callee (f := 17) rfl ?_); refine goesL_ (some 13) rfl rfl Try.func17 (by kernel_rfl) rfl #[.slice A109_0 (rd_L3 l0 x8_1).length c109_0] rfl gS ?_; (with_reducible refine (ivl_Check.calls k1 _ _ (rd_L3 l0 x8_1) t110 _ ?side1 ?side2 A5.out).mono ?_); (case side1 => repeat (first | exact (Kd.C_below HR109_0.out HB.out) | (with_reducible refine Kd.C_alloc ?_ _) | (with_reducible refine Kd.C_drewN ?_ _) | (with_reducible refine Kd.C_drew ?_))); (case side2 => exact HC109_0.out); rintro e w7 ⟨rfl, hb⟩; refine ⟨_, rfl, ?_⟩; replace HB := Bs0 HB hb; (try clear hb)))
       go_roundg k1
       case measure => have := HK1.out; omega
       case rel => exact ⟨(wrap64 (x8_1 + 1)), rS, H', ⟨by have := HK1.out; omega⟩, ⟨bw0 HB.out⟩⟩
      ·rw [if_neg c6] at H
       have c6b0 : (t110 == 0) = false := beq_eq_false_iff_ne.mpr c6
       have c6b1 : (t110 != 0) = true := bne_iff_ne.mpr c6
       obtain rfl := Option.some.inj H
       have p109 : 0 ≤ (x8_1 : Int) := of_decide_eq_true (by first | (with_reducible assumption) | assumption)
       have q109 : x8_1 < (l0.length : Int) := of_decide_eq_true (by first | (with_reducible assumption) | assumption)
       obtain ⟨ad109, A109_0, c109_0, e109, hx109_0, hl109_0, hi109_0⟩ := at_L3 HR0.out x8_1 p109 q109
       cases e109
       replace hx109_0 := (HB.out.cell (World.block_lt_of_cell? w _ hx109_0)).trans hx109_0
       have HR109_0 := Ax hi109_0
       have HC109_0 := Ax hl109_0
       clear hi109_0 hl109_0
       replace p109 := eq_true p109
       replace q109 := eq_true q109
       go_wp2_with (first | ((with_reducible refine gate_callee (f := 17) rfl ?_); refine goesL_ (some 13) rfl rfl Try.func17 (by kernel_rfl) rfl #[.slice A109_0 (rd_L3 l0 x8_1).length c109_0] rfl gS ?_; (with_reducible refine (ivl_Check.calls k1 _ _ (rd_L3 l0 x8_1) t110 _ ?side1 ?side2 A5.out).mono ?_); (case side1 => repeat (first | exact (Kd.C_below HR109_0.out HB.out) | (with_reducible refine Kd.C_alloc ?_ _) | (with_reducible refine Kd.C_drewN ?_ _) | (with_reducible refine Kd.C_drew ?_))); (case side2 => exact HC109_0.out); rintro e w8 ⟨rfl, hb⟩; refine ⟨_, rfl, ?_⟩; replace HB := Bs0 HB hb; (try clear hb)))
       go_ret
       exact ⟨eS, bw0 HB.out⟩
     ·rw [if_neg c4] at H
      exact absurd H (by simp)
    ·rw [if_neg c3] at H
     exact absurd H (by simp)
   ·rw [if_neg c2] at H
    have c2b0 : decide (x8_1 < (l0.length : Int)) = false := decide_eq_false c2
    clear c2
    obtain rfl := Option.some.inj H
    go_wp2
    go_ret
    exact ⟨eS, bw0 HB.out⟩
def rd_F (xs : List (List S36)) (i : Int) : (List S36) := xs.getD i.toNat ([] : List S36)
theorem at_F {w : World} {A : Option Addr} {n : Nat} {xs : List (List S36)} (h : Kd.C (Kd.slice 36 k36) w A n xs) (i : Int) (h0 : 0 ≤ i) (h1 : i < n) : ∃ ad A0 c0, A = some ad ∧ w.cell? (ad.add i.toNat) = some (.slice A0 (rd_F xs i).length c0) ∧ (rd_F xs i).length ≤ c0 ∧ k36.C w A0 (rd_F xs i).length (rd_F xs i) := by
  obtain ⟨ad, c, e, _, hK, hc0⟩ := Kd.C_get h ([] : List S36) i h0 h1
  have hc : ∀ j u, c[j]? = some u → w.cell? (ad.add (i.toNat * 1 + j)) = some u := hc0
  obtain ⟨A0, c0, rfl, l0, g0⟩ := hK
  exact ⟨ad, A0, c0, e, by have hq := hc 0 _ rfl; rwa [Nat.mul_one, Nat.add_zero] at hq, l0, g0⟩
def few0.l0 : Nat → List (List (S36)) → Int → Int → Option (Bool)
 | 0, _, _, _ => none
 | k + 1, x5, x6, x7 => if x7 < x6 then (if 0 ≤ x7 then (if x7 < (x5.length : Int) then (if ((rd_F x5 x7).length : Int) > 60 then (if ((rd_F x5 x7).length : Int) ≤ 1024 then (some false) else (few0.l0 k x5 x6 (wrap64 (x7 + 1)))) else (few0.l0 k x5 x6 (wrap64 (x7 + 1)))) else (none)) else (none)) else (some true)
def few0.f (k : Nat) (l0 : List (List (S36))) : Option (Bool) := few0.l0 k l0 (l0.length : Int) 0
set_option maxHeartbeats 8000000 in
set_option maxRecDepth 100000 in
theorem few0.calls (k : Nat) (A0 : Option Addr) (c0 : Nat) (l0 : List (List (S36))) (r : Bool) (w : World) (hr0 : Kd.C (Kd.slice 36 k36) w A0 l0.length l0) (hc0 : l0.length ≤ c0) (h : few0.f k l0 = some r) :
  Calls Try.prog 8 #[.slice A0 l0.length c0] w fun e w' => e = .returned (.bool r) ∧ Drawn0 w w' := by
 have HR0 := Ax hr0
 have HC0 := Ax hc0
 clear hr0 hc0
 have H : (few0.l0 k l0 (l0.length : Int) 0) = some r := h
 clear h
 have H' := Ax H
 clear H
 go_enter Try.func8, Try.ntmps8
 go_wp2
 go_loopg [7] k (fun kq v7 w' => ∃ (x7_1 : Int), v7 = .int .i64 x7_1 ∧ Aside0 (few0.l0 kq l0 (l0.length : Int) x7_1 = some r) ∧ Aside0 (kq ≤ k) ∧ Drawn0 w w')
 case atStart => exact ⟨(0), rS, H', ⟨Nat.le_refl _⟩, by repeat (first | exact Drawn0.refl _ | apply Drawn0.step)⟩
 case round =>
  clear H'
  obtain ⟨x7_1, rfl, HA, HK1, ⟨m1, rfl⟩⟩ := hrel
  cases gk with
  | zero => exact absurd HA.out (by simp [few0.l0])
  | succ k1 =>
   have H := HA.out
   clear HA
   simp only [few0.l0] at H
   by_cases c2 : x7_1 < (l0.length : Int)
   ·rw [if_pos c2] at H
    have c2b0 : decide (x7_1 < (l0.length : Int)) = true := decide_eq_true c2
    clear c2
    by_cases c3 : 0 ≤ x7_1
    ·rw [if_pos c3] at H
     have c3b0 : decide (0 ≤ x7_1) = true := decide_eq_true c3
     clear c3
     by_cases c4 : x7_1 < (l0.length : Int)
     ·rw [if_pos c4] at H
      have c4b0 : decide (x7_1 < (l0.length : Int)) = true := decide_eq_true c4
      clear c4
      by_cases c5 : ((rd_F l0 x7_1).length : Int) > 60
      ·rw [if_pos c5] at H
       have c5b0 : decide (60 < ((rd_F l0 x7_1).length : Int)) = true := decide_eq_true c5
       have c5b1 : decide (60 < (rd_F l0 x7_1).length) = true := decide_eq_true (by omega)
       clear c5
       by_cases c6 : ((rd_F l0 x7_1).length : Int) ≤ 1024
       ·rw [if_pos c6] at H
        have c6b0 : decide (((rd_F l0 x7_1).length : Int) ≤ 1024) = true := decide_eq_true c6
        have c6b1 : decide ((rd_F l0 x7_1).length ≤ 1024) = true := decide_eq_true (by omega)
        clear c6
        obtain rfl := Option.some.inj H
        have p101 : 0 ≤ (x7_1 : Int) := of_decide_eq_true (by first | (with_reducible assumption) | assumption)
        have q101 : x7_1 < (l0.length : Int) := of_decide_eq_true (by first | (with_reducible assumption) | assumption)
        obtain ⟨ad101, A101_0, c101_0, e101, hx101_0, hl101_0, hi101_0⟩ := at_F HR0.out x7_1 p101 q101
        cases e101
        have HR101_0 := Ax hi101_0
        have HC101_0 := Ax hl101_0
        clear hi101_0 hl101_0
        replace p101 := eq_true p101
        replace q101 := eq_true q101
        go_wp2
        go_ret
        exact ⟨by first | rfl | (simp; done) | (simp [*]; done), by repeat (first | exact Drawn0.refl _ | apply Drawn0.step)⟩
       ·rw [if_neg c6] at H
        have c6b0 : decide (((rd_F l0 x7_1).length : Int) ≤ 1024) = false := decide_eq_false c6
        have c6b1 : decide ((rd_F l0 x7_1).length ≤ 1024) = false := decide_eq_false (by omega)
        clear c6
        have H' := Ax H
        clear H
        have p101 : 0 ≤ (x7_1 : Int) := of_decide_eq_true (by first | (with_reducible assumption) | assumption)
        have q101 : x7_1 < (l0.length : Int) := of_decide_eq_true (by first | (with_reducible assumption) | assumption)
        obtain ⟨ad101, A101_0, c101_0, e101, hx101_0, hl101_0, hi101_0⟩ := at_F HR0.out x7_1 p101 q101
        cases e101
        have HR101_0 := Ax hi101_0
        have HC101_0 := Ax hl101_0
        clear hi101_0 hl101_0
        replace p101 := eq_true p101
        replace q101 := eq_true q101
        go_wp2
        go_roundg k1
        case measure => have := HK1.out; omega
        case rel => exact ⟨(wrap64 (x7_1 + 1)), rS, H', ⟨by have := HK1.out; omega⟩, by repeat (first | exact Drawn0.refl _ | apply Drawn0.step)⟩
      ·rw [if_neg c5] at H
       have c5b0 : decide (60 < ((rd_F l0 x7_1).length : Int)) = false := decide_eq_false c5
       have c5b1 : decide (60 < (rd_F l0 x7_1).length) = false := decide_eq_false (by omega)
       clear c5
       have H' := Ax H
       clear H
       have p101 : 0 ≤ (x7_1 : Int) := of_decide_eq_true (by first | (with_reducible assumption) | assumption)
       have q101 : x7_1 < (l0.length : Int) := of_decide_eq_true (by first | (with_reducible assumption) | assumption)
       obtain ⟨ad101, A101_0, c101_0, e101, hx101_0, hl101_0, hi101_0⟩ := at_F HR0.out x7_1 p101 q101
       cases e101
       have HR101_0 := Ax hi101_0
       have HC101_0 := Ax hl101_0
       clear hi101_0 hl101_0
       replace p101 := eq_true p101
       replace q101 := eq_true q101
       go_wp2
       go_roundg k1
       case measure => have := HK1.out; omega
       case rel => exact ⟨(wrap64 (x7_1 + 1)), rS, H', ⟨by have := HK1.out; omega⟩, by repeat (first | exact Drawn0.refl _ | apply Drawn0.step)⟩
     ·rw [if_neg c4] at H
      exact absurd H (by simp)
    ·rw [if_neg c3] at H
     exact absurd H (by simp)
   ·rw [if_neg c2] at H
    have c2b0 : decide (x7_1 < (l0.length : Int)) = false := decide_eq_false c2
    clear c2
    obtain rfl := Option.some.inj H
    go_wp2
    go_ret
    exact ⟨by first | rfl | (simp; done) | (simp [*]; done), by repeat (first | exact Drawn0.refl _ | apply Drawn0.step)⟩
theorem one_rowF {W : World} {g : Nat} {A0 : Option Addr} {c0 : Nat} {l0 : List S36} (hg : W.heap[g]? = some (.cells #[.slice A0 l0.length c0] 22 (0, 0))) (h0 : Kd.C k36 W A0 l0.length l0) (hc0 : l0.length ≤ c0) :
    Kd.C (Kd.slice 36 k36) W (some ⟨g, 0, none⟩) [l0].length [l0] := by
  refine ⟨rfl, by simp, fun _ => ⟨_, rfl, fun j p hj => ?_⟩⟩
  match j, hj with
  | 0, hj =>
    obtain rfl := Option.some.inj hj
    refine ⟨[.slice A0 l0.length c0], rfl, ⟨A0, c0, rfl, hc0, h0⟩, fun i u hu => ?_⟩
    match i, hu with
    | 0, hu => exact (blk_cell hg 0).trans hu
  | j + 1, hj => simp at hj
theorem two_rowsF {W : World} {g : Nat} {A0 A1 : Option Addr} {c0 c1 : Nat} {l0 l1 : List S36} (hg : W.heap[g]? = some (.cells #[.slice A0 l0.length c0, .slice A1 l1.length c1] 22 (0, 0))) (h0 : Kd.C k36 W A0 l0.length l0) (hc0 : l0.length ≤ c0) (h1 : Kd.C k36 W A1 l1.length l1) (hc1 : l1.length ≤ c1) :
    Kd.C (Kd.slice 36 k36) W (some ⟨g, 0, none⟩) [l0, l1].length [l0, l1] := by
  refine ⟨rfl, by simp, fun _ => ⟨_, rfl, fun j p hj => ?_⟩⟩
  match j, hj with
  | 0, hj =>
    obtain rfl := Option.some.inj hj
    refine ⟨[.slice A0 l0.length c0], rfl, ⟨A0, c0, rfl, hc0, h0⟩, fun i u hu => ?_⟩
    match i, hu with
    | 0, hu => exact (blk_cell hg 0).trans hu
  | 1, hj =>
    obtain rfl := Option.some.inj hj
    refine ⟨[.slice A1 l1.length c1], rfl, ⟨A1, c1, rfl, hc1, h1⟩, fun i u hu => ?_⟩
    match i, hu with
    | 0, hu => exact (blk_cell hg 1).trans hu
  | j + 2, hj => simp at hj
def bigF (l : List S36) : Bool := decide (60 < l.length) && decide (l.length ≤ 1024)
def spoorlaw19_few.f (k : Nat) (l0 l1 : List S36) : Option Bool := some (!(bigF l0 || bigF l1))
theorem few0_step (l : List (List S36)) (m : Int) (hm : m = (l.length : Int)) (i : Nat) (hi : i < l.length) (hl : l.length ≤ 10) (k : Nat) : few0.l0 (k + 1) l m (i : Int) = if bigF (rd_F l (i : Int)) = true then some false else few0.l0 k l m ((i + 1 : Nat) : Int) := by
  have e1 : wrap64 ((i : Int) + 1) = ((i + 1 : Nat) : Int) := by unfold wrap64; omega
  simp only [few0.l0]
  rw [if_pos (by omega), if_pos (by omega), if_pos (by omega), e1]
  unfold bigF
  by_cases c : ((rd_F l (i : Int)).length : Int) > 60
  · rw [if_pos c, decide_eq_true (show 60 < (rd_F l (i : Int)).length by omega), Bool.true_and]
    by_cases d : ((rd_F l (i : Int)).length : Int) ≤ 1024
    · rw [if_pos d, decide_eq_true (show (rd_F l (i : Int)).length ≤ 1024 by omega), if_pos rfl]
    · rw [if_neg d, decide_eq_false (show ¬ (rd_F l (i : Int)).length ≤ 1024 by omega), if_neg (by decide)]
  · rw [if_neg c, decide_eq_false (show ¬ 60 < (rd_F l (i : Int)).length by omega), Bool.false_and, if_neg (by decide)]
theorem few0_end (l : List (List S36)) (m : Int) (i : Int) (h : ¬ i < m) (k : Nat) : few0.l0 (k + 1) l m i = some true := by
  simp only [few0.l0]
  exact if_neg h
theorem few0_one (l0 : List S36) : few0.f 3 [l0] = some (!(bigF l0 || bigF l0)) := by
  show few0.l0 (2 + 1) [l0] (([l0].length : Nat) : Int) ((0 : Nat) : Int) = _
  rw [few0_step [l0] _ rfl 0 (by simp) (by simp), few0_end _ _ _ (by simp)]
  have e : rd_F [l0] ((0 : Nat) : Int) = l0 := rfl
  rw [e]
  cases bigF l0 <;> rfl
theorem few0_two (l0 l1 : List S36) : few0.f 3 [l0, l1] = some (!(bigF l0 || bigF l1)) := by
  show few0.l0 (2 + 1) [l0, l1] (([l0, l1].length : Nat) : Int) ((0 : Nat) : Int) = _
  rw [few0_step [l0, l1] _ rfl 0 (by simp) (by simp), few0_step [l0, l1] _ rfl 1 (by simp) (by simp), few0_end _ _ _ (by simp)]
  have e : rd_F [l0, l1] ((0 : Nat) : Int) = l0 := rfl
  have e1 : rd_F [l0, l1] ((1 : Nat) : Int) = l1 := rfl
  rw [e, e1]
  cases bigF l0 <;> cases bigF l1 <;> rfl
theorem spoorlaw19_few.calls1 (k : Nat) (A0 : Option Addr) (c0 : Nat) (l0 : List S36) (A1 : Option Addr) (c1 : Nat) (l1 : List S36) (r : Bool) (w : World) (hr0 : Kd.C k36 w A0 l0.length l0) (hc0 : l0.length ≤ c0) (hr1 : Kd.C k36 w A0 l0.length l0) (hc1 : l0.length ≤ c0) (h : spoorlaw19_few.f k l0 l0 = some r) :
    Calls Try.prog 8 #[.slice (some ⟨w.heap.size, 0, none⟩) 1 1] (w.alloc (.cells #[.slice A0 l0.length c0] 22)) fun e w' => e = .returned (.bool r) ∧ Below w.heap.size w w' := by
  have hb := below_alloc (Below.refl w.heap.size w) (.cells #[.slice A0 l0.length c0] 22)
  refine (few0.calls 3 _ 1 [l0] r _ (one_rowF (heap_alloc_new w (.cells #[.slice A0 l0.length c0] 22)) (Kd.C_below hr0 hb) hc0) (by simp) ((few0_one l0).trans h)).mono ?_
  rintro e w' ⟨he, m, rfl⟩
  exact ⟨he, pw_below_drewN hb m⟩
theorem spoorlaw19_few.calls2 (k : Nat) (A0 : Option Addr) (c0 : Nat) (l0 : List S36) (A1 : Option Addr) (c1 : Nat) (l1 : List S36) (r : Bool) (w : World) (hr0 : Kd.C k36 w A0 l0.length l0) (hc0 : l0.length ≤ c0) (hr1 : Kd.C k36 w A1 l1.length l1) (hc1 : l1.length ≤ c1) (h : spoorlaw19_few.f k l0 l1 = some r) :
    Calls Try.prog 8 #[.slice (some ⟨w.heap.size, 0, none⟩) 2 2] (w.alloc (.cells #[.slice A0 l0.length c0, .slice A1 l1.length c1] 22)) fun e w' => e = .returned (.bool r) ∧ Below w.heap.size w w' := by
  have hb := below_alloc (Below.refl w.heap.size w) (.cells #[.slice A0 l0.length c0, .slice A1 l1.length c1] 22)
  refine (few0.calls 3 _ 2 [l0, l1] r _ (two_rowsF (heap_alloc_new w (.cells #[.slice A0 l0.length c0, .slice A1 l1.length c1] 22)) (Kd.C_below hr0 hb) hc0 (Kd.C_below hr1 hb) hc1) (by simp) ((few0_two l0 l1).trans h)).mono ?_
  rintro e w' ⟨he, m, rfl⟩
  exact ⟨he, pw_below_drewN hb m⟩
def ivl_told.l0 : Nat → List (S36) → List (S63) → Int → Int → Option ((List (S36)) × Int)
 | 0, _, _, _, _ => none
 | k + 1, x4, x10, x11, x12 => if x12 < x11 then (if 0 ≤ x12 then (if x12 < (x10.length : Int) then (if x4.length < 8796093022208 then (ivl_told.l0 k (x4 ++ [(⟨(rd_T63 x10 x12).f0, (rd_T63 x10 x12).f1⟩ : S36)]) x10 x11 (wrap64 (x12 + 1))) else (none)) else (none)) else (none)) else (some (x4, 0))
def ivl_told.f (k : Nat) (l0 : List (S63)) : Option ((List (S36)) × Int) := if (l0.length : Int) > 1024 then (some (([] : List (S36)), 11)) else (ivl_told.l0 k ([] : List (S36)) l0 (l0.length : Int) 0)
theorem ivl_told.mono_l : ∀ k, (∀ y0 y1 y2 y3, LeO (ivl_told.l0 k y0 y1 y2 y3) (ivl_told.l0 (k + 1) y0 y1 y2 y3))
 | 0 => fun _ _ _ _ r h => by simp [ivl_told.l0] at h
 | k + 1 => by
  have ih0 := ivl_told.mono_l k
  ·intro y0 y1 y2 y3
   unfold ivl_told.l0
   repeat' first
   | (with_reducible exact ih0 _ _ _ _)
   | (with_reducible exact LeO.refl _)
   | (with_reducible exact LeO.none _)
   | (with_reducible refine LeO.ite ?_ ?_)
   | (with_reducible refine LeO.bind ?_ (fun _ => ?_))
   | exact ih0 _ _ _ _
   | exact LeO.none _
   | refine LeO.ite ?_ ?_
   | refine LeO.bind ?_ (fun _ => ?_)
theorem ivl_told.mono : ∀ a0 k, LeO (ivl_told.f k a0) (ivl_told.f (k + 1) a0) := by
 intro a0 k
 have ih0 := ivl_told.mono_l k
 unfold ivl_told.f
 repeat' first
   | (with_reducible exact ih0 _ _ _ _)
   | (with_reducible exact LeO.refl _)
   | (with_reducible exact LeO.none _)
   | (with_reducible refine LeO.ite ?_ ?_)
   | (with_reducible refine LeO.bind ?_ (fun _ => ?_))
   | exact ih0 _ _ _ _
   | exact LeO.none _
   | refine LeO.ite ?_ ?_
   | refine LeO.bind ?_ (fun _ => ?_)
set_option maxHeartbeats 8000000 in
set_option maxRecDepth 100000 in
theorem ivl_told.calls (k : Nat) (A0 : Option Addr) (c0 : Nat) (l0 : List (S63)) (r1 : List (S36)) (r2 : Int) (w : World) (hr0 : Kd.C k63 w A0 l0.length l0) (hc0 : l0.length ≤ c0) (h : ivl_told.f k l0 = some (r1, r2)) :
  Calls Try.prog 28 #[.slice A0 l0.length c0] w fun e w' => ∃ v0_ : Value, e = .returned (.tuple #[v0_, .int .i64 r2]) ∧ Kd.R k36 36 w' w.heap.size (fun _ => True) v0_ r1 ∧ Below w.heap.size w w' := by
 have hu63 := Try.underlying63
 have HR0 := Ax hr0
 have HC0 := Ax hc0
 clear hr0 hc0
 have HB := Ax (Below.refl w.heap.size w)
 have H : (if (l0.length : Int) > 1024 then (some (([] : List (S36)), 11)) else (ivl_told.l0 k ([] : List (S36)) l0 (l0.length : Int) 0)) = some (r1, r2) := h
 clear h
 by_cases c2 : (l0.length : Int) > 1024
 ·rw [if_pos c2] at H
  have c2b0 : decide (1024 < (l0.length : Int)) = true := decide_eq_true c2
  have c2b1 : decide (1024 < l0.length) = true := decide_eq_true (by omega)
  clear c2
  simp only [Option.some.injEq, Prod.mk.injEq] at H
  obtain ⟨rfl, rfl⟩ := H
  go_enter Try.func28, Try.ntmps28
  go_wp2
  go_ret2
  exact ⟨_, eS, by first | exact Kd.R_nil _ _ _ _ _ | exact Kd.N_nil _ _ _ _ _ | exact Kd.V_nil _ _ _ _ _ | exact Kd.Q_nil _ _ _ _ _ | exact Kd.S_nil _ _ _ _ _, bw0 HB.out⟩
 ·rw [if_neg c2] at H
  have c2b0 : decide (1024 < (l0.length : Int)) = false := decide_eq_false c2
  have c2b1 : decide (1024 < l0.length) = false := decide_eq_false (by omega)
  clear c2
  have H' := Ax H
  clear H
  go_enter Try.func28, Try.ntmps28
  go_wp2
  go_loopg [4, 12] k (fun kq v4 v12 w' => ∃ (x4_1 : List (S36)) (x12_1 : Int), v12 = .int .i64 x12_1 ∧ Aside0 (ivl_told.l0 kq x4_1 l0 (l0.length : Int) x12_1 = some (r1, r2)) ∧ Aside0 (kq ≤ k) ∧ Aside0 (Kd.R k36 36 w' w.heap.size (fun _ => True) v4 x4_1) ∧ Aside0 (Below w.heap.size w w'))
  case atStart => exact ⟨(([] : List (S36))), (0), rS, H', ⟨Nat.le_refl _⟩, ⟨by first | exact Kd.R_nil _ _ _ _ _ | exact Kd.N_nil _ _ _ _ _ | exact Kd.V_nil _ _ _ _ _ | exact Kd.Q_nil _ _ _ _ _ | exact Kd.S_nil _ _ _ _ _⟩, ⟨bw0 HB.out⟩⟩
  case round =>
   clear H'
   try clear c2
   try clear c2b0
   try clear c2b1
   try clear p2
   obtain ⟨x4_1, x12_1, rfl, HA, HK1, HO_4, HB⟩ := hrel
   cases gk with
   | zero => exact absurd HA.out (by simp [ivl_told.l0])
   | succ k1 =>
    have H := HA.out
    clear HA
    simp only [ivl_told.l0] at H
    by_cases c3 : x12_1 < (l0.length : Int)
    ·rw [if_pos c3] at H
     have c3b0 : decide (x12_1 < (l0.length : Int)) = true := decide_eq_true c3
     clear c3
     by_cases c4 : 0 ≤ x12_1
     ·rw [if_pos c4] at H
      have c4b0 : decide (0 ≤ x12_1) = true := decide_eq_true c4
      clear c4
      by_cases c5 : x12_1 < (l0.length : Int)
      ·rw [if_pos c5] at H
       have c5b0 : decide (x12_1 < (l0.length : Int)) = true := decide_eq_true c5
       clear c5
       by_cases c6 : x4_1.length < 8796093022208
       ·rw [if_pos c6] at H
        have LMc6 := Ax c6
        clear c6
        obtain ⟨y113, hy113⟩ : ∃ y_ : List (S36), y_ = (x4_1 ++ [(⟨(rd_T63 l0 x12_1).f0, (rd_T63 l0 x12_1).f1⟩ : S36)]) := ⟨_, rfl⟩
        replace H : (ivl_told.l0 k1 y113 l0 (l0.length : Int) (wrap64 (x12_1 + 1))) = some (r1, r2) := by first | (rw [hy113]; with_reducible exact H) | (have H2_ := (Option.bind_some _ _).symm.trans H; rw [hy113]; with_reducible exact H2_) | (have H2_ := (Option.bind_some _ _).symm.trans H; with_reducible exact H2_) | with_reducible exact H | (rw [hy113]; exact H) | exact H
        have Ny113 := Ax hy113
        clear hy113
        have H' := Ax H
        clear H
        have p111 : 0 ≤ (x12_1 : Int) := of_decide_eq_true (by first | (with_reducible assumption) | assumption)
        have q111 : x12_1 < (l0.length : Int) := of_decide_eq_true (by first | (with_reducible assumption) | assumption)
        obtain ⟨ad111, e111, hx111_0, hx111_1⟩ := at_T63 HR0.out x12_1 p111 q111
        cases e111
        replace hx111_0 := (HB.out.cell (World.block_lt_of_cell? w _ hx111_0)).trans hx111_0
        replace hx111_1 := (HB.out.cell (World.block_lt_of_cell? w _ hx111_1)).trans hx111_1
        replace p111 := eq_true p111
        replace q111 := eq_true q111
        go_wp2_with (first | ((with_reducible refine gate_dst (N := 6) rfl ?_); refine box_event ?hg (N := 6) ?hd (cs := #[.int .i64 0, .int .i64 0]) (t := 63) ?hr ?_; (case hd => rfl); (case hg => rfl); (case hr => first | (go_simp; done) | (go_simp; rfl)); intro gb112 hg w7 hbox hb; have n0_ := Ax (Kd.R_below (by (with_reducible repeat (first | apply Kd.R_alloc | apply Kd.R_drewN | apply Kd.R_drew)); exact HO_4.out) hb); have n1_ := Bs0 HB hb; have n2_ := Ax (hbox); have n3_ := Gw0 HB hg; have n4_ := Gw0 HB hg; clear HO_4; clear HB; have HO_4 := n0_; have HB := n1_; have BK112 := n2_; have GW112 := n3_; have GE112 := n4_; clear n0_ n1_ n2_ n3_ n4_; clear hb hbox hg; obtain ⟨hcz8_0, hcz8_1, hfz8_0, hfz8_1⟩ := cl2 BK112) | ((with_reducible refine gate_builtin (b := .append) (xs := #[.tmp 16, .tmp 18]) rfl ?_); at_builtin; refine Kd.R_append k36 (w0 := w) w.heap.size rfl (.tmp 16) (.tmp 18) 22 36 (.agg #[(.int .i64 0), (.int .i64 0)]) 16 rfl Try.underlying22 info36 rfl (by decide) (by omega) u4 x4_1 (⟨(rd_T63 l0 x12_1).f0, (rd_T63 l0 x12_1).f1⟩ : S36) [.int .i64 ((rd_T63 l0 x12_1).f0), .int .i64 ((rd_T63 l0 x12_1).f1)] (fun _ => True) (fun _ => False) rfl (by first | (go_simp; done) | (go_simp; rfl)) ?aP (fun _ hk => hk.elim) ?aF ?aO ?aB ?aS ?aL ?_; (case aP => exact k36_mkM _ _ _ (⟨(rd_T63 l0 x12_1).f0, (rd_T63 l0 x12_1).f1⟩ : S36)); (case aB => exact (bw1 HB.out GE112.out)); (case aF => exact (fun _ _ => trivial)); (case aO => exact (by (with_reducible repeat (first | apply Kd.R_alloc | apply Kd.R_drewN | apply Kd.R_drew)); exact Kd.R_mono (Kd.R_far (p := ⟨gb112, 1, none⟩) (Kd.R_far (p := ⟨gb112, 0, none⟩) (Kd.R_types HO_4.out BK112.out (by decide)) (fun _ hk => hk.2) (.int .i64 ((rd_T63 l0 x12_1).f0))) (fun _ hk => hk.2) (.int .i64 ((rd_T63 l0 x12_1).f1))) (fun _ hk => trivial))); (case aS => exact (below_size (bw1 HB.out GE112.out))); (case aL => have := LMc6.out; omega); intro v114 w9 ho hb hg hat; rw [← Ny113.out] at ho; have n0_ := Ax (blk_grown (g := gb112) (o := .cells #[.int .i64 ((rd_T63 l0 x12_1).f0), .int .i64 ((rd_T63 l0 x12_1).f1)] 63 (0, 0)) (by (with_reducible repeat (first | refine blk_drewN ?_ _ | refine blk_drew ?_ | refine blk_alloc ?_ _)); refine blk_put (cs := #[.int .i64 ((rd_T63 l0 x12_1).f0), .int .i64 0]) ?_ 1 _ rfl; (with_reducible repeat (first | refine blk_drewN ?_ _ | refine blk_drew ?_ | refine blk_alloc ?_ _)); refine blk_put (cs := #[.int .i64 0, .int .i64 0]) ?_ 0 _ rfl; (with_reducible repeat (first | refine blk_drewN ?_ _ | refine blk_drew ?_ | refine blk_alloc ?_ _)); exact BK112.out) hg (Kd.R_ne HO_4.out BK112.out (by decide))); have n1_ := Ax (hb); have n2_ := Ax (ho); clear BK112; clear HB; clear HO_4; have BK112 := n0_; have HB := n1_; have HO115 := n2_; clear n0_ n1_ n2_; clear ho hb hg hat))
        go_roundg k1
        case measure => have := HK1.out; omega
        case rel => exact ⟨(y113), (wrap64 (x12_1 + 1)), rS, H', ⟨by have := HK1.out; omega⟩, ⟨by (with_reducible repeat (first | apply Kd.R_alloc | apply Kd.R_drewN | apply Kd.R_drew)); exact HO115.out⟩, ⟨bw1 HB.out GE112.out⟩⟩
       ·rw [if_neg c6] at H
        exact absurd H (by simp)
      ·rw [if_neg c5] at H
       exact absurd H (by simp)
     ·rw [if_neg c4] at H
      exact absurd H (by simp)
    ·rw [if_neg c3] at H
     have c3b0 : decide (x12_1 < (l0.length : Int)) = false := decide_eq_false c3
     clear c3
     simp only [Option.some.injEq, Prod.mk.injEq] at H
     obtain ⟨rfl, rfl⟩ := H
     go_wp2
     go_ret2
     exact ⟨_, eS, by (with_reducible repeat (first | apply Kd.R_alloc | apply Kd.R_drewN | apply Kd.R_drew)); exact HO_4.out, bw0 HB.out⟩
end Go.Proofs.Ytkjjidanakmkeaa.Q
end
section
namespace Go.Proofs.Ytkjjidanakmkeaa.Q
open Go.RowKit Go.Proofs.YtkjjidanakmkeaaW.PrintWords Go.Proofs.YtkjjidanakmkeaaW.PrintLast Go.Proofs.YtkjjidanakmkeaaW.PrintMore
attribute [local go_sem] max2_int min2_int max_two min_two max_three min_three max_four min_four   -- for this text's walks alone
set_option linter.unusedVariables false
set_option linter.unusedSimpArgs false
theorem eqA36 (d : Nat) (w : World) (x0 y0 : Int) (x1 y1 : Int) :
    (Op.equalIn (d + 2) 36 (.agg #[.int .i64 x0, .int .i64 x1]) (.agg #[.int .i64 y0, .int .i64 y1])).run Try.prog w = .ok (x0 == y0 && (x1 == y1)) w := by
  refine eqA_of Try.underlying36 (by kernel_rfl) ?_
  refine eqf_cons (by rfl) (by go_simp; rfl) (by go_simp; rfl) (by go_simp) ?_
  exact eqf_last (by rfl) (by go_simp; rfl) (by go_simp; rfl) (by go_simp)
end Go.Proofs.Ytkjjidanakmkeaa.Q
end
section
namespace Go.Proofs.Ytkjjidanakmkeaa.Q
open Go.RowKit Go.Proofs.YtkjjidanakmkeaaW.PrintWords Go.Proofs.YtkjjidanakmkeaaW.PrintLast Go.Proofs.YtkjjidanakmkeaaW.PrintMore
attribute [local go_sem] max2_int min2_int max_two min_two max_three min_three max_four min_four   -- for this text's walks alone
set_option linter.unusedVariables false
set_option linter.unusedSimpArgs false
attribute [local go_sem high] eqA36
theorem infoR19 : (Try.prog.info? 63).map (fun i => (i.zero, i.size, i.bytes)) = some (some (.agg #[(.int .i64 0), (.int .i64 0)]), 2, 16) := by kernel_rfl
set_option maxRecDepth 100000 in
set_option maxHeartbeats 4000000 in
theorem clone_is (A : Option Addr) (c : Nat) (l : List S63) (hL : l.length * 16 ≤ 140737488355328) (w : World) (hr : Kd.C k63 w A l.length l) (hc : l.length ≤ c) :
    Calls Try.prog 46 #[.slice A l.length c] w fun e w' => ∃ v : Value, e = .returned v ∧ Kd.R k63 63 w' w.heap.size (fun _ => True) v l ∧ Below w.heap.size w w' := by
  have HR := Aside0.mk hr
  have HM := Aside0.mk (Kd.C_max hr)
  have HL := Aside0.mk hL
  clear hr hL
  have q : ∀ (w : World) (a : Option Addr) (n c : Nat), (binOp .eql 46 (.slice a n c) (.slice none 0 0)).run Try.prog w = .ok (.bool a.isNone) w := fun w a n c => Lib.run_eql_slice_nil w 46 63 a n c 0 0 Try.underlying46
  go_enter Try.func46, Try.ntmps46
  cases A with
  | none =>
    have hl : l = [] := by
      cases l with
      | nil => rfl
      | cons x xs =>
        obtain ⟨ad, e, _⟩ := HR.out.2.2 (Nat.succ_pos _)
        cases e
    subst hl
    go_wp2
    go_ret
    exact ⟨_, rfl, Kd.R_nil _ _ _ _ _, Below.refl _ _⟩
  | some ad =>
    go_wp2_with (first | ((with_reducible refine gate_dst (N := 5) rfl ?_); refine Kd.R_lit k63 _ 63 ?hg (N := 5) ?hd (xs := ([] : List (S63))) (inner := []) (ok := fun _ => True) (okp := fun _ => True) ?hr ?hp (fun _ hk => hk) trivial (Below.refl _ _) (Nat.le_refl _) (by simp) ?_; (case hd => rfl); (case hg => rfl); (case hr => first | (go_simp; done) | (go_simp; rfl)); (case hp => exact (Reps.none _ _)); intro v1 w1 ho1 hb1 hg_ hnew_; clear hg_ hnew_; have HO1 := Aside0.mk ho1; have HB1 := Aside0.mk hb1; clear ho1 hb1) | ((with_reducible refine gate_builtin (b := .append) (xs := #[.tmp 5, .tmp 6]) rfl ?_); at_builtin; refine Kd.R_append_rows k63 (w0 := w) w.heap.size rfl (.tmp 5) (.tmp 6) 46 63 (.agg #[(.int .i64 0), (.int .i64 0)]) 16 rfl Try.underlying46 infoR19 rfl (by decide) (by omega) v1 [] l _ _ _ (fun _ => True) (fun _ => False) rfl rfl HO1.out (Kd.C_below HR.out HB1.out) (fun _ _ h => h) (fun _ h => h.elim) (fun _ _ => trivial) HB1.out HB1.out.size (by have := HL.out; simpa using this) ?_; intro v2 w2 ho2 hb2 hg2 hat2; have HO2 := Aside0.mk ho2; have HB2 := Aside0.mk hb2; clear ho2 hb2 hg2 hat2))
    go_ret
    exact ⟨_, rfl, HO2.out, HB2.out⟩
theorem infoI19 : (Try.prog.info? 36).map (fun i => (i.zero, i.size, i.bytes)) = some (some (.agg #[(.int .i64 0), (.int .i64 0)]), 2, 16) := by kernel_rfl
set_option maxRecDepth 100000 in
set_option maxHeartbeats 4000000 in
theorem grow_is (n : Nat) (hn : n * 16 ≤ 140737488355328) (w : World) :
    Calls Try.prog 50 #[.slice none 0 0, .int .i64 (n : Int)] w fun e w' => ∃ v : Value, e = .returned v ∧ Kd.R k36 36 w' w.heap.size (fun _ => True) v ([] : List S36) ∧ Below w.heap.size w w' := by
  have HN := Aside0.mk hn
  have w1 : wrap64 (n : Int) = n := by unfold wrap64; omega
  have w2 : IntKind.i64.wrap (n : Int) = n := (i64_w _).trans w1
  have d0 : decide ((n : Int) < 0) = false := decide_eq_false (by omega)
  go_enter Try.func50, Try.ntmps50
  by_cases h0 : 0 < n
  · have d1 : decide ((0 : Int) < (n : Int)) = true := decide_eq_true (by omega)
    have d2 : decide (0 < n) = true := decide_eq_true h0
    go_wp2_with (at_builtin; refine Kd.R_append_zeros k36 (w0 := w) w.heap.size rfl (.tmp 20) (.tmp 21) 22 3 36 (.agg #[(.int .i64 0), (.int .i64 0)]) 16 rfl Try.underlying22 Try.underlying3 infoI19 rfl (by decide) (by omega) (.slice none 0 0) [] ⟨0, 0⟩ (n : Int) (fun _ => True) rfl rfl (k36_mkM _ _ _ (⟨0, 0⟩ : S36)) (fun _ _ => trivial) (Kd.R_nil _ _ _ _ _) (by omega) (Below.refl _ _) (Nat.le_refl _) (by have := HN.out; simpa using this) ?_; intro v1 w1 ho1 hb1 hg1 hat1; have HO1 := Aside0.mk ho1; have HB1 := Aside0.mk hb1; obtain ⟨A1, c1, rfl⟩ := Kd.R_slice ho1; clear ho1 hb1 hg1 hat1)
    go_ret
    exact ⟨_, rfl, Kd.R_take (m := 0) HO1.out (Nat.zero_le _), HB1.out⟩
  · have d1 : decide ((0 : Int) < (n : Int)) = false := decide_eq_false (by omega)
    have d2 : decide (0 < n) = false := decide_eq_false h0
    go_wp2
    go_ret
    exact ⟨_, rfl, Kd.R_nil _ _ _ _ _, Below.refl _ _⟩
set_option maxRecDepth 100000 in
set_option maxHeartbeats 4000000 in
theorem concat_is (g : Nat) (A1 A2 : Option Addr) (c1 c2 : Nat) (l1 l2 : List S36) (hL : (l1.length + l2.length) * 16 ≤ 140737488355328) (w : World) (hg : w.heap[g]? = some (.cells #[.slice A1 l1.length c1, .slice A2 l2.length c2] 22 (0, 0)))
    (hr1 : Kd.C k36 w A1 l1.length l1) (hr2 : Kd.C k36 w A2 l2.length l2) :
    Calls Try.prog 38 #[.slice (some ⟨g, 0, none⟩) 2 2] w fun e w' => ∃ v : Value, e = .returned v ∧ Kd.R k36 36 w' w.heap.size (fun _ => True) v (l1 ++ l2) ∧ Below w.heap.size w w' := by
  have HL := Aside0.mk hL
  have BG := Aside0.mk hg
  have HR1 := Aside0.mk hr1
  have HR2 := Aside0.mk hr2
  have hx0 := (blk_cell hg 0).trans rfl
  have hx1 := (blk_cell hg 1).trans rfl
  clear hg hr1 hr2 hL
  go_enter Try.func38, Try.ntmps38
  go_wp2
  go_loopg [3, 11] 2 (fun kq v3 v11 w' => ∃ (i : Nat), v11 = .int .i64 (i : Int) ∧ Aside0 (i ≤ 2 ∧ kq = 2 - i) ∧ v3 = .int .i64 (((if i = 0 then 0 else if i = 1 then l1.length else l1.length + l2.length : Nat)) : Int) ∧ w' = w)
  case atStart => exact ⟨0, rfl, ⟨by omega, rfl⟩, rfl, rfl⟩
  case round =>
    obtain ⟨i, rfl, HI, rfl, rfl⟩ := hrel
    have hi := HI.out.1
    have hl := HL.out
    match i, HI with
    | 0, HI =>
      have wa : IntKind.i64.wrap (l1.length : Int) = (l1.length : Int) := by rw [i64_w]; unfold wrap64; omega
      have dn : decide ((l1.length : Int) < 0) = false := decide_eq_false (by omega)
      go_wp2
      go_roundg 1
      case measure => have := HI.out.2; omega
      case rel => exact ⟨1, by first | rfl | go_num, ⟨by omega, rfl⟩, by first | rfl | go_num | simp, rfl⟩
    | 1, HI =>
      have wa : IntKind.i64.wrap ((l1.length : Int) + (l2.length : Int)) = ((l1.length + l2.length : Nat) : Int) := by rw [i64_w]; unfold wrap64; omega
      have dn : decide (((l1.length + l2.length : Nat) : Int) < 0) = false := decide_eq_false (by omega)
      have dn2 : decide ((l1.length : Int) + (l2.length : Int) < 0) = false := decide_eq_false (by omega)
      go_wp2
      go_roundg 0
      case measure => have := HI.out.2; omega
      case rel => exact ⟨2, by first | rfl | go_num, ⟨by omega, rfl⟩, by first | rfl | go_num | simp, rfl⟩
    | 2, HI =>
      obtain ⟨w0, e0⟩ : ∃ w0 : World, w0 = wr := ⟨_, rfl⟩
      subst e0
      clear hx0 hx1
      go_wp2_with (go_at_call 50; refine (grow_is (l1.length + l2.length) HL.out w0).mono ?_; rintro e w5 ⟨v5, rfl, hR5, hb5⟩; have HR5 := Aside0.mk hR5; have HB5 := Aside0.mk hb5; clear hR5 hb5)
      go_loopg [6, 27] 2 (fun kq v6 v27 w' => ∃ (j : Nat), v27 = .int .i64 (j : Int) ∧ Aside0 (j ≤ 2 ∧ kq = 2 - j) ∧ Aside0 (Kd.R k36 36 w' w0.heap.size (fun _ => True) v6 (if j = 0 then [] else if j = 1 then l1 else l1 ++ l2)) ∧ Aside0 (Below w0.heap.size w0 w'))
      case atStart => exact ⟨0, rfl, ⟨by omega, rfl⟩, HR5, HB5⟩
      case round =>
        clear HR5 HB5
        obtain ⟨j, rfl, HJ, HO, HB⟩ := hrel
        have hl := HL.out
        have BG2 := Aside0.mk (blk_below BG.out HB.out)
        have hx0 := (blk_cell BG2.out 0).trans rfl
        have hx1 := (blk_cell BG2.out 1).trans rfl
        have hj := HJ.out.1
        match j, HJ, HO with
        | 0, HJ, HO =>
          have HO0 : Aside0 (Kd.R k36 36 wr w0.heap.size (fun _ => True) u6 []) := HO
          go_wp2_with (at_builtin; refine Kd.R_append_rows k36 (w0 := w0) w0.heap.size rfl (.tmp 31) (.tmp 32) 22 36 (.agg #[(.int .i64 0), (.int .i64 0)]) 16 rfl Try.underlying22 infoI19 rfl (by decide) (by omega) u6 [] l1 _ _ _ (fun _ => True) (fun _ => False) rfl rfl HO0.out (Kd.C_below HR1.out HB.out) (fun _ _ h => h) (fun _ h => h.elim) (fun _ _ => trivial) HB.out HB.out.size (by have := HL.out; simp only [List.length_nil]; omega) ?_; intro v2 w2 ho2 hb2 hg2 hat2; have HO2 := Aside0.mk ho2; have HB2 := Aside0.mk hb2; clear ho2 hb2 hg2 hat2)
          go_roundg 1
          case measure => have := HJ.out.2; omega
          case rel => exact ⟨1, by first | rfl | go_num, ⟨by omega, rfl⟩, HO2, HB2⟩
        | 1, HJ, HO =>
          have HO0 : Aside0 (Kd.R k36 36 wr w0.heap.size (fun _ => True) u6 l1) := HO
          go_wp2_with (at_builtin; refine Kd.R_append_rows k36 (w0 := w0) w0.heap.size rfl (.tmp 31) (.tmp 32) 22 36 (.agg #[(.int .i64 0), (.int .i64 0)]) 16 rfl Try.underlying22 infoI19 rfl (by decide) (by omega) u6 l1 l2 _ _ _ (fun _ => True) (fun _ => False) rfl rfl HO0.out (Kd.C_below HR2.out HB.out) (fun _ _ h => h) (fun _ h => h.elim) (fun _ _ => trivial) HB.out HB.out.size HL.out ?_; intro v2 w2 ho2 hb2 hg2 hat2; have HO2 := Aside0.mk ho2; have HB2 := Aside0.mk hb2; clear ho2 hb2 hg2 hat2)
          go_roundg 0
          case measure => have := HJ.out.2; omega
          case rel => exact ⟨2, by first | rfl | go_num, ⟨by omega, rfl⟩, HO2, HB2⟩
        | 2, HJ, HO =>
          have HO0 : Aside0 (Kd.R k36 36 wr w0.heap.size (fun _ => True) u6 (l1 ++ l2)) := HO
          go_wp2
          go_ret
          exact ⟨_, rfl, HO0.out, HB.out⟩
open Go.Shelf Go.Sort in
def fieldC : Array Value := #[.int .i64 0, .int .i64 1099511627776, .func (.func 43) #[] #[], .func (.func 44) #[] #[], .func (.func 45) #[] #[]]
set_option maxRecDepth 100000 in
set_option maxHeartbeats 4000000 in
open Go.Shelf Go.Sort in
theorem joincmp_is (bf : Nat) (x y : S63) (W : World) (hb : W.heap[bf]? = some (.cells fieldC 50 (0, 0))) :
    Calls Try.prog 48 #[.agg #[.int .i64 x.f0, .int .i64 x.f1], .agg #[.int .i64 y.f0, .int .i64 y.f1], .pointer (some ⟨bf, 0, none⟩)] W fun e w' => e = .returned (.int .i64 (cmpI x.f0 y.f0)) ∧ ∃ q os', w' = grow (W.drewN q) os' := by
  unfold fieldC at hb
  have BF := Aside0.mk hb
  have hlt := World.block_lt_of_cell? _ _ ((blk_cell hb 2).trans rfl)
  have hg2 : ((W.alloc (.cells #[.int .i64 x.f0, .int .i64 x.f1] 63)).alloc (.cells #[.int .i64 y.f0, .int .i64 y.f1] 63)).cell? ⟨bf, 2, none⟩ = some (.func (.func 43) #[] #[]) := (blk_cell (blk_alloc (blk_alloc BF.out _) _) 2).trans rfl
  clear hb
  go_enter Try.func48, Try.ntmps48
  go_wp2_with (go_at_call 43; refine (cmp_is _ _ _).mono ?_; rintro e w' ⟨rfl, rfl⟩)
  go_ret
  exact ⟨rfl, 0, _, by rw [alloc_eq_grow, alloc_eq_grow, grow_grow]; rfl⟩
open Go.Shelf Go.Sort in
def sortRun_ren : Go.Shelf.Ren := ⟨fun | 6 => 47 | 15 => 54 | 14 => 53 | 28 => 63 | 29 => 64 | 20 => 55 | 21 => 56 | 22 => 57 | 23 => 58 | 24 => 59 | 25 => 60 | 26 => 61 | 27 => 62 | 46 => 65 | 47 => 66 | 48 => 67 | 49 => 68 | 50 => 69 | 57 => 70 | n => n, fun | 22 => 46 | 24 => 63 | 25 => 66 | 3 => 3 | 39 => 74 | 0 => 0 | 53 => 84 | 55 => 86 | 4 => 4 | 46 => 77 | 45 => 76 | 50 => 81 | 5 => 5 | 9 => 9 | 66 => 87 | 70 => 91 | 76 => 93 | 77 => 94 | n => n, fun | n => n⟩
open Go.Shelf Go.Sort in
theorem sortRun : Go.Proofs.SlLaysF0.n6 Try.prog sortRun_ren := {
  mixed := by kernel_rfl
  f6 := ⟨Try.f47.name, by decide, Try.func47.trans (congrArg some (by kernel_rfl))⟩
  f14 := ⟨Try.f53.name, by decide, Try.func53.trans (congrArg some (by kernel_rfl))⟩
  f15 := Try.func54.trans (congrArg some (by kernel_rfl))
  f20 := ⟨Try.f55.name, by decide, Try.func55.trans (congrArg some (by kernel_rfl))⟩
  f21 := ⟨Try.f56.name, by decide, Try.func56.trans (congrArg some (by kernel_rfl))⟩
  f22 := ⟨Try.f57.name, by decide, Try.func57.trans (congrArg some (by kernel_rfl))⟩
  f23 := ⟨Try.f58.name, by decide, Try.func58.trans (congrArg some (by kernel_rfl))⟩
  f24 := ⟨Try.f59.name, by decide, Try.func59.trans (congrArg some (by kernel_rfl))⟩
  f25 := ⟨Try.f60.name, by decide, Try.func60.trans (congrArg some (by kernel_rfl))⟩
  f26 := ⟨Try.f61.name, by decide, Try.func61.trans (congrArg some (by kernel_rfl))⟩
  f27 := ⟨Try.f62.name, by decide, Try.func62.trans (congrArg some (by kernel_rfl))⟩
  f28 := Try.func63.trans (congrArg some (by kernel_rfl))
  f29 := Try.func64.trans (congrArg some (by kernel_rfl))
  f46 := ⟨Try.f65.name, by decide, Try.func65.trans (congrArg some (by kernel_rfl))⟩
  f47 := Try.func66.trans (congrArg some (by kernel_rfl))
  f48 := Try.func67.trans (congrArg some (by kernel_rfl))
  f49 := ⟨Try.f68.name, by decide, Try.func68.trans (congrArg some (by kernel_rfl))⟩
  f50 := ⟨Try.f69.name, by decide, Try.func69.trans (congrArg some (by kernel_rfl))⟩
  f57 := ⟨Try.f70.name, by decide, Try.func70.trans (congrArg some (by kernel_rfl))⟩
  t0 := Try.underlying0
  a0 := Try.isAgg0
  z0 := Try.sizeOf0
  v0 := Try.zeroValue0
  t3 := Try.underlying3
  a3 := Try.isAgg3
  z3 := Try.sizeOf3
  v3 := Try.zeroValue3
  t4 := Try.underlying4
  a4 := Try.isAgg4
  z4 := Try.sizeOf4
  v4 := Try.zeroValue4
  t5 := Try.underlying5
  a5 := Try.isAgg5
  z5 := Try.sizeOf5
  v5 := Try.zeroValue5
  t9 := Try.underlying9
  a9 := Try.isAgg9
  z9 := Try.sizeOf9
  v9 := Try.zeroValue9
  t22 := Try.underlying46
  a22 := Try.isAgg46
  z22 := Try.sizeOf46
  v22 := Try.zeroValue46
  t25 := Try.underlying66
  a25 := Try.isAgg66
  z25 := Try.sizeOf66
  v25 := Try.zeroValue66
  t39 := Try.underlying74
  a39 := Try.isAgg74
  z39 := Try.sizeOf74
  v39 := Try.zeroValue74
  t45 := Try.underlying76
  a45 := Try.isAgg76
  z45 := Try.sizeOf76
  v45 := Try.zeroValue76
  t46 := Try.underlying77
  a46 := Try.isAgg77
  z46 := Try.sizeOf77
  v46 := Try.zeroValue77
  t50 := Try.underlying81
  a50 := Try.isAgg81
  z50 := Try.sizeOf81
  v50 := Try.zeroValue81
  t53 := Try.underlying84
  a53 := Try.isAgg84
  z53 := Try.sizeOf84
  v53 := Try.zeroValue84
  t55 := Try.underlying86
  a55 := Try.isAgg86
  z55 := Try.sizeOf86
  v55 := Try.zeroValue86
  t66 := Try.underlying87
  a66 := Try.isAgg87
  z66 := Try.sizeOf87
  v66 := Try.zeroValue87
  t70 := Try.underlying91
  a70 := Try.isAgg91
  z70 := Try.sizeOf91
  v70 := Try.zeroValue91
  t76 := Try.underlying93
  a76 := Try.isAgg93
  z76 := Try.sizeOf93
  v76 := Try.zeroValue93
  t77 := Try.underlying94
  a77 := Try.isAgg94
  z77 := Try.sizeOf94
  v77 := Try.zeroValue94 }
open Go.Shelf Go.Sort in
abbrev Rn_ := S63
open Go.Shelf Go.Sort in
instance instRn : Inhabited Rn_ := ⟨z63⟩
open Go.Shelf Go.Sort in
def encN (x : Rn_) : List Value := [.int .i64 x.f0, .int .i64 x.f1]
open Go.Shelf Go.Sort in
def cfN (x y : Rn_) : Int := cmpI x.f0 y.f0
open Go.Shelf Go.Sort in
theorem ltN (x y : Rn_) : ltOf cfN x y = decide (x.f0 < y.f0) := by unfold ltOf cfN cmpI; (repeat' split) <;> simp <;> omega
open Go.Shelf Go.Sort in
theorem swoN : SWO (ltOf cfN) where
  irrefl x := by rw [ltN]; simp
  trans x y z h1 h2 := by rw [ltN] at *; simp at *; omega
  ntrans x y z h1 h2 := by rw [ltN] at *; simp at *; omega
open Go.Shelf Go.Sort in
def SortS : Prop := ∀ (W w0 : World) (base g c bf : Nat) (l : List Rn_), Kd.R k63 63 W base (fun _ => True) (.slice (some ⟨g, 0, none⟩) l.length c) l → W.heap[bf]? = some (.cells fieldC 50 (0, 0)) → base ≤ bf → Below base w0 W → base ≤ W.heap.size → l.length < 4611686018427387904 →
  Calls Try.prog 47 #[.slice (some ⟨g, 0, none⟩) l.length c, .func (.func 48) #[] #[.pointer (some ⟨bf, 0, none⟩)]] W fun e w' => e = .returned (.tuple #[]) ∧ ∃ l' : List Rn_, l'.Perm l ∧ l'.Pairwise (fun a b => a.f0 ≤ b.f0) ∧ Kd.R k63 63 w' base (fun _ => True) (.slice (some ⟨g, 0, none⟩) l'.length c) l' ∧ w'.heap[bf]? = some (.cells fieldC 50 (0, 0)) ∧ Below base w0 w'
open Go.Shelf Go.Sort in
theorem sortW_block {W : World} {g m : Nat} {d : Array Rn_} {os : Array Obj} {b : Nat} (hb : b < W.heap.size) (hg : b ≠ g) : (sortWorldK encN 2 W g 0 m d os).heap[b]? = W.heap[b]? := by
  unfold sortWorldK grow putRowK putRow mapBlock Sort.ahead
  simp only
  rw [Array.getElem?_append_left (by simpa using hb), Array.getElem?_modify, if_neg (fun h => hg h.symm)]
open Go.Shelf Go.Sort in
theorem sortW_row {W : World} {g m : Nat} {d : Array Rn_} {os : Array Obj} {cur : Array Value} {e : Nat} (h : W.heap[g]? = some (.cells cur e (0, 0))) : (sortWorldK encN 2 W g 0 m d os).heap[g]? = some (.cells (putCells id 0 (flatK encN 2 d) cur) e (0, 0)) := by
  have hb : g < W.heap.size := blk_lt h
  unfold sortWorldK grow putRowK putRow mapBlock Sort.ahead
  simp only
  rw [Array.getElem?_append_left (by simpa using hb), Array.getElem?_modify, if_pos rfl, h]
  rfl
open Go.Shelf Go.Sort in
theorem sortW_grown {W : World} {g m : Nat} {d : Array Rn_} {os : Array Obj} : W.grownBy (sortWorldK encN 2 W g 0 m d os) (some g) := by
  refine ⟨rfl, rfl, rfl, ?_, fun b hb hg => sortW_block hb (fun e => hg (by rw [e]))⟩
  unfold sortWorldK grow putRowK putRow mapBlock Sort.ahead
  simp only [Array.size_append, Array.size_modify]
  omega
open Go.Shelf Go.Sort in
theorem sort_is : SortS := by
  intro W w0 base g c bf l hR hbf hbb hbel hbase hLL
  have hC := (Kd.R_reads' hR).2.2
  obtain ⟨_, hlc, _⟩ := Kd.R_reads' hR
  have hmax := Kd.C_max hC
  obtain ⟨h0, inner, ho, hr⟩ := id hR
  obtain ⟨ho1, ho2⟩ := ho
  rcases ho2 with ⟨hv, _⟩ | ⟨g', cap', cur, hv, hb, hh, hnc', hcm, hcs, ht⟩
  · cases hv
  injection hv with ha _ hc
  injection ha with ha
  injection ha with hg
  subst hg; subst hc
  have hlt : g < W.heap.size := blk_lt hh
  have hne : bf ≠ g := by
    rintro rfl
    rw [hh] at hbf
    injection hbf with hbf
    injection hbf with _ hbf
    exact absurd hbf (by decide)
  have hsz : l.toArray.size < 4611686018427387904 := by simpa using hLL
  have hget : ∀ (d : Array Rn_) (j : Nat), j < d.size * 2 → (flatK encN 2 d)[j]! = if j % 2 = 0 then .int .i64 (d[j / 2]!).f0 else .int .i64 (d[j / 2]!).f1 := by
    intro d j hj
    rw [get_flatK _ _ _ _ hj]
    rcases Nat.mod_two_eq_zero_or_one j with h | h <;> rw [h] <;> rfl
  have hH : HoldsK encN 2 W g 0 l.toArray := by
    intro j hj
    rw [size_flatK] at hj
    rw [hget _ _ hj]
    simp only [List.size_toArray] at hj
    have hjl : j / 2 < l.length := by omega
    obtain ⟨cs, hcl, hcM, hcc, hcf⟩ := Kd.R_elem hR z63 ((j / 2 : Nat) : Int) (by omega) (by omega)
    have he := k63_openM hcM
    have hx : l.getD (j / 2) z63 = l.toArray[j / 2]! := by
      simp [List.getD_eq_getElem?_getD, hjl]
    simp only [Int.toNat_natCast] at hcc hcf he
    rw [hx] at he
    have hsz2 : (k63).sz = 2 := rfl
    have hf := hcf (j % 2)
    have hq := hcc (j % 2)
    rw [hsz2, show j / 2 * 2 + j % 2 = 0 + j by omega] at hf hq
    refine ⟨hq _ ?_, hf⟩
    rw [he]
    rcases Nat.mod_two_eq_zero_or_one j with h | h <;> rw [h] <;> rfl
  have hcmp : CmpLays Try.prog 48 #[.pointer (some ⟨bf, 0, none⟩)] encN 2 cfN g 0 l.toArray.size W := by
    intro m os dk _ x y
    exact joincmp_is bf x y _ ((sortW_block (blk_lt hbf) hne).trans hbf)
  have eg : ∀ args w, (callFunc 48 args).run Try.prog w = .ok (.enter 48 args) w := enters_of Try.func48 (by kernel_rfl) rfl
  have hcon := AnyQ.slices_SortFunc sortRun 2 Try.isAgg63 Try.sizeOf63 encN (fun _ => rfl) (fun x v hv => by simp [encN] at hv; rcases hv with rfl | rfl <;> rfl) cfN swoN 48 #[.pointer (some ⟨bf, 0, none⟩)] g 0 c l.toArray W eg hcmp hH hlt hsz
  rw [List.size_toArray] at hcon
  refine hcon.mono ?_
  rintro e w' ⟨rfl, d', n, os, ⟨hp1, _, hp2⟩, hs, rfl⟩
  have hsd : d'.size = l.length := by rw [hp1, List.size_toArray]
  refine ⟨rfl, d'.toList, ?_, ?_, ?_, (sortW_block (blk_lt hbf) hne).trans hbf, hbel.grown sortW_grown hbase (fun k hk => by obtain rfl := Option.some.inj hk; exact hb)⟩
  · have e1 : d'.extract 0 l.length = d' := by rw [← hsd]; exact Array.extract_size
    have e2 : l.toArray.extract 0 l.length = l.toArray := by rw [← List.size_toArray]; exact Array.extract_size
    rw [e1, e2] at hp2
    exact hp2
  · rw [List.pairwise_iff_getElem]
    intro i j hi hj hij
    have h := hs i j (Nat.zero_le _) hij (by simpa [hsd] using hj)
    rw [ltN] at h
    simp only [Array.length_toList] at hi hj
    rw [getElem!_pos d' i hi, getElem!_pos d' j hj] at h
    have h2 := of_decide_eq_false h
    simpa using Int.not_lt.mp h2
  · have hdl : d'.toList.length = d'.size := rfl
    rw [hdl]
    refine ⟨fun _ _ => trivial, (flatK encN 2 d').toList, ⟨?_, .inr ⟨g, c, _, rfl, hb, sortW_row hh, by omega, hcm, ?_, ?_⟩⟩, ?_, ?_⟩
    · rw [hdl]; show (flatK encN 2 d').toList.length = d'.size * 2; simp
    · simp only [putCells, Array.size_mapIdx]; exact hcs
    · have hk2 : (k63).sz = 2 := rfl
      rw [hk2] at hcs ⊢
      apply List.ext_getElem?
      intro j
      rw [List.getElem?_take]
      have hle : d'.size * 2 ≤ cur.size := by rw [hcs]; omega
      simp only [Array.getElem?_toList, putCells, Array.getElem?_mapIdx]
      by_cases hj : j < d'.size * 2
      · have hjc : j < cur.size := by omega
        have hjf : j < (flatK encN 2 d').size := by rw [size_flatK]; exact hj
        rw [if_pos (by simpa using hj), Array.getElem?_eq_getElem hjc, Option.map_some, if_pos ⟨Nat.zero_le _, by omega⟩, Nat.sub_zero, Array.getElem?_eq_getElem hjf, getElem!_pos _ j hjf]
        rfl
      · rw [if_neg (by simpa using hj), Array.getElem?_eq_none (by rw [size_flatK]; omega)]
    · show (flatK encN 2 d').toList.length = d'.toList.length * 2; simp
    · intro j p hj
      simp only [Array.getElem?_toList] at hj
      obtain ⟨hjs, hjp⟩ := Array.getElem?_eq_some_iff.mp hj
      have hk2 : (k63).sz = 2 := rfl
      have e3 : ((flatK encN 2 d').toList.drop (j * 2)).take 2 = [.int .i64 p.f0, .int .i64 p.f1] := by
        apply List.ext_getElem?
        intro i
        rw [List.getElem?_take, List.getElem?_drop]
        by_cases hi : i < 2
        · have hji : j * 2 + i < d'.size * 2 := by omega
          have hjf : j * 2 + i < (flatK encN 2 d').size := by rw [size_flatK]; exact hji
          rw [if_pos hi, Array.getElem?_toList, Array.getElem?_eq_getElem hjf, ← getElem!_pos (flatK encN 2 d') (j * 2 + i) hjf, hget _ _ hji, show (j * 2 + i) / 2 = j by omega, show (j * 2 + i) % 2 = i by omega, getElem!_pos d' j hjs, hjp]
          match i, hi with
          | 0, _ => rfl
          | 1, _ => rfl
        · rw [if_neg hi, List.getElem?_eq_none (by simp; omega)]
      rw [hk2, e3]
      exact k63_mkM _ _ _ p
set_option maxRecDepth 100000 in
set_option maxHeartbeats 4000000 in
theorem ins0_is (A : Option Addr) (c : Nat) (F : Value) (w : World) : Calls Try.prog 55 #[.slice A 0 c, .int .i64 0, .int .i64 0, F] w fun e w' => e = .returned (.tuple #[]) ∧ Below w.heap.size w w' := by
  go_enter Try.func55, Try.ntmps55
  go_wp2
  go_loopg [8] 0 (fun kq v8 w' => v8 = .int .i64 1 ∧ w' = w)
  case atStart => exact ⟨rfl, rfl⟩
  case round =>
    obtain ⟨rfl, rfl⟩ := hrel
    go_wp2
    go_end0
    exact ⟨rfl, Below.refl _ _⟩
set_option maxRecDepth 100000 in
set_option maxHeartbeats 4000000 in
theorem pdq0_is (A : Option Addr) (c : Nat) (n : Int) (F : Value) (w : World) : Calls Try.prog 53 #[.slice A 0 c, .int .i64 0, .int .i64 0, .int .i64 n, F] w fun e w' => e = .returned (.tuple #[]) ∧ Below w.heap.size w w' := by
  go_enter Try.func53, Try.ntmps53
  go_wp2
  go_loopg [1, 2, 3] 0 (fun kq v1 v2 v3 w' => v1 = .int .i64 0 ∧ v2 = .int .i64 0 ∧ v3 = .int .i64 n ∧ w' = w)
  case atStart => exact ⟨rfl, rfl, rfl, rfl⟩
  case round =>
    obtain ⟨rfl, rfl, rfl, rfl⟩ := hrel
    go_wp2_with (go_at_call 55; refine (ins0_is A c F _).mono ?_; rintro e w5 ⟨rfl, hb5⟩)
    (try simp only [Exit.inBlock, Exit.then])
    refine bodyPost_ret (results_none rfl _ _ _) rfl ?_
    exact ⟨rfl, hb5⟩
set_option maxRecDepth 100000 in
set_option maxHeartbeats 4000000 in
theorem len640_is (w : World) : Calls Try.prog 64 #[.int .u64 0] w fun e w' => (∃ n : Int, e = .returned (.int .i64 n)) ∧ w' = w := by
  go_enter Try.func64, Try.ntmps64
  go_wp2
  go_ret
  exact ⟨⟨_, rfl⟩, rfl⟩
set_option maxRecDepth 100000 in
set_option maxHeartbeats 4000000 in
theorem len0_is (w : World) : Calls Try.prog 54 #[.int .u64 0] w fun e w' => (∃ n : Int, e = .returned (.int .i64 n)) ∧ w' = w := by
  go_enter Try.func54, Try.ntmps54
  go_wp2_with (go_at_call 64; refine (len640_is _).mono ?_; rintro e w5 ⟨⟨n0, rfl⟩, rfl⟩)
  go_ret
  exact ⟨⟨_, rfl⟩, rfl⟩
set_option maxRecDepth 100000 in
set_option maxHeartbeats 4000000 in
theorem sort0_is (A : Option Addr) (c : Nat) (F : Value) (w : World) : Calls Try.prog 47 #[.slice A 0 c, F] w fun e w' => e = .returned (.tuple #[]) ∧ Below w.heap.size w w' := by
  go_enter Try.func47, Try.ntmps47
  go_wp2_with (first | (go_at_call 54; refine (len0_is _).mono ?_; rintro e w5 ⟨⟨n0, rfl⟩, rfl⟩) | (go_at_call 53; refine (pdq0_is A c _ F _).mono ?_; rintro e w6 ⟨rfl, hb6⟩))
  go_end0
  exact ⟨rfl, hb6⟩
def joinS (out : List Rn_) (x : Rn_) : List Rn_ :=
  if out = [] ∨ ((rd_T63 out ((out.length - 1 : Nat) : Int)).f1 ≠ 1099511627776 ∧ (rd_T63 out ((out.length - 1 : Nat) : Int)).f1 + 1 < x.f0) then out ++ [x]
  else if (rd_T63 out ((out.length - 1 : Nat) : Int)).f1 < x.f1 then out.set (out.length - 1) ⟨(rd_T63 out ((out.length - 1 : Nat) : Int)).f0, x.f1⟩ else out
theorem joinS_len (out : List Rn_) (x : Rn_) : (joinS out x).length ≤ out.length + 1 := by unfold joinS; (repeat' split) <;> simp
theorem joinF_len (l : List Rn_) : ∀ out : List Rn_, (l.foldl joinS out).length ≤ out.length + l.length := by
  induction l with
  | nil => intro out; simp
  | cons x xs ih => intro out; have h1 := ih (joinS out x); have h2 := joinS_len out x; simp only [List.foldl_cons, List.length_cons]; omega
theorem joinS_bd (P : Int → Prop) (out : List Rn_) (x : Rn_) (ho : ∀ y ∈ out, P y.f1) (hx : P x.f1) : ∀ y ∈ joinS out x, P y.f1 := by
  unfold joinS
  intro y
  split
  · intro h; rcases List.mem_append.1 h with h | h
    · exact ho y h
    · rw [List.mem_singleton.1 h]; exact hx
  · split
    · intro h; rcases List.mem_or_eq_of_mem_set h with h | h
      · exact ho y h
      · rw [h]; exact hx
    · exact ho y
theorem joinF_bd (P : Int → Prop) (l : List Rn_) : ∀ out : List Rn_, (∀ y ∈ out, P y.f1) → (∀ y ∈ l, P y.f1) → ∀ y ∈ l.foldl joinS out, P y.f1 := by
  induction l with
  | nil => intro out ho _; exact ho
  | cons x xs ih => intro out ho hl; exact ih _ (joinS_bd P out x ho (hl x (List.mem_cons_self ..))) (fun y hy => hl y (List.mem_cons_of_mem _ hy))
theorem cmpI_lt (a b : Int) : decide (cmpI a b < 0) = decide (a < b) := by unfold cmpI; (repeat' split) <;> simp <;> omega
theorem infoN19 : (Try.prog.info? 63).map (fun i => (i.zero, i.size, i.bytes)) = some (some (.agg #[(.int .i64 0), (.int .i64 0)]), 2, 16) := by kernel_rfl
set_option maxRecDepth 100000 in
set_option maxHeartbeats 4000000 in
theorem joinP_is (A : Option Addr) (c : Nat) (l : List Rn_) (hne : 0 < l.length) (hL : (l.length + 1) * 16 ≤ 140737488355328) (hB : ∀ x ∈ l, 0 ≤ x.f1 ∧ x.f1 ≤ 1099511627776) (w : World) (hr : Kd.C k63 w A l.length l) (hc : l.length ≤ c) :
    Calls Try.prog 30 #[.agg fieldC, .slice A l.length c] w fun e w' => ∃ (v : Value) (l' : List Rn_), e = .returned v ∧ l'.Perm l ∧ l'.Pairwise (fun a b => a.f0 ≤ b.f0) ∧ Kd.R k63 63 w' w.heap.size (fun _ => True) v (l'.foldl joinS []) ∧ Below w.heap.size w w' := by
  have HR := Aside0.mk hr
  have HM := Aside0.mk (Kd.C_max hr)
  have HL := Aside0.mk hL
  have HBN := Aside0.mk hB
  have HNE := Aside0.mk hne
  clear hr hL hB
  go_enter Try.func30, Try.ntmps30
  have BF0 := Aside0.mk (heap_alloc_new w (.cells fieldC 50))
  have hb0 := Aside0.mk (below_alloc (Below.refl w.heap.size w) (.cells fieldC 50))
  unfold fieldC at BF0 hb0
  unfold fieldC
  go_wp2_with (first | (go_at_call 46; refine (clone_is A c l (by have := HL.out; omega) _ (Kd.C_below HR.out hb0.out) hc).mono ?_; rintro e w2 ⟨v2, rfl, hR2, hb2⟩; have HR2 := Aside0.mk (Kd.R_lower hR2 hb0.out.size); have HB2 := Aside0.mk (below_step hb0.out hb2); have BF2 := Aside0.mk (blk_below BF0.out hb2); clear hR2 hb2 hb0 BF0))
  obtain ⟨h00, inner, ho, hrr⟩ := HR2.out
  obtain ⟨hown1, (⟨_, h0⟩ | ⟨g, cap, cur, hv, hrest⟩)⟩ := ho
  · exact absurd HNE.out (by simp at h0; simp [h0])
  have hv' : v2 = .slice (some ⟨g, 0, none⟩) l.length cap := hv
  subst hv'
  clear h00 hrr hown1 hv hrest
  refine (sort_is w2 w w.heap.size g cap w.heap.size l HR2.out BF2.out (Nat.le_refl _) HB2.out HB2.out.size (by have := HL.out; omega)).mono ?_
  rintro e w3 ⟨rfl, l', hperm, hpw, hR3, hBF3, hB3⟩
  have HP := Aside0.mk hperm
  have HPW := Aside0.mk hpw
  have HR3 := Aside0.mk hR3
  have BF3 := Aside0.mk hBF3
  have HB3 := Aside0.mk hB3
  have HLN := Aside0.mk (hperm.length_eq)
  have HBN' := Aside0.mk (fun x (hx : x ∈ l') => HBN.out x (hperm.mem_iff.1 hx))
  clear hperm hpw hR3 hBF3 hB3 HR2 HB2 BF2
  rw [← HLN.out]
  go_wp2
  go_loopg [5, 16] l'.length (fun kq v5 v16 w' => ∃ (i : Nat), v16 = .int .i64 (i : Int) ∧ Aside0 (i ≤ l'.length ∧ kq = l'.length - i) ∧ Aside0 (Kd.R k63 63 w' w3.heap.size (fun _ => True) v5 ((l'.take i).foldl joinS [])) ∧ Aside0 (Below w3.heap.size w3 w'))
  case atStart => exact ⟨0, rfl, ⟨Nat.zero_le _, rfl⟩, ⟨Kd.R_nil _ _ _ _ _⟩, ⟨Below.refl _ _⟩⟩
  case round =>
    obtain ⟨i, rfl, HJ, HO, Hb⟩ := hrel
    have hm := Kd.C_max (Kd.R_reads' HR3.out).2.2
    have HM3 := Aside0.mk hm
    by_cases hi : i < l'.length
    · have hd : decide ((i : Int) < (l'.length : Int)) = true := decide_eq_true (by omega)
      have hdn : decide (i < l'.length) = true := decide_eq_true hi
      have htk : (l'.take (i + 1)).foldl joinS [] = joinS ((l'.take i).foldl joinS []) (rd_T63 l' (i : Int)) := by
        rw [List.take_succ_eq_append_getElem hi, List.foldl_append]
        simp only [List.foldl_cons, List.foldl_nil, rd_T63, Int.toNat_natCast, List.getD_eq_getElem?_getD, List.getElem?_eq_getElem hi, Option.getD_some]
      have p0 : (0 : Int) ≤ (i : Int) := by omega
      have q0 : (i : Int) < (l'.length : Int) := by omega
      have hxm : rd_T63 l' (i : Int) ∈ l' := by
        simp only [rd_T63, Int.toNat_natCast, List.getD_eq_getElem?_getD, List.getElem?_eq_getElem hi, Option.getD_some]
        exact List.getElem_mem hi
      have HXB := Aside0.mk (HBN'.out _ hxm)
      have HOL : Aside0 (((l'.take i).foldl joinS []).length ≤ i) := ⟨by have h1 := joinF_len (l'.take i) []; rw [List.length_take] at h1; simp only [List.length_nil] at h1; omega⟩
      have HOB : Aside0 (∀ y ∈ (l'.take i).foldl joinS [], 0 ≤ y.f1 ∧ y.f1 ≤ 1099511627776) := ⟨joinF_bd (fun z => 0 ≤ z ∧ z ≤ 1099511627776) (l'.take i) [] (fun _ h => by simp at h) (fun y hy => HBN'.out y (List.mem_of_mem_take hy))⟩
      obtain ⟨ad, ead, hx0, hx1⟩ := at_T63 (Kd.C_below (Kd.R_reads' HR3.out).2.2 Hb.out) (i : Int) p0 q0
      obtain rfl := Option.some.inj ead
      simp only [Int.toNat_natCast, add_at, Nat.zero_add] at hx0 hx1
      obtain ⟨x, hx⟩ : ∃ x, rd_T63 l' (i : Int) = x := ⟨_, rfl⟩
      rw [hx] at hx0 hx1 htk HXB
      obtain ⟨out, hout⟩ : ∃ out, (l'.take i).foldl joinS [] = out := ⟨_, rfl⟩
      rw [hout] at HO HOL HOB htk
      have HT := Aside0.mk htk
      have HII := Aside0.mk hi
      obtain ⟨A5, c5, rfl⟩ := Kd.R_slice HO.out
      replace p0 := eq_true p0
      replace q0 := eq_true q0
      clear hx hxm htk hout
      have BFr := Aside0.mk (blk_alloc (blk_below BF3.out Hb.out) (.cells #[.int .i64 x.f0, .int .i64 x.f1] 63))
      have BX := Aside0.mk (heap_alloc_new wr (.cells #[.int .i64 x.f0, .int .i64 x.f1] 63))
      have HOX := Aside0.mk (Kd.R_alloc HO.out (.cells #[.int .i64 x.f0, .int .i64 x.f1] 63))
      have HbX := Aside0.mk (below_alloc Hb.out (.cells #[.int .i64 x.f0, .int .i64 x.f1] 63))
      by_cases hn : 0 < out.length
      · obtain ⟨t, ht⟩ : ∃ t, rd_T63 out ((out.length - 1 : Nat) : Int) = t := ⟨_, rfl⟩
        obtain ⟨gr, cr, hsl, hgb, hgl, _⟩ := Kd.R_form HOX.out hn
        simp only [Value.slice.injEq] at hsl
        obtain ⟨rfl, _, rfl⟩ := hsl
        have htm : t ∈ out := by
          rw [← ht]
          simp only [rd_T63, Int.toNat_natCast, List.getD_eq_getElem?_getD, List.getElem?_eq_getElem (show out.length - 1 < out.length by omega), Option.getD_some]
          exact List.getElem_mem _
        have HTB := Aside0.mk (HOB.out t htm)
        obtain ⟨ad', ead', hy0, hy1⟩ := at_T63 (Kd.R_reads' HOX.out).2.2 ((out.length - 1 : Nat) : Int) (by omega) (by omega)
        obtain rfl := Option.some.inj ead'
        simp only [Int.toNat_natCast, add_at, Nat.zero_add] at hy0 hy1
        rw [ht] at hy0 hy1
        have HNI := Aside0.mk (show out.length < 9223372036854775807 by have h1 := HOL.out; have h2 := HII.out; omega)
        have wi : IntKind.i64.wrap ((out.length : Int) - 1) = (out.length : Int) - 1 := by rw [i64_w]; unfold wrap64; have := HNI.out; omega
        have ti : ((out.length : Int) - 1).toNat = out.length - 1 := by omega
        have pi0 : (0 ≤ (out.length : Int) - 1) = True := eq_true (by omega)
        have qi0 : ((out.length : Int) - 1 < (out.length : Int)) = True := eq_true (by omega)
        have pi1 : (1 ≤ (out.length : Int)) = True := eq_true (by omega)
        have pi2 : (1 ≤ out.length) = True := eq_true (by omega)
        have dn : decide ((out.length : Int) - 1 < 0) = false := decide_eq_false (by omega)
        have hg1 := (blk_cell BFr.out 1).trans (rfl : _ = some (Value.int .i64 1099511627776))
        have hg2 := (blk_cell BFr.out 2).trans (rfl : _ = some (Value.func (.func 43) #[] #[]))
        have hg3 := (blk_cell BFr.out 3).trans (rfl : _ = some (Value.func (.func 44) #[] #[]))
        have hx0 := (blk_cell BX.out 0).trans (rfl : _ = some (Value.int .i64 x.f0))
        have e4 : decide (cmpI (t.f1 + 1) x.f0 < 0) = decide (t.f1 + 1 < x.f0) := cmpI_lt _ _
        have HN := Aside0.mk hn
        have HTT := Aside0.mk ht
        clear ht htm hn
        by_cases c1 : t.f1 ≠ 1099511627776 ∧ t.f1 + 1 < x.f0
        · have d4 : (t.f1 != 1099511627776) = true := bne_iff_ne.mpr c1.1
          have d5 : decide (t.f1 + 1 < x.f0) = true := decide_eq_true c1.2
          have hjs : joinS out x = out ++ [x] := if_pos (.inr (by rw [HTT.out]; exact c1))
          clear c1
          go_wp2
          go_quiet ((first | (go_at_call 43; exact Calls.quiet_of_same (cmp_is _ _ _)) | (go_at_call 44; exact Calls.quiet_of_same (next_is _ (by have := HTB.out; omega) (by have := HTB.out; omega) _))))
          have HO2 := Aside0.mk (Kd.R_below HOX.out (pw_below_drewN (Below.refl _ _) nq))
          have Hb2 := Aside0.mk (pw_below_drewN HbX.out nq)
          have BX2 := Aside0.mk (blk_drewN BX.out nq)
          have hz0 := (blk_cell BX2.out 0).trans (rfl : _ = some (Value.int .i64 x.f0))
          have hz1 := (blk_cell BX2.out 1).trans (rfl : _ = some (Value.int .i64 x.f1))
          go_wp2_with (at_builtin; refine Kd.R_append k63 (w0 := w3) w3.heap.size rfl (.tmp 51) (.tmp 53) 46 63 (.agg #[(.int .i64 0), (.int .i64 0)]) 16 rfl Try.underlying46 infoN19 rfl (by decide) (by omega) _ out x [.int .i64 x.f0, .int .i64 x.f1] (fun _ => True) (fun _ => False) rfl ?aX (k63_mkM _ _ _ x) (fun _ hk => hk.elim) (fun _ _ => trivial) HO2.out Hb2.out Hb2.out.size (by have h1 := HL.out; have h2 := HOL.out; have h3 := HII.out; have h4 := HLN.out; omega) ?_; (case aX => first | rfl | (go_simp; done) | (go_simp; rfl)); intro v1 w1 ho1 hb1 hg1 hat1; have HO1 := Aside0.mk ho1; have Hb1 := Aside0.mk hb1; clear ho1 hb1 hg1 hat1)
          all_goals
            go_roundg (l'.length - (i + 1))
            case measure => have := HJ.out; have := HII.out; omega
            case rel => exact ⟨i + 1, by go_num, ⟨by have := HII.out; omega, rfl⟩, ⟨by rw [HT.out, hjs]; exact HO1.out⟩, Hb1⟩
        · have hjn : ¬ (out = [] ∨ ((rd_T63 out ((out.length - 1 : Nat) : Int)).f1 ≠ 1099511627776 ∧ (rd_T63 out ((out.length - 1 : Nat) : Int)).f1 + 1 < x.f0)) := by
            rw [HTT.out]
            rintro (h | h)
            · have := HN.out; rw [h] at this; simp at this
            · exact c1 h
          have cr : (t.f1 != 1099511627776) = false ∨ ((t.f1 != 1099511627776) = true ∧ decide (t.f1 + 1 < x.f0) = false) := by
            by_cases c : t.f1 = 1099511627776
            · exact .inl (bne_eq_false_iff_eq.mpr c)
            · exact .inr ⟨bne_iff_ne.mpr c, decide_eq_false (fun h => c1 ⟨c, h⟩)⟩
          have e5 : decide (cmpI t.f1 x.f1 < 0) = decide (t.f1 < x.f1) := cmpI_lt _ _
          have HJN := Aside0.mk hjn
          clear c1 hjn
          by_cases c2 : t.f1 < x.f1
          case' pos =>
            have hjs : joinS out x = out.set (out.length - 1) ⟨t.f0, x.f1⟩ := by unfold joinS; rw [if_neg HJN.out, HTT.out, if_pos c2]
            have d6 : decide (t.f1 < x.f1) = true := decide_eq_true c2
          case' neg =>
            have hjs : joinS out x = out := by unfold joinS; rw [if_neg HJN.out, HTT.out, if_neg c2]
            have d6 : decide (t.f1 < x.f1) = false := decide_eq_false c2
          all_goals
            have HJS := Aside0.mk hjs
            clear c2 hjs
            rcases cr with d4 | ⟨d4, d5⟩
          all_goals
            go_wp2
            go_quiet ((first | (go_at_call 43; exact Calls.quiet_of_same (cmp_is _ _ _)) | (go_at_call 44; exact Calls.quiet_of_same (next_is _ (by have := HTB.out; omega) (by have := HTB.out; omega) _))))
            have HO8 := Aside0.mk (Kd.R_below HOX.out (pw_below_drewN (Below.refl _ _) nq))
            have Hb8 := Aside0.mk (pw_below_drewN HbX.out nq)
            have BF8 := Aside0.mk (blk_drewN BFr.out nq)
            have BX8 := Aside0.mk (blk_drewN BX.out nq)
            clear hy0 hy1 hg1 hg2 hg3 hx0 hx1 HOX HbX BFr BX HO Hb
            generalize (wr.alloc (.cells #[.int .i64 x.f0, .int .i64 x.f1] 63)).drewN nq = W8 at HO8 Hb8 BF8 BX8 ⊢
            obtain ⟨ad8, ead8, hy0, hy1⟩ := at_T63 (Kd.R_reads' HO8.out).2.2 ((out.length - 1 : Nat) : Int) (by have := HN.out; omega) (by have := HN.out; omega)
            obtain rfl := Option.some.inj ead8
            simp only [Int.toNat_natCast, add_at, Nat.zero_add] at hy0 hy1
            rw [HTT.out] at hy0 hy1
            have hg2 := (blk_cell BF8.out 2).trans (rfl : _ = some (Value.func (.func 43) #[] #[]))
            have hx1 := (blk_cell BX8.out 1).trans (rfl : _ = some (Value.int .i64 x.f1))
            go_wp2
            go_quiet ((first | (go_at_call 43; exact Calls.quiet_of_same (cmp_is _ _ _)) | (go_at_call 44; exact Calls.quiet_of_same (next_is _ (by have := HTB.out; omega) (by have := HTB.out; omega) _))))
            have HO9 := Aside0.mk (Kd.R_below HO8.out (pw_below_drewN (Below.refl _ _) nq))
            have Hb9 := Aside0.mk (pw_below_drewN Hb8.out nq)
            have BX9 := Aside0.mk (blk_drewN BX8.out nq)
            clear hy0 hy1 hg2 hx1 HO8 Hb8 BF8 BX8
            generalize W8.drewN nq = W9 at HO9 Hb9 BX9 ⊢
            have hx1 := (blk_cell BX9.out 1).trans (rfl : _ = some (Value.int .i64 x.f1))
            first
            | (obtain ⟨cs4, hcl4, hcM4, hcc4, hcf4⟩ := Kd.R_elem HO9.out z63 ((out.length - 1 : Nat) : Int) (by have := HN.out; omega) (by have := HN.out; omega)
               have HE4 := Aside0.mk (show cs4 = _ from k63_openM hcM4)
               have hz1 : W9.cell? ⟨gr, (out.length - 1) * 2 + 1, none⟩ = some (.int .i64 t.f1) := by
                 have h_ := hcc4 1 (.int .i64 t.f1) (by rw [HE4.out]; simp only [Int.toNat_natCast, ← HTT.out]; rfl)
                 simp only [Int.toNat_natCast] at h_
                 exact h_
               have hzf : W9.frozen? ⟨gr, (out.length - 1) * 2 + 1, none⟩ = false := by
                 have h_ := hcf4 1
                 simp only [Int.toNat_natCast] at h_
                 exact h_
               have hR := (Kd.R_seg HO9.out ((out.length - 1 : Nat) : Int) (by have := HN.out; omega) (by have := HN.out; omega) (c := cs4) (seg := [.int .i64 x.f1]) (j := 1) hcl4 hcc4 (show 1 + 1 ≤ 2 by decide) (x' := (⟨t.f0, x.f1⟩ : Rn_)) (okp := fun _ => False) (by rw [HE4.out]; simp only [Int.toNat_natCast]; exact (by have e_ : out.getD (out.length - 1) z63 = t := HTT.out; rw [e_]; exact k63_mkM _ _ _ (⟨t.f0, x.f1⟩ : Rn_))) (fun _ hk => hk.elim)).1
               simp only [Int.toNat_natCast] at hR
               have HOF := Aside0.mk hR
               have HbF := Aside0.mk (Hb9.out.setCell (p := ⟨gr, (out.length - 1) * 2 + 1, none⟩) hgb (.int .i64 x.f1))
               clear hcl4 hcM4 hcc4 hcf4 hR
               rw [show decide (t.f1 < x.f1) = true from d6] at e5
               go_wp2
               go_roundg (l'.length - (i + 1))
               case measure => have := HJ.out; have := HII.out; omega
               case rel => exact ⟨i + 1, by go_num, ⟨by have := HII.out; omega, rfl⟩, ⟨by rw [HT.out, HJS.out]; exact HOF.out⟩, HbF⟩)
            | (go_wp2
               go_roundg (l'.length - (i + 1))
               case measure => have := HJ.out; have := HII.out; omega
               case rel => exact ⟨i + 1, by go_num, ⟨by have := HII.out; omega, rfl⟩, ⟨by rw [HT.out, HJS.out]; exact HO9.out⟩, Hb9⟩)
      · obtain rfl : out = [] := List.length_eq_zero_iff.mp (by omega)
        have hjs : joinS [] x = [] ++ [x] := if_pos (.inl rfl)
        simp only [List.length_nil] at *
        have wi : IntKind.i64.wrap (((0 : Nat) : Int) - 1) = -1 := by rw [i64_w]; unfold wrap64; omega
        have dn : decide ((-1 : Int) < 0) = true := by decide
        go_wp2
        go_quiet (fail)
        have HO2 := Aside0.mk (Kd.R_below HOX.out (pw_below_drewN (Below.refl _ _) nq))
        have Hb2 := Aside0.mk (pw_below_drewN HbX.out nq)
        have BX2 := Aside0.mk (blk_drewN BX.out nq)
        have hz0 := (blk_cell BX2.out 0).trans (rfl : _ = some (Value.int .i64 x.f0))
        have hz1 := (blk_cell BX2.out 1).trans (rfl : _ = some (Value.int .i64 x.f1))
        go_wp2_with (at_builtin; refine Kd.R_append k63 (w0 := w3) w3.heap.size rfl (.tmp 51) (.tmp 53) 46 63 (.agg #[(.int .i64 0), (.int .i64 0)]) 16 rfl Try.underlying46 infoN19 rfl (by decide) (by omega) _ [] x [.int .i64 x.f0, .int .i64 x.f1] (fun _ => True) (fun _ => False) rfl ?aX (k63_mkM _ _ _ x) (fun _ hk => hk.elim) (fun _ _ => trivial) HO2.out Hb2.out Hb2.out.size (by have h1 := HL.out; have h3 := HII.out; have h4 := HLN.out; simp only [List.length_nil]; omega) ?_; (case aX => first | rfl | (go_simp; done) | (go_simp; rfl)); intro v1 w1 ho1 hb1 hg1 hat1; have HO1 := Aside0.mk ho1; have Hb1 := Aside0.mk hb1; clear ho1 hb1 hg1 hat1)
        all_goals
          go_roundg (l'.length - (i + 1))
          case measure => have := HJ.out; have := HII.out; omega
          case rel => exact ⟨i + 1, by go_num, ⟨by have := HII.out; omega, rfl⟩, ⟨by rw [HT.out, hjs]; exact HO1.out⟩, Hb1⟩
    · have hd : decide ((i : Int) < (l'.length : Int)) = false := decide_eq_false (by omega)
      have hdn : decide (i < l'.length) = false := decide_eq_false hi
      have ho := HO.out
      rw [List.take_of_length_le (by omega)] at ho
      have HO2 := Aside0.mk ho
      clear ho
      go_wp2
      go_ret
      exact ⟨_, l', rfl, HP.out, HPW.out, Kd.R_lower HO2.out HB3.out.size, below_step HB3.out Hb.out⟩
def okR (x : Rn_) : Prop := 0 ≤ x.f0 ∧ x.f0 ≤ x.f1 ∧ x.f1 ≤ 1099511627776
def inN (t : Int) (l : List Rn_) : Prop := ∃ y ∈ l, y.f0 ≤ t ∧ t ≤ y.f1
def Snd (l : List Rn_) : Prop := (∀ y ∈ l, okR y) ∧ l.Pairwise (fun a b => a.f1 + 1 < b.f0)
theorem inN_cons (t : Int) (y : Rn_) (l : List Rn_) : inN t (y :: l) ↔ (y.f0 ≤ t ∧ t ≤ y.f1) ∨ inN t l := by
  unfold inN
  simp only [List.mem_cons, exists_eq_or_imp]
theorem inN_app (t : Int) (l m : List Rn_) : inN t (l ++ m) ↔ inN t l ∨ inN t m := by
  unfold inN
  simp only [List.mem_append, or_and_right, exists_or]
theorem inN_one (t : Int) (y : Rn_) : inN t [y] ↔ (y.f0 ≤ t ∧ t ≤ y.f1) := by
  unfold inN
  simp
theorem Snd.low {y : Rn_} {l : List Rn_} (h : Snd (y :: l)) {t : Int} (ht : inN t l) : y.f1 + 1 < t := by
  obtain ⟨z, hz, h1, _⟩ := ht
  have := (List.pairwise_cons.1 h.2).1 z hz
  omega
theorem Snd.tail {y : Rn_} {l : List Rn_} (h : Snd (y :: l)) : Snd l := ⟨fun z hz => h.1 z (List.mem_cons_of_mem _ hz), (List.pairwise_cons.1 h.2).2⟩
theorem Snd.one : ∀ (l m : List Rn_), Snd l → Snd m → (∀ t, inN t l ↔ inN t m) → l = m
  | [], [], _, _, _ => rfl
  | [], y :: m, _, hm, h => by
    obtain ⟨z, hz, _⟩ := (h y.f0).2 ((inN_cons _ _ _).2 (.inl ⟨Int.le_refl _, (hm.1 y (List.mem_cons_self ..)).2.1⟩))
    simp at hz
  | x :: l, [], hl, _, h => by
    obtain ⟨z, hz, _⟩ := (h x.f0).1 ((inN_cons _ _ _).2 (.inl ⟨Int.le_refl _, (hl.1 x (List.mem_cons_self ..)).2.1⟩))
    simp at hz
  | x :: l, y :: m, hl, hm, h => by
    have a2 := (hl.1 x (List.mem_cons_self ..)).2.1
    have b2 := (hm.1 y (List.mem_cons_self ..)).2.1
    have up : ∀ {z : Rn_} {r : List Rn_} {t : Int}, Snd (z :: r) → inN t (z :: r) → z.f0 ≤ t ∧ (t ≤ z.f1 ∨ z.f1 + 1 < t) := fun {z r t} hr ht => by
      have h9 := (hr.1 z (List.mem_cons_self ..)).2.1
      rcases (inN_cons t z r).1 ht with a | a
      · exact ⟨a.1, .inl a.2⟩
      · have := hr.low a
        exact ⟨by omega, .inr this⟩
    have e0 : x.f0 = y.f0 := by
      have h1 := (up hm ((h x.f0).1 ((inN_cons _ _ _).2 (.inl ⟨Int.le_refl _, a2⟩)))).1
      have h2 := (up hl ((h y.f0).2 ((inN_cons _ _ _).2 (.inl ⟨Int.le_refl _, b2⟩)))).1
      omega
    have e1 : x.f1 = y.f1 := by
      by_cases c : x.f1 < y.f1
      · have h1 := (up hl ((h (x.f1 + 1)).2 ((inN_cons _ _ _).2 (.inl ⟨by omega, by omega⟩)))).2
        omega
      · by_cases d : y.f1 < x.f1
        · have h1 := (up hm ((h (y.f1 + 1)).1 ((inN_cons _ _ _).2 (.inl ⟨by omega, by omega⟩)))).2
          omega
        · omega
    have exy : x = y := by
      cases x; cases y
      simp only at e0 e1
      rw [e0, e1]
    subst exy
    rw [Snd.one l m hl.tail hm.tail (fun t => ?_)]
    have ht := h t
    rw [inN_cons, inN_cons] at ht
    constructor
    · intro hh
      have g := hl.low hh
      rcases ht.1 (.inr hh) with a | a
      · omega
      · exact a
    · intro hh
      have g := hm.low hh
      rcases ht.2 (.inr hh) with a | a
      · omega
      · exact a
theorem rd_last (dl : List Rn_) (t : Rn_) : rd_T63 (dl ++ [t]) (((dl ++ [t]).length - 1 : Nat) : Int) = t := by
  simp [rd_T63, List.getD_eq_getElem?_getD]
theorem set_last (dl : List Rn_) (t z : Rn_) : (dl ++ [t]).set ((dl ++ [t]).length - 1) z = dl ++ [z] := by
  simp
theorem joinS_snd (out : List Rn_) (x : Rn_) (ho : Snd out) (hx : okR x) (hle : ∀ y ∈ out, y.f0 ≤ x.f0) : Snd (joinS out x) ∧ (∀ t, inN t (joinS out x) ↔ inN t out ∨ (x.f0 ≤ t ∧ t ≤ x.f1)) ∧ ∀ y ∈ joinS out x, y.f0 ≤ x.f0 := by
  rcases List.eq_nil_or_concat out with rfl | ⟨dl, t, rfl⟩
  · have e : joinS [] x = [x] := if_pos (.inl rfl)
    rw [e]
    exact ⟨⟨fun y hy => by rw [List.mem_singleton.1 hy]; exact hx, List.pairwise_singleton _ _⟩, fun t => by rw [inN_one]; exact ⟨.inr, fun h => h.elim (fun ⟨z, hz, _⟩ => by simp at hz) id⟩, fun y hy => by rw [List.mem_singleton.1 hy]; exact Int.le_refl _⟩
  · rw [List.concat_eq_append] at *
    obtain ⟨ho1, ho2⟩ := ho
    rw [List.pairwise_append] at ho2
    obtain ⟨hp, _, hq⟩ := ho2
    have htk := ho1 t (by simp)
    have htx := hle t (by simp)
    have hdt : ∀ y ∈ dl, y.f1 + 1 < t.f0 := fun y hy => hq y hy t (by simp)
    unfold joinS
    rw [rd_last, set_last]
    obtain ⟨x1, x2, x3⟩ := hx
    obtain ⟨t1, t2, t3⟩ := htk
    by_cases c : dl ++ [t] = [] ∨ (t.f1 ≠ 1099511627776 ∧ t.f1 + 1 < x.f0)
    · rw [if_pos c]
      have c2 : t.f1 + 1 < x.f0 := (c.resolve_left (by simp)).2
      refine ⟨⟨fun y hy => ?_, ?_⟩, fun s => by rw [inN_app _ (dl ++ [t]), inN_one], fun y hy => ?_⟩
      · rcases List.mem_append.1 hy with h | h
        · exact ho1 y h
        · rw [List.mem_singleton.1 h]; exact ⟨x1, x2, x3⟩
      · rw [List.pairwise_append]
        refine ⟨by rw [List.pairwise_append]; exact ⟨hp, List.pairwise_singleton _ _, hq⟩, List.pairwise_singleton _ _, fun a ha b hb => ?_⟩
        rw [List.mem_singleton.1 hb]
        rcases List.mem_append.1 ha with h | h
        · have := hdt a h; omega
        · rw [List.mem_singleton.1 h]; exact c2
      · rcases List.mem_append.1 hy with h | h
        · exact hle y h
        · rw [List.mem_singleton.1 h]; exact Int.le_refl _
    · rw [if_neg c]
      have c2 : x.f0 ≤ t.f1 + 1 := by
        by_cases d : t.f1 = 1099511627776
        · omega
        · exact Int.not_lt.1 (fun h => c (.inr ⟨d, h⟩))
      by_cases d : t.f1 < x.f1
      · rw [if_pos d]
        refine ⟨⟨fun y hy => ?_, ?_⟩, fun s => ?_, fun y hy => ?_⟩
        · rcases List.mem_append.1 hy with h | h
          · exact ho1 y (by simp [h])
          · rw [List.mem_singleton.1 h]; exact ⟨t1, by show t.f0 ≤ x.f1; omega, x3⟩
        · rw [List.pairwise_append]
          refine ⟨hp, List.pairwise_singleton _ _, fun a ha b hb => ?_⟩
          rw [List.mem_singleton.1 hb]
          exact hdt a ha
        · rw [inN_app, inN_app, inN_one, inN_one, or_assoc]
          have : (t.f0 ≤ s ∧ s ≤ x.f1) ↔ ((t.f0 ≤ s ∧ s ≤ t.f1) ∨ (x.f0 ≤ s ∧ s ≤ x.f1)) := by omega
          exact or_congr Iff.rfl this
        · rcases List.mem_append.1 hy with h | h
          · exact hle y (by simp [h])
          · rw [List.mem_singleton.1 h]; exact htx
      · rw [if_neg d]
        refine ⟨⟨ho1, by rw [List.pairwise_append]; exact ⟨hp, List.pairwise_singleton _ _, hq⟩⟩, fun s => ⟨.inl, fun h => h.elim id (fun h => ?_)⟩, hle⟩
        exact (inN_app _ _ _).2 (.inr ((inN_one _ _).2 (by omega)))
theorem joinF_snd : ∀ (l out : List Rn_), Snd out → (∀ x ∈ l, okR x) → l.Pairwise (fun a b => a.f0 ≤ b.f0) → (∀ y ∈ out, ∀ x ∈ l, y.f0 ≤ x.f0) → Snd (l.foldl joinS out) ∧ ∀ t, inN t (l.foldl joinS out) ↔ inN t out ∨ inN t l
  | [], out, ho, _, _, _ => ⟨ho, fun t => ⟨.inl, fun h => h.elim id (fun ⟨z, hz, _⟩ => by simp at hz)⟩⟩
  | x :: l, out, ho, hl, hp, hle => by
    obtain ⟨h1, h2, h3⟩ := joinS_snd out x ho (hl x (List.mem_cons_self ..)) (fun y hy => hle y hy x (List.mem_cons_self ..))
    obtain ⟨p1, p2⟩ := List.pairwise_cons.1 hp
    obtain ⟨h4, h5⟩ := joinF_snd l (joinS out x) h1 (fun z hz => hl z (List.mem_cons_of_mem _ hz)) p2 (fun y hy z hz => Int.le_trans (h3 y hy) (p1 z hz))
    refine ⟨h4, fun t => ?_⟩
    rw [List.foldl_cons, h5, h2, inN_cons, or_assoc]
def insR (x : Rn_) : List Rn_ → List Rn_
  | [] => [x]
  | y :: ys => if x.f0 ≤ y.f0 then x :: y :: ys else y :: insR x ys
def sortR : List Rn_ → List Rn_
  | [] => []
  | x :: xs => insR x (sortR xs)
theorem insR_perm (x : Rn_) : ∀ l, (insR x l).Perm (x :: l)
  | [] => List.Perm.refl _
  | y :: ys => by
    by_cases c : x.f0 ≤ y.f0
    · rw [show insR x (y :: ys) = x :: y :: ys from if_pos c]
    · rw [show insR x (y :: ys) = y :: insR x ys from if_neg c]
      exact ((insR_perm x ys).cons y).trans (List.Perm.swap _ _ _)
theorem insR_pw (x : Rn_) : ∀ l : List Rn_, l.Pairwise (fun a b => a.f0 ≤ b.f0) → (insR x l).Pairwise (fun a b => a.f0 ≤ b.f0)
  | [], _ => List.pairwise_singleton _ _
  | y :: ys, h => by
    obtain ⟨h1, h2⟩ := List.pairwise_cons.1 h
    by_cases c : x.f0 ≤ y.f0
    · rw [show insR x (y :: ys) = x :: y :: ys from if_pos c]
      refine List.pairwise_cons.2 ⟨fun z hz => ?_, h⟩
      rcases List.mem_cons.1 hz with e | m
      · rw [e]; exact c
      · exact Int.le_trans c (h1 z m)
    · rw [show insR x (y :: ys) = y :: insR x ys from if_neg c]
      refine List.pairwise_cons.2 ⟨fun z hz => ?_, insR_pw x ys h2⟩
      rcases List.mem_cons.1 ((insR_perm x ys).mem_iff.1 hz) with e | m
      · rw [e]; omega
      · exact h1 z m
theorem sortR_perm : ∀ l, (sortR l).Perm l
  | [] => List.Perm.refl _
  | x :: xs => (insR_perm x (sortR xs)).trans ((sortR_perm xs).cons x)
theorem sortR_pw : ∀ l, (sortR l).Pairwise (fun a b => a.f0 ≤ b.f0)
  | [] => List.Pairwise.nil
  | x :: xs => insR_pw x _ (sortR_pw xs)
def joinR (l : List Rn_) : List Rn_ := (sortR l).foldl joinS []
theorem inN_perm {l m : List Rn_} (h : l.Perm m) (t : Int) : inN t l ↔ inN t m := ⟨fun ⟨y, hy, r⟩ => ⟨y, h.mem_iff.1 hy, r⟩, fun ⟨y, hy, r⟩ => ⟨y, h.mem_iff.2 hy, r⟩⟩
theorem join_of {l l' : List Rn_} (hB : ∀ x ∈ l, okR x) (hp : l'.Perm l) (hs : l'.Pairwise (fun a b => a.f0 ≤ b.f0)) : Snd (l'.foldl joinS []) ∧ ∀ t, inN t (l'.foldl joinS []) ↔ inN t l := by
  obtain ⟨h1, h2⟩ := joinF_snd l' [] ⟨fun y hy => by simp at hy, List.Pairwise.nil⟩ (fun x hx => hB x (hp.mem_iff.1 hx)) hs (fun y hy => by simp at hy)
  refine ⟨h1, fun t => ?_⟩
  rw [h2, inN_perm hp]
  exact ⟨fun h => h.elim (fun ⟨z, hz, _⟩ => by simp at hz) id, .inr⟩
theorem joinR_ok {l : List Rn_} (hB : ∀ x ∈ l, okR x) : Snd (joinR l) ∧ ∀ t, inN t (joinR l) ↔ inN t l := join_of hB (sortR_perm l) (sortR_pw l)
theorem joinR_len (l : List Rn_) : (joinR l).length ≤ l.length := by
  have h1 := joinF_len (sortR l) []
  have h2 := (sortR_perm l).length_eq
  unfold joinR
  simp only [List.length_nil] at h1
  omega
set_option maxRecDepth 100000 in
set_option maxHeartbeats 4000000 in
theorem join0_is (A : Option Addr) (c : Nat) (w : World) (hr : Kd.C k63 w A 0 []) :
    Calls Try.prog 30 #[.agg fieldC, .slice A 0 c] w fun e w' => ∃ (v : Value), e = .returned v ∧ Kd.R k63 63 w' w.heap.size (fun _ => True) v [] ∧ Below w.heap.size w w' := by
  have HR := Aside0.mk hr
  clear hr
  go_enter Try.func30, Try.ntmps30
  have hb0 := Aside0.mk (below_alloc (Below.refl w.heap.size w) (.cells fieldC 50))
  unfold fieldC at hb0
  unfold fieldC
  go_wp2_with (first | (go_at_call 46; refine (clone_is A c [] (by simp) _ (Kd.C_below HR.out hb0.out) (Nat.zero_le _)).mono ?_; rintro e w2 ⟨v2, rfl, hR2, hb2⟩; have HB2 := Aside0.mk (below_step hb0.out hb2); obtain ⟨A2, c2, rfl⟩ := Kd.R_slice hR2; clear hR2 hb2 hb0) | (go_at_call 47; refine (sort0_is A2 c2 _ _).mono ?_; rintro e w3 ⟨rfl, hb3⟩; have HB3 := Aside0.mk (below_step HB2.out hb3); clear hb3))
  go_loopg [5, 16] 0 (fun kq v5 v16 w' => v5 = .slice none 0 0 ∧ v16 = .int .i64 0 ∧ w' = w3)
  case atStart => exact ⟨rfl, rfl, rfl⟩
  case round =>
    obtain ⟨rfl, rfl, rfl⟩ := hrel
    go_wp2
    go_ret
    exact ⟨_, rfl, Kd.R_nil _ _ _ _ _, HB3.out⟩
theorem join_is (A : Option Addr) (c : Nat) (l : List Rn_) (hL : (l.length + 1) * 16 ≤ 140737488355328) (hB : ∀ x ∈ l, okR x) (w : World) (hr : Kd.C k63 w A l.length l) (hc : l.length ≤ c) :
    Calls Try.prog 30 #[.agg fieldC, .slice A l.length c] w fun e w' => ∃ (v : Value), e = .returned v ∧ Kd.R k63 63 w' w.heap.size (fun _ => True) v (joinR l) ∧ Below w.heap.size w w' := by
  by_cases hne : 0 < l.length
  · refine (joinP_is A c l hne hL (fun x hx => ⟨by have := hB x hx; unfold okR at this; omega, (hB x hx).2.2⟩) w hr hc).mono ?_
    rintro e w' ⟨v, l', rfl, hp, hs, hR, hb⟩
    obtain ⟨a1, a2⟩ := join_of hB hp hs
    obtain ⟨b1, b2⟩ := joinR_ok hB
    have e := Snd.one _ _ a1 b1 (fun t => (a2 t).trans (b2 t).symm)
    rw [e] at hR
    exact ⟨v, rfl, hR, hb⟩
  · obtain rfl : l = [] := List.length_eq_zero_iff.mp (by omega)
    exact join0_is A c w hr
theorem two_rows {W : World} {g : Nat} {A0 A1 : Option Addr} {c0 c1 : Nat} {l0 l1 : List S36} (hg : W.heap[g]? = some (.cells #[.slice A0 l0.length c0, .slice A1 l1.length c1] 22 (0, 0))) (h0 : Kd.C k36 W A0 l0.length l0) (hc0 : l0.length ≤ c0) (h1 : Kd.C k36 W A1 l1.length l1) (hc1 : l1.length ≤ c1) :
    Kd.C (Kd.slice 36 k36) W (some ⟨g, 0, none⟩) [l0, l1].length [l0, l1] := by
  refine ⟨rfl, by simp, fun _ => ⟨_, rfl, fun j p hj => ?_⟩⟩
  match j, hj with
  | 0, hj =>
    obtain rfl := Option.some.inj hj
    refine ⟨[.slice A0 l0.length c0], rfl, ⟨A0, c0, rfl, hc0, h0⟩, fun i u hu => ?_⟩
    match i, hu with
    | 0, hu => exact (blk_cell hg 0).trans hu
  | 1, hj =>
    obtain rfl := Option.some.inj hj
    refine ⟨[.slice A1 l1.length c1], rfl, ⟨A1, c1, rfl, hc1, h1⟩, fun i u hu => ?_⟩
    match i, hu with
    | 0, hu => exact (blk_cell hg 1).trans hu
  | j + 2, hj => simp at hj
def okB (l : List Rn_) : Bool := l.all (fun x => decide (0 ≤ x.f0 ∧ x.f0 ≤ x.f1 ∧ x.f1 ≤ 1099511627776))
theorem okB_of {l : List Rn_} (h : okB l = true) : ∀ x ∈ l, okR x := fun x hx => by
  have h1 := List.all_eq_true.1 h x hx
  have h2 := of_decide_eq_true h1
  exact h2
def ivl_Or.f (k : Nat) (l0 l1 : List S36) : Option (List S36 × Int) := (ivl_rows.f k [l0, l1]).bind fun y =>
  if y ≠ 0 then some ([], y) else (ivl_runs.f k (l0 ++ l1)).bind fun rs =>
  if (l0.length + l1.length + 1) * 16 ≤ 140737488355328 ∧ (rs.length + 1) * 16 ≤ 140737488355328 ∧ okB rs = true then ivl_told.f k (joinR rs) else none
theorem ivl_Or.mono : ∀ a0 a1 k, LeO (ivl_Or.f k a0 a1) (ivl_Or.f (k + 1) a0 a1) := by
  intro a0 a1 k
  unfold ivl_Or.f
  exact LeO.bind (ivl_rows.mono _ _) (fun _ => LeO.ite (LeO.refl _) (LeO.bind (ivl_runs.mono _ _) (fun _ => LeO.ite (ivl_told.mono _ _) (LeO.refl _))))
set_option maxRecDepth 100000 in
set_option maxHeartbeats 4000000 in
theorem ivl_Or.calls (k : Nat) (A0 : Option Addr) (c0 : Nat) (l0 : List (S36)) (A1 : Option Addr) (c1 : Nat) (l1 : List (S36)) (r1 : List (S36)) (r2 : Int) (w : World) (hr0 : Kd.C k36 w A0 l0.length l0) (hc0 : l0.length ≤ c0) (hr1 : Kd.C k36 w A1 l1.length l1) (hc1 : l1.length ≤ c1) (h : ivl_Or.f k l0 l1 = some (r1, r2)) :
    Calls Try.prog 19 #[.slice A0 l0.length c0, .slice A1 l1.length c1] w fun e w' => ∃ v0_ : Value, e = .returned (.tuple #[v0_, .int .i64 r2]) ∧ Kd.R k36 36 w' w.heap.size (fun _ => True) v0_ r1 ∧ Below w.heap.size w w' := by
  obtain ⟨y, hy, h⟩ := Option.bind_eq_some_iff.mp h
  have HY := Aside0.mk hy
  have HC0 := Aside0.mk hc0
  have HC1 := Aside0.mk hc1
  have HB1 := Aside0.mk (below_alloc (Below.refl w.heap.size w) (.cells #[.slice A0 l0.length c0, .slice A1 l1.length c1] 22))
  have HR1 := Aside0.mk (two_rows (heap_alloc_new w (.cells #[.slice A0 l0.length c0, .slice A1 l1.length c1] 22)) (Kd.C_below hr0 HB1.out) hc0 (Kd.C_below hr1 HB1.out) hc1)
  have HA0 := Aside0.mk hr0
  have HA1 := Aside0.mk hr1
  clear hy hr0 hr1 hc0 hc1
  go_enter Try.func19, Try.ntmps19
  by_cases cy : y ≠ 0
  · rw [if_pos cy] at h
    obtain ⟨e1, e2⟩ := Prod.mk.inj (Option.some.inj h)
    subst e1
    subst e2
    have d0 : (y != 0) = true := bne_iff_ne.mpr cy
    clear cy h
    go_wp2_with (go_at_call 37; refine (ivl_rows.calls k _ 2 _ _ _ HR1.out (by simp) HY.out).mono ?_; rintro e w5 ⟨rfl, hb5⟩; have HB5 := Aside0.mk (below_step HB1.out hb5); clear hb5)
    go_ret2
    exact ⟨_, rfl, Kd.R_nil _ _ _ _ _, HB5.out⟩
  · have cy0 : y = 0 := Decidable.not_not.mp cy
    subst cy0
    rw [if_neg cy] at h
    clear cy
    have d0 : ((0 : Int) != 0) = false := rfl
    obtain ⟨rs, hrs, h⟩ := Option.bind_eq_some_iff.mp h
    obtain ⟨l2, hl2⟩ : ∃ l2, l0 ++ l1 = l2 := ⟨_, rfl⟩
    rw [hl2] at hrs
    have HL2 := Aside0.mk hl2
    have HRS := Aside0.mk hrs
    clear hl2
    by_cases cg : (l0.length + l1.length + 1) * 16 ≤ 140737488355328 ∧ (rs.length + 1) * 16 ≤ 140737488355328 ∧ okB rs = true
    case neg => rw [if_neg cg] at h; cases h
    rw [if_pos cg] at h
    have HT := Aside0.mk h
    have HG := Aside0.mk cg
    clear h cg hrs
    go_wp2_with (first
      | (go_at_call 37; refine (ivl_rows.calls k _ 2 _ _ _ HR1.out (by simp) HY.out).mono ?_; rintro e w5 ⟨rfl, hb5⟩; have HB5 := Aside0.mk (below_step HB1.out hb5); clear hb5)
      | (go_at_call 29; refine (times_is _).mono ?_; rintro e w6 ⟨rfl, hb6⟩; have HB6 := Aside0.mk (below_step HB5.out hb6); have HB7 := Aside0.mk (below_alloc HB6.out (.cells #[.slice A0 l0.length c0, .slice A1 l1.length c1] 22)); have BK7 := Aside0.mk (heap_alloc_new w6 (.cells #[.slice A0 l0.length c0, .slice A1 l1.length c1] 22)); clear hb6)
      | (go_at_call 38; refine (concat_is _ A0 A1 c0 c1 l0 l1 (by have := HG.out.1; omega) _ BK7.out (Kd.C_below HA0.out HB7.out) (Kd.C_below HA1.out HB7.out)).mono ?_; rintro e w8 ⟨v8, rfl, ho8, hb8⟩; rw [HL2.out] at ho8; have HB8 := Aside0.mk (below_step HB7.out hb8); obtain ⟨A8, c8, rfl⟩ := Kd.R_slice ho8; have HO8 := Aside0.mk ho8; clear hb8 ho8)
      | (go_at_call 31; refine (ivl_runs.calls k _ _ l2 rs _ (Kd.R_reads' HO8.out).2.2 (Kd.R_reads' HO8.out).2.1 HRS.out).mono ?_; rintro e w9 ⟨v9, rfl, ho9, hb9⟩; have HB9 := Aside0.mk (below_step HB8.out hb9); obtain ⟨A9, c9, rfl⟩ := Kd.R_slice ho9; have HO9 := Aside0.mk ho9; clear hb9 ho9)
      | (go_at_call 30; refine (join_is A9 c9 rs HG.out.2.1 (okB_of HG.out.2.2) _ (Kd.R_reads' HO9.out).2.2 (Kd.R_reads' HO9.out).2.1).mono ?_; rintro e w10 ⟨v10, rfl, ho10, hb10⟩; have HB10 := Aside0.mk (below_step HB9.out hb10); obtain ⟨A10, c10, rfl⟩ := Kd.R_slice ho10; have HO10 := Aside0.mk ho10; clear hb10 ho10)
      | (go_at_call 28; refine (ivl_told.calls k _ _ (joinR rs) r1 r2 _ (Kd.R_reads' HO10.out).2.2 (Kd.R_reads' HO10.out).2.1 HT.out).mono ?_; rintro e w11 ⟨v11, rfl, ho11, hb11⟩; have HB11 := Aside0.mk (below_step HB10.out hb11); have HO11 := Aside0.mk (Kd.R_lower ho11 HB10.out.size); clear hb11 ho11))
    go_ret2
    exact ⟨_, rfl, HO11.out, HB11.out⟩
def badI (x : S36) : Bool := decide (x.f0 < 0 ∨ x.f1 < x.f0 ∨ 1099511627776 < x.f1)
theorem check_one (x : S36) : ivl_Check.f 5 [x] = some (if badI x = true then 2 else 0) := by
  have e1 : wrap64 ((0 : Int) + 1) = 1 := by unfold wrap64; omega
  have e2 : ivl_runs.f 5 [x] = some [⟨x.f0, x.f1⟩] := by
    simp [ivl_runs.f, ivl_runs.l0, rd_T36, wrap64]
  unfold ivl_Check.f
  rw [e2]
  simp only [List.length_cons, List.length_nil, Option.bind_some, soundL, badI, decide_eq_true_eq]
  split
  · omega
  · split <;> simp_all
theorem one_row {W : World} {g : Nat} (x : S36) (hg : W.heap[g]? = some (.cells #[.int .i64 x.f0, .int .i64 x.f1] 36 (0, 0))) : Kd.C k36 W (some ⟨g, 0, none⟩) [x].length [x] := by
  refine ⟨rfl, by simp, fun _ => ⟨_, rfl, fun j p hj => ?_⟩⟩
  match j, hj with
  | 0, hj =>
    obtain rfl := Option.some.inj hj
    refine ⟨[.int .i64 x.f0, .int .i64 x.f1], rfl, k36_mk W x, fun i u hu => ?_⟩
    match i, hu with
    | 0, hu => exact (blk_cell hg 0).trans hu
    | 1, hu => exact (blk_cell hg 1).trans hu
  | j + 1, hj => simp at hj
set_option maxRecDepth 100000 in
theorem one_is (x : S36) (w : World) : Calls Try.prog 27 #[.agg #[.int .i64 x.f0, .int .i64 x.f1]] w fun e w' => e = .returned (.bool (!badI x)) ∧ Below w.heap.size w w' := by
  have HB := Aside0.mk (below_alloc (below_alloc (Below.refl w.heap.size w) (.cells #[.int .i64 x.f0, .int .i64 x.f1] 36)) (.cells #[.int .i64 x.f0, .int .i64 x.f1] 36))
  have hg := heap_alloc_new (w.alloc (.cells #[.int .i64 x.f0, .int .i64 x.f1] 36)) (.cells #[.int .i64 x.f0, .int .i64 x.f1] 36)
  rw [World.size_alloc] at hg
  have HC := Aside0.mk (one_row x hg)
  have HK := Aside0.mk (check_one x)
  clear hg
  obtain ⟨b, hb⟩ : ∃ b, badI x = b := ⟨_, rfl⟩
  rw [hb] at HK ⊢
  clear hb
  go_enter Try.func27, Try.ntmps27
  cases b
  · have d0 : ((0 : Int) == 0) = true := rfl
    go_wp2_with (go_at_call 17; refine (ivl_Check.calls 5 _ 1 [x] 0 _ HC.out (by simp) HK.out).mono ?_; rintro e w5 ⟨rfl, hb5⟩; have HB5 := Aside0.mk (below_step HB.out hb5); clear hb5)
    go_ret
    exact ⟨rfl, HB5.out⟩
  · have d0 : ((2 : Int) == 0) = false := rfl
    go_wp2_with (go_at_call 17; refine (ivl_Check.calls 5 _ 1 [x] 2 _ HC.out (by simp) HK.out).mono ?_; rintro e w5 ⟨rfl, hb5⟩; have HB5 := Aside0.mk (below_step HB.out hb5); clear hb5)
    go_ret
    exact ⟨rfl, HB5.out⟩
set_option maxRecDepth 100000 in
theorem make1_is (x : S36) (w : World) : Calls Try.prog 26 #[.agg #[.int .i64 x.f0, .int .i64 x.f1]] w fun e w' => e = .returned (.bool (badI x)) ∧ Below w.heap.size w w' := by
  have HB := Aside0.mk (below_alloc (Below.refl w.heap.size w) (.cells #[.int .i64 x.f0, .int .i64 x.f1] 36))
  have hd : (!(!badI x)) = badI x := Bool.not_not _
  go_enter Try.func26, Try.ntmps26
  obtain ⟨b, hb⟩ : ∃ b, badI x = b := ⟨_, rfl⟩
  have HX := Aside0.mk hb
  rw [hb]
  clear hd hb
  go_wp2_with (go_at_call 27; refine (one_is x _).mono ?_; rintro e w5 ⟨rfl, hb5⟩; rw [HX.out]; have HB5 := Aside0.mk (below_step HB.out hb5); clear hb5)
  go_ret
  exact ⟨by simp, HB5.out⟩
def badFrom : Nat → List S36 → Int
  | _, [] => -1
  | i, x :: xs => if badI x = true then (i : Int) else badFrom (i + 1) xs
set_option maxRecDepth 100000 in
set_option maxHeartbeats 4000000 in
theorem bad_idx (A0 : Option Addr) (c0 : Nat) (l0 : List S36) (r : Int) (h : badFrom 0 l0 = r) (w : World) (hr0 : Kd.C k36 w A0 l0.length l0) (hc0 : l0.length ≤ c0) :
    Calls Try.prog 42 #[.slice A0 l0.length c0, .func (.func 26) #[] #[]] w fun e w' => e = .returned (.int .i64 r) ∧ Below w.heap.size w w' := by
  have HR0 := Aside0.mk hr0
  have HM := Aside0.mk (Kd.C_max hr0)
  have H0 := Aside0.mk h
  clear hr0 h
  go_enter Try.func42, Try.ntmps42
  go_wp2
  go_loopg [8] l0.length (fun kq v8 w' => ∃ (i : Nat), v8 = .int .i64 (i : Int) ∧ Aside0 (i ≤ l0.length ∧ kq = l0.length - i) ∧ Aside0 (badFrom i (l0.drop i) = r) ∧ Aside0 (Below w.heap.size w w'))
  case atStart => exact ⟨0, rfl, ⟨Nat.zero_le _, rfl⟩, H0, ⟨Below.refl _ _⟩⟩
  case round =>
    clear H0
    obtain ⟨i, rfl, HI, HA, Hb⟩ := hrel
    have hm := HM.out
    by_cases hi : i < l0.length
    · have hd : decide ((i : Int) < (l0.length : Int)) = true := decide_eq_true (by omega)
      have hdn : decide (i < l0.length) = true := decide_eq_true hi
      have hrd : l0.drop i = rd_T36 l0 (i : Int) :: l0.drop (i + 1) := by
        rw [List.drop_eq_getElem_cons hi]
        simp [rd_T36, List.getD_eq_getElem?_getD, hi]
      have ha := HA.out
      rw [hrd] at ha
      have p0 : (0 : Int) ≤ (i : Int) := by omega
      have q0 : (i : Int) < (l0.length : Int) := by omega
      obtain ⟨ad, ead, hx0, hx1⟩ := at_T36 (Kd.C_below HR0.out Hb.out) (i : Int) p0 q0
      cases ead
      simp only [Int.toNat_natCast] at hx0 hx1
      generalize rd_T36 l0 (i : Int) = x at *
      simp only [badFrom] at ha
      have HII := Aside0.mk hi
      replace p0 := eq_true p0
      replace q0 := eq_true q0
      clear hrd HA
      by_cases c1 : badI x = true
      · rw [if_pos c1] at ha
        subst ha
        go_wp2_with (go_at_call 26; refine (make1_is x _).mono ?_; rintro e w5 ⟨rfl, hb5⟩; have Hb5 := Aside0.mk (below_step Hb.out hb5); clear hb5)
        go_ret
        exact ⟨rfl, Hb5.out⟩
      · rw [if_neg c1] at ha
        have d1 : badI x = false := Bool.eq_false_iff.2 c1
        have HA2 := Aside0.mk ha
        clear ha c1
        go_wp2_with (go_at_call 26; refine (make1_is x _).mono ?_; rintro e w5 ⟨rfl, hb5⟩; have Hb5 := Aside0.mk (below_step Hb.out hb5); clear hb5)
        go_roundg (l0.length - (i + 1))
        case measure => have := HI.out; omega
        case rel => exact ⟨i + 1, by go_num, ⟨by omega, rfl⟩, HA2, Hb5⟩
    · have hd : decide ((i : Int) < (l0.length : Int)) = false := decide_eq_false (by omega)
      have hdn : decide (i < l0.length) = false := decide_eq_false hi
      have ha := HA.out
      rw [List.drop_eq_nil_of_le (by omega)] at ha
      simp only [badFrom] at ha
      subst ha
      clear HA
      go_wp2
      go_ret
      exact ⟨rfl, Hb.out⟩
set_option maxRecDepth 100000 in
theorem bad_in (A0 : Option Addr) (c0 : Nat) (l0 : List S36) (w : World) (hr0 : Kd.C k36 w A0 l0.length l0) (hc0 : l0.length ≤ c0) :
    Calls Try.prog 25 #[.slice A0 l0.length c0, .func (.func 26) #[] #[]] w fun e w' => e = .returned (.bool (decide (0 ≤ badFrom 0 l0))) ∧ Below w.heap.size w w' := by
  go_enter Try.func25, Try.ntmps25
  have HR := Aside0.mk hr0
  have HC := Aside0.mk hc0
  clear hr0 hc0
  obtain ⟨r, hr⟩ : ∃ r, badFrom 0 l0 = r := ⟨_, rfl⟩
  rw [hr]
  have H := Aside0.mk hr
  clear hr
  go_wp2_with (go_at_call 42; refine (bad_idx A0 c0 l0 r H.out _ HR.out HC.out).mono ?_; rintro e w5 ⟨rfl, hb5⟩; have Hb5 := Aside0.mk hb5; clear hb5)
  go_ret
  exact ⟨rfl, Hb5.out⟩
def ivl_Make.f (k : Nat) (l0 : List S36) : Option (List S36 × Int) := if 1024 < (l0.length : Int) then some ([], 11) else if 0 ≤ badFrom 0 l0 then some ([], 2) else (ivl_runs.f k l0).bind fun rs =>
  if (rs.length + 1) * 16 ≤ 140737488355328 ∧ okB rs = true then ivl_told.f k (joinR rs) else none
theorem ivl_Make.mono : ∀ a0 k, LeO (ivl_Make.f k a0) (ivl_Make.f (k + 1) a0) := by
  intro a0 k
  unfold ivl_Make.f
  exact LeO.ite (LeO.refl _) (LeO.ite (LeO.refl _) (LeO.bind (ivl_runs.mono _ _) (fun _ => LeO.ite (ivl_told.mono _ _) (LeO.refl _))))
set_option maxRecDepth 100000 in
set_option maxHeartbeats 4000000 in
theorem ivl_Make.calls (k : Nat) (A0 : Option Addr) (c0 : Nat) (l0 : List (S36)) (r1 : List (S36)) (r2 : Int) (w : World) (hr0 : Kd.C k36 w A0 l0.length l0) (hc0 : l0.length ≤ c0) (h : ivl_Make.f k l0 = some (r1, r2)) :
    Calls Try.prog 10 #[.slice A0 l0.length c0] w fun e w' => ∃ v0_ : Value, e = .returned (.tuple #[v0_, .int .i64 r2]) ∧ Kd.R k36 36 w' w.heap.size (fun _ => True) v0_ r1 ∧ Below w.heap.size w w' := by
  have HR0 := Aside0.mk hr0
  have HC0 := Aside0.mk hc0
  clear hr0 hc0
  unfold ivl_Make.f at h
  by_cases c1 : 1024 < (l0.length : Int)
  · rw [if_pos c1] at h
    obtain ⟨e1, e2⟩ := Prod.mk.inj (Option.some.inj h)
    subst e1
    subst e2
    have d1 : decide (1024 < (l0.length : Int)) = true := decide_eq_true c1
    have d2 : decide (1024 < l0.length) = true := decide_eq_true (by omega)
    clear h c1
    go_enter Try.func10, Try.ntmps10
    go_wp2
    go_ret2
    exact ⟨_, rfl, Kd.R_nil _ _ _ _ _, Below.refl _ _⟩
  rw [if_neg c1] at h
  have d1 : decide (1024 < (l0.length : Int)) = false := decide_eq_false c1
  have d2 : decide (1024 < l0.length) = false := decide_eq_false (by omega)
  by_cases c2 : 0 ≤ badFrom 0 l0
  · rw [if_pos c2] at h
    obtain ⟨e1, e2⟩ := Prod.mk.inj (Option.some.inj h)
    subst e1
    subst e2
    have HD := Aside0.mk (decide_eq_true c2)
    clear h c1 c2
    go_enter Try.func10, Try.ntmps10
    go_wp2_with (go_at_call 25; refine (bad_in A0 c0 l0 _ HR0.out HC0.out).mono ?_; rintro e w5 ⟨rfl, hb5⟩; rw [HD.out]; have HB5 := Aside0.mk hb5; clear hb5)
    go_ret2
    exact ⟨_, rfl, Kd.R_nil _ _ _ _ _, HB5.out⟩
  rw [if_neg c2] at h
  have HD := Aside0.mk (decide_eq_false c2)
  obtain ⟨rs, hrs, h⟩ := Option.bind_eq_some_iff.mp h
  by_cases cg : (rs.length + 1) * 16 ≤ 140737488355328 ∧ okB rs = true
  case neg => rw [if_neg cg] at h; cases h
  rw [if_pos cg] at h
  have HT := Aside0.mk h
  have HG := Aside0.mk cg
  have HRS := Aside0.mk hrs
  clear h cg hrs c1 c2
  go_enter Try.func10, Try.ntmps10
  go_wp2_with (first
    | (go_at_call 25; refine (bad_in A0 c0 l0 _ HR0.out HC0.out).mono ?_; rintro e w5 ⟨rfl, hb5⟩; rw [HD.out]; have HB5 := Aside0.mk hb5; clear hb5)
    | (go_at_call 29; refine (times_is _).mono ?_; rintro e w6 ⟨rfl, hb6⟩; have HB6 := Aside0.mk (below_step HB5.out hb6); clear hb6)
    | (go_at_call 31; refine (ivl_runs.calls k _ _ l0 rs _ (Kd.C_below HR0.out HB6.out) HC0.out HRS.out).mono ?_; rintro e w9 ⟨v9, rfl, ho9, hb9⟩; have HB9 := Aside0.mk (below_step HB6.out hb9); obtain ⟨A9, c9, rfl⟩ := Kd.R_slice ho9; have HO9 := Aside0.mk ho9; clear hb9 ho9)
    | (go_at_call 30; refine (join_is A9 c9 rs HG.out.1 (okB_of HG.out.2) _ (Kd.R_reads' HO9.out).2.2 (Kd.R_reads' HO9.out).2.1).mono ?_; rintro e w10 ⟨v10, rfl, ho10, hb10⟩; have HB10 := Aside0.mk (below_step HB9.out hb10); obtain ⟨A10, c10, rfl⟩ := Kd.R_slice ho10; have HO10 := Aside0.mk ho10; clear hb10 ho10)
    | (go_at_call 28; refine (ivl_told.calls k _ _ (joinR rs) r1 r2 _ (Kd.R_reads' HO10.out).2.2 (Kd.R_reads' HO10.out).2.1 HT.out).mono ?_; rintro e w11 ⟨v11, rfl, ho11, hb11⟩; have HB11 := Aside0.mk (below_step HB10.out hb11); have HO11 := Aside0.mk (Kd.R_lower ho11 HB10.out.size); clear hb11 ho11))
  go_ret2
  exact ⟨_, rfl, HO11.out, HB11.out⟩
def inI (t : Int) (x : S36) : Bool := if x.f0 ≤ t then decide (t ≤ x.f1) else false
theorem has1_is (B : Nat) (t : Int) (x : S36) (w : World) (hB : w.heap[B]? = some (.cells #[.int .i64 t] 2 (0, 0))) :
    Calls Try.prog 34 #[.agg #[.int .i64 x.f0, .int .i64 x.f1], .pointer (some ⟨B, 0, none⟩)] w fun e w' => e = .returned (.bool (inI t x)) ∧ Below w.heap.size w w' := by
  have hc : (w.alloc (.cells #[.int .i64 x.f0, .int .i64 x.f1] 36)).cell? ⟨B, 0, none⟩ = some (.int .i64 t) := (blk_cell (blk_alloc hB _) 0).trans rfl
  unfold inI
  by_cases c : x.f0 ≤ t
  · rw [if_pos c]
    have d : decide (x.f0 ≤ t) = true := decide_eq_true c
    clear c
    go_enter Try.func34, Try.ntmps34
    go_wp2
    go_ret
    exact ⟨rfl, below_alloc (Below.refl _ _) _⟩
  · rw [if_neg c]
    have d : decide (x.f0 ≤ t) = false := decide_eq_false c
    clear c
    go_enter Try.func34, Try.ntmps34
    go_wp2
    go_ret
    exact ⟨rfl, below_alloc (Below.refl _ _) _⟩
def hasFrom (t : Int) : Nat → List S36 → Int
  | _, [] => -1
  | i, x :: xs => if inI t x = true then (i : Int) else hasFrom t (i + 1) xs
set_option maxRecDepth 100000 in
set_option maxHeartbeats 4000000 in
theorem has_idx (B : Nat) (t : Int) (A0 : Option Addr) (c0 : Nat) (l0 : List S36) (r : Int) (h : hasFrom t 0 l0 = r) (w : World) (hB : w.heap[B]? = some (.cells #[.int .i64 t] 2 (0, 0))) (hr0 : Kd.C k36 w A0 l0.length l0) (hc0 : l0.length ≤ c0) :
    Calls Try.prog 42 #[.slice A0 l0.length c0, .func (.func 34) #[] #[.pointer (some ⟨B, 0, none⟩)]] w fun e w' => e = .returned (.int .i64 r) ∧ Below w.heap.size w w' := by
  have HR0 := Aside0.mk hr0
  have HM := Aside0.mk (Kd.C_max hr0)
  have H0 := Aside0.mk h
  have HB0 := Aside0.mk hB
  clear hr0 hB h
  go_enter Try.func42, Try.ntmps42
  go_wp2
  go_loopg [8] l0.length (fun kq v8 w' => ∃ (i : Nat), v8 = .int .i64 (i : Int) ∧ Aside0 (i ≤ l0.length ∧ kq = l0.length - i) ∧ Aside0 (hasFrom t i (l0.drop i) = r) ∧ Aside0 (w'.heap[B]? = some (.cells #[.int .i64 t] 2 (0, 0))) ∧ Aside0 (Below w.heap.size w w'))
  case atStart => exact ⟨0, rfl, ⟨Nat.zero_le _, rfl⟩, H0, HB0, ⟨Below.refl _ _⟩⟩
  case round =>
    clear H0 HB0
    obtain ⟨i, rfl, HI, HA, HB, Hb⟩ := hrel
    have hm := HM.out
    by_cases hi : i < l0.length
    · have hd : decide ((i : Int) < (l0.length : Int)) = true := decide_eq_true (by omega)
      have hdn : decide (i < l0.length) = true := decide_eq_true hi
      have hrd : l0.drop i = rd_T36 l0 (i : Int) :: l0.drop (i + 1) := by
        rw [List.drop_eq_getElem_cons hi]
        simp [rd_T36, List.getD_eq_getElem?_getD, hi]
      have ha := HA.out
      rw [hrd] at ha
      have p0 : (0 : Int) ≤ (i : Int) := by omega
      have q0 : (i : Int) < (l0.length : Int) := by omega
      obtain ⟨ad, ead, hx0, hx1⟩ := at_T36 (Kd.C_below HR0.out Hb.out) (i : Int) p0 q0
      cases ead
      simp only [Int.toNat_natCast] at hx0 hx1
      generalize rd_T36 l0 (i : Int) = x at *
      simp only [hasFrom] at ha
      have HII := Aside0.mk hi
      replace p0 := eq_true p0
      replace q0 := eq_true q0
      clear hrd HA
      by_cases c1 : inI t x = true
      · rw [if_pos c1] at ha
        subst ha
        go_wp2_with (go_at_call 34; refine (has1_is B t x _ HB.out).mono ?_; rintro e w5 ⟨rfl, hb5⟩; have Hb5 := Aside0.mk (below_step Hb.out hb5); clear hb5)
        go_ret
        exact ⟨rfl, Hb5.out⟩
      · rw [if_neg c1] at ha
        have d1 : inI t x = false := Bool.eq_false_iff.2 c1
        have HA2 := Aside0.mk ha
        clear ha c1
        go_wp2_with (go_at_call 34; refine (has1_is B t x _ HB.out).mono ?_; rintro e w5 ⟨rfl, hb5⟩; have Hb5 := Aside0.mk (below_step Hb.out hb5); have HB5 := Aside0.mk (blk_below HB.out hb5); clear hb5)
        go_roundg (l0.length - (i + 1))
        case measure => have := HI.out; omega
        case rel => exact ⟨i + 1, by go_num, ⟨by omega, rfl⟩, HA2, HB5, Hb5⟩
    · have hd : decide ((i : Int) < (l0.length : Int)) = false := decide_eq_false (by omega)
      have hdn : decide (i < l0.length) = false := decide_eq_false hi
      have ha := HA.out
      rw [List.drop_eq_nil_of_le (by omega)] at ha
      simp only [hasFrom] at ha
      subst ha
      clear HA
      go_wp2
      go_ret
      exact ⟨rfl, Hb.out⟩
set_option maxRecDepth 100000 in
theorem has_in (B : Nat) (t : Int) (A0 : Option Addr) (c0 : Nat) (l0 : List S36) (w : World) (hB : w.heap[B]? = some (.cells #[.int .i64 t] 2 (0, 0))) (hr0 : Kd.C k36 w A0 l0.length l0) (hc0 : l0.length ≤ c0) :
    Calls Try.prog 25 #[.slice A0 l0.length c0, .func (.func 34) #[] #[.pointer (some ⟨B, 0, none⟩)]] w fun e w' => e = .returned (.bool (decide (0 ≤ hasFrom t 0 l0))) ∧ Below w.heap.size w w' := by
  go_enter Try.func25, Try.ntmps25
  have HB := Aside0.mk hB
  have HR := Aside0.mk hr0
  have HC := Aside0.mk hc0
  clear hB hr0 hc0
  obtain ⟨r, hr⟩ : ∃ r, hasFrom t 0 l0 = r := ⟨_, rfl⟩
  rw [hr]
  have H := Aside0.mk hr
  clear hr
  go_wp2_with (go_at_call 42; refine (has_idx B t A0 c0 l0 r H.out _ HB.out HR.out HC.out).mono ?_; rintro e w5 ⟨rfl, hb5⟩; have Hb5 := Aside0.mk hb5; clear hb5)
  go_ret
  exact ⟨rfl, Hb5.out⟩
def ivl_Has.f (k : Nat) (l0 : List (S36)) (a1 : Int) : Option (Bool × Int) := (ivl_Check.f k l0).bind fun y => if y ≠ 0 then some (false, y) else some (decide (0 ≤ hasFrom a1 0 l0), 0)
theorem ivl_Has.mono : ∀ a0 a1 k, LeO (ivl_Has.f k a0 a1) (ivl_Has.f (k + 1) a0 a1) := by
  intro a0 a1 k
  unfold ivl_Has.f
  exact LeO.bind (ivl_Check.mono _ _) (fun _ => LeO.refl _)
set_option maxRecDepth 100000 in
set_option maxHeartbeats 4000000 in
theorem ivl_Has.calls (k : Nat) (A0 : Option Addr) (c0 : Nat) (l0 : List (S36)) (a1 : Int) (r1 : Bool) (r2 : Int) (w : World) (hr0 : Kd.C k36 w A0 l0.length l0) (hc0 : l0.length ≤ c0) (h : ivl_Has.f k l0 a1 = some (r1, r2)) :
    Calls Try.prog 12 #[.slice A0 l0.length c0, .int .i64 a1] w fun e w' => e = .returned (.tuple #[.bool r1, .int .i64 r2]) ∧ Below w.heap.size w w' := by
  obtain ⟨y, hy, h⟩ := Option.bind_eq_some_iff.mp h
  have HY := Aside0.mk hy
  have HC0 := Aside0.mk hc0
  have HB := Aside0.mk (below_alloc (Below.refl w.heap.size w) (.cells #[.int .i64 a1] 2))
  have HR := Aside0.mk (Kd.C_below hr0 HB.out)
  have BK := Aside0.mk (heap_alloc_new w (.cells #[.int .i64 a1] 2))
  clear hy hr0 hc0
  go_enter Try.func12, Try.ntmps12
  by_cases cy : y ≠ 0
  · rw [if_pos cy] at h
    obtain ⟨e1, e2⟩ := Prod.mk.inj (Option.some.inj h)
    subst e1
    subst e2
    have d0 : (y != 0) = true := bne_iff_ne.mpr cy
    clear cy h
    go_wp2_with (go_at_call 17; refine (ivl_Check.calls k A0 c0 l0 _ _ HR.out HC0.out HY.out).mono ?_; rintro e w5 ⟨rfl, hb5⟩; have HB5 := Aside0.mk (below_step HB.out hb5); clear hb5)
    go_ret2
    exact ⟨rfl, HB5.out⟩
  · have cy0 : y = 0 := Decidable.not_not.mp cy
    subst cy0
    rw [if_neg cy] at h
    obtain ⟨e1, e2⟩ := Prod.mk.inj (Option.some.inj h)
    subst e1
    subst e2
    have d0 : ((0 : Int) != 0) = false := rfl
    clear cy h
    go_wp2_with (first
      | (go_at_call 17; refine (ivl_Check.calls k A0 c0 l0 _ _ HR.out HC0.out HY.out).mono ?_; rintro e w5 ⟨rfl, hb5⟩; have HB5 := Aside0.mk (below_step HB.out hb5); have BK5 := Aside0.mk (blk_below BK.out hb5); have HR5 := Aside0.mk (Kd.C_below HR.out hb5); clear hb5)
      | (go_at_call 25; refine (has_in w.heap.size a1 A0 c0 l0 _ BK5.out HR5.out HC0.out).mono ?_; rintro e w6 ⟨rfl, hb6⟩; have HB6 := Aside0.mk (below_step HB5.out hb6); clear hb6))
    go_ret2
    exact ⟨rfl, HB6.out⟩
def ivl_Long.l0 : Nat → Int → List (S36) → Int → Int → Option (Int × Int)
 | 0, _, _, _, _ => none
 | k + 1, x5, x13, x14, x15 => if x15 < x14 then (if 0 ≤ x15 then (if x15 < (x13.length : Int) then (ivl_Long.l0 k (wrap64 (x5 + (wrap64 ((wrap64 (((rd_T36 x13 x15).f1) - ((rd_T36 x13 x15).f0))) + 1)))) x13 x14 (wrap64 (x15 + 1))) else (none)) else (none)) else (some (x5, 0))
def ivl_Long.f (k : Nat) (l0 : List (S36)) : Option (Int × Int) := (ivl_Check.f k l0).bind fun t119 => (if t119 = 0 then (ivl_Long.l0 k 0 l0 (l0.length : Int) 0) else (some (0, t119)))
theorem ivl_Long.mono_l : ∀ k, (∀ y0 y1 y2 y3, LeO (ivl_Long.l0 k y0 y1 y2 y3) (ivl_Long.l0 (k + 1) y0 y1 y2 y3))
 | 0 => fun _ _ _ _ r h => by simp [ivl_Long.l0] at h
 | k + 1 => by
  have ih0 := ivl_Long.mono_l k
  ·intro y0 y1 y2 y3
   unfold ivl_Long.l0
   repeat' first
   | (with_reducible exact ih0 _ _ _ _)
   | (with_reducible exact ivl_Check.mono _ _)
   | (with_reducible exact LeO.refl _)
   | (with_reducible exact LeO.none _)
   | (with_reducible refine LeO.ite ?_ ?_)
   | (with_reducible refine LeO.bind ?_ (fun _ => ?_))
   | exact ih0 _ _ _ _
   | exact ivl_Check.mono _ _
   | exact LeO.none _
   | refine LeO.ite ?_ ?_
   | refine LeO.bind ?_ (fun _ => ?_)
theorem ivl_Long.mono : ∀ a0 k, LeO (ivl_Long.f k a0) (ivl_Long.f (k + 1) a0) := by
 intro a0 k
 have ih0 := ivl_Long.mono_l k
 unfold ivl_Long.f
 repeat' first
   | (with_reducible exact ih0 _ _ _ _)
   | (with_reducible exact ivl_Check.mono _ _)
   | (with_reducible exact LeO.refl _)
   | (with_reducible exact LeO.none _)
   | (with_reducible refine LeO.ite ?_ ?_)
   | (with_reducible refine LeO.bind ?_ (fun _ => ?_))
   | exact ih0 _ _ _ _
   | exact ivl_Check.mono _ _
   | exact LeO.none _
   | refine LeO.ite ?_ ?_
   | refine LeO.bind ?_ (fun _ => ?_)
set_option maxHeartbeats 8000000 in
set_option maxRecDepth 100000 in
theorem ivl_Long.calls (k : Nat) (A0 : Option Addr) (c0 : Nat) (l0 : List (S36)) (r1 : Int) (r2 : Int) (w : World) (hr0 : Kd.C k36 w A0 l0.length l0) (hc0 : l0.length ≤ c0) (h : ivl_Long.f k l0 = some (r1, r2)) :
  Calls Try.prog 14 #[.slice A0 l0.length c0] w fun e w' => e = .returned (.tuple #[.int .i64 r1, .int .i64 r2]) ∧ Below w.heap.size w w' := by
 have hu36 := Try.underlying36
 have HR0 := Ax hr0
 have HC0 := Ax hc0
 clear hr0 hc0
 have HB := Ax (Below.refl w.heap.size w)
 have H : ((ivl_Check.f k l0).bind fun t119 => (if t119 = 0 then (ivl_Long.l0 k 0 l0 (l0.length : Int) 0) else (some (0, t119)))) = some (r1, r2) := h
 clear h
 replace H := Option.bind_eq_some_iff.mp H
 obtain ⟨t119, A20, H⟩ := H
 replace H : (if t119 = 0 then (ivl_Long.l0 k 0 l0 (l0.length : Int) 0) else (some (0, t119))) = some (r1, r2) := H
 have A2 := Ax A20
 clear A20
 by_cases c3 : t119 = 0
 ·rw [if_pos c3] at H
  have c3b0 : (t119 == 0) = true := beq_iff_eq.mpr c3
  have c3b1 : (t119 != 0) = false := bne_eq_false_iff_eq.mpr c3
  clear c3
  have H' := Ax H
  clear H
  go_enter Try.func14, Try.ntmps14
  go_wp2_with (first | ((with_reducible refine gate_callee (f := 17) rfl ?_); refine goesL_ (some 9) rfl rfl Try.func17 (by kernel_rfl) rfl #[.slice A0 l0.length c0] rfl gS ?_; (with_reducible refine (ivl_Check.calls k _ _ l0 t119 _ ?side1 ?side2 A2.out).mono ?_); (case side1 => repeat (first | exact HR0.out | (with_reducible refine Kd.C_alloc ?_ _) | (with_reducible refine Kd.C_drewN ?_ _) | (with_reducible refine Kd.C_drew ?_))); (case side2 => exact HC0.out); rintro e w4 ⟨rfl, hb⟩; refine ⟨_, rfl, ?_⟩; replace HB := Bs0 HB hb; (try clear hb)))
  go_loopg [5, 15] k (fun kq v5 v15 w' => ∃ (x5_1 : Int) (x15_1 : Int), v5 = .int .i64 x5_1 ∧ v15 = .int .i64 x15_1 ∧ Aside0 (ivl_Long.l0 kq x5_1 l0 (l0.length : Int) x15_1 = some (r1, r2)) ∧ Aside0 (kq ≤ k) ∧ Aside0 (Below w.heap.size w w'))
  case atStart => exact ⟨(0), (0), rS, rS, H', ⟨Nat.le_refl _⟩, ⟨bw0 HB.out⟩⟩
  case round =>
   clear H'
   try clear c1
   try clear p2
   try clear c3
   try clear c3b0
   try clear c3b1
   obtain ⟨x5_1, x15_1, rfl, rfl, HA, HK1, HB⟩ := hrel
   cases gk with
   | zero => exact absurd HA.out (by simp [ivl_Long.l0])
   | succ k1 =>
    have H := HA.out
    clear HA
    simp only [ivl_Long.l0] at H
    by_cases c5 : x15_1 < (l0.length : Int)
    ·rw [if_pos c5] at H
     have c5b0 : decide (x15_1 < (l0.length : Int)) = true := decide_eq_true c5
     clear c5
     by_cases c6 : 0 ≤ x15_1
     ·rw [if_pos c6] at H
      have c6b0 : decide (0 ≤ x15_1) = true := decide_eq_true c6
      clear c6
      by_cases c7 : x15_1 < (l0.length : Int)
      ·rw [if_pos c7] at H
       have c7b0 : decide (x15_1 < (l0.length : Int)) = true := decide_eq_true c7
       clear c7
       have H' := Ax H
       clear H
       have p120 : 0 ≤ (x15_1 : Int) := of_decide_eq_true (by first | (with_reducible assumption) | assumption)
       have q120 : x15_1 < (l0.length : Int) := of_decide_eq_true (by first | (with_reducible assumption) | assumption)
       obtain ⟨ad120, e120, hx120_0, hx120_1⟩ := at_T36 HR0.out x15_1 p120 q120
       cases e120
       replace hx120_0 := (HB.out.cell (World.block_lt_of_cell? w _ hx120_0)).trans hx120_0
       replace hx120_1 := (HB.out.cell (World.block_lt_of_cell? w _ hx120_1)).trans hx120_1
       replace p120 := eq_true p120
       replace q120 := eq_true q120
       go_wp2_with (first | ((with_reducible refine gate_dst (N := 7) rfl ?_); refine box_event ?hg (N := 7) ?hd (cs := #[.int .i64 0, .int .i64 0]) (t := 36) ?hr ?_; (case hd => rfl); (case hg => rfl); (case hr => first | (go_simp; done) | (go_simp; rfl)); intro gb121 hg w8 hbox hb; have n0_ := Bs0 HB hb; have n1_ := Ax (hbox); have n2_ := Gw0 HB hg; have n3_ := Gw0 HB hg; clear HB; have HB := n0_; have BK121 := n1_; have GW121 := n2_; have GE121 := n3_; clear n0_ n1_ n2_ n3_; clear hb hbox hg; obtain ⟨hcz9_0, hcz9_1, hfz9_0, hfz9_1⟩ := cl2 BK121))
       go_roundg k1
       case measure => have := HK1.out; omega
       case rel => exact ⟨(wrap64 (x5_1 + (wrap64 ((wrap64 (((rd_T36 l0 x15_1).f1) - ((rd_T36 l0 x15_1).f0))) + 1)))), (wrap64 (x15_1 + 1)), rS, rS, H', ⟨by have := HK1.out; omega⟩, ⟨bw1 HB.out GE121.out⟩⟩
      ·rw [if_neg c7] at H
       exact absurd H (by simp)
     ·rw [if_neg c6] at H
      exact absurd H (by simp)
    ·rw [if_neg c5] at H
     have c5b0 : decide (x15_1 < (l0.length : Int)) = false := decide_eq_false c5
     clear c5
     simp only [Option.some.injEq, Prod.mk.injEq] at H
     obtain ⟨rfl, rfl⟩ := H
     go_wp2
     go_ret2
     exact ⟨eS, bw0 HB.out⟩
 ·rw [if_neg c3] at H
  have c3b0 : (t119 == 0) = false := beq_eq_false_iff_ne.mpr c3
  have c3b1 : (t119 != 0) = true := bne_iff_ne.mpr c3
  simp only [Option.some.injEq, Prod.mk.injEq] at H
  obtain ⟨rfl, rfl⟩ := H
  go_enter Try.func14, Try.ntmps14
  go_wp2_with (first | ((with_reducible refine gate_callee (f := 17) rfl ?_); refine goesL_ (some 9) rfl rfl Try.func17 (by kernel_rfl) rfl #[.slice A0 l0.length c0] rfl gS ?_; (with_reducible refine (ivl_Check.calls k _ _ l0 t119 _ ?side1 ?side2 A2.out).mono ?_); (case side1 => repeat (first | exact HR0.out | (with_reducible refine Kd.C_alloc ?_ _) | (with_reducible refine Kd.C_drewN ?_ _) | (with_reducible refine Kd.C_drew ?_))); (case side2 => exact HC0.out); rintro e w10 ⟨rfl, hb⟩; refine ⟨_, rfl, ?_⟩; replace HB := Bs0 HB hb; (try clear hb)))
  go_ret2
  exact ⟨eS, bw0 HB.out⟩
def spoorref19_Same.l0 : Nat → List (S36) → List (S36) → Int → Int → Option (Bool)
 | 0, _, _, _, _ => none
 | k + 1, x0, x1, x12, x13 => if x13 < x12 then (if 0 ≤ x13 then (if x13 < (x0.length : Int) then (if x13 < (x1.length : Int) then (if (!(((rd_T36 x0 x13).f0) == ((rd_T36 x1 x13).f0)) || (!(((rd_T36 x0 x13).f1) == ((rd_T36 x1 x13).f1)))) = true then (some false) else (spoorref19_Same.l0 k x0 x1 x12 (wrap64 (x13 + 1)))) else (none)) else (none)) else (none)) else (some true)
def spoorref19_Same.f (k : Nat) (l0 : List (S36)) (l1 : List (S36)) : Option (Bool) := if (l0.length : Int) = (l1.length : Int) then (spoorref19_Same.l0 k l0 l1 (l0.length : Int) 0) else (some false)
theorem spoorref19_Same.mono_l : ∀ k, (∀ y0 y1 y2 y3, LeO (spoorref19_Same.l0 k y0 y1 y2 y3) (spoorref19_Same.l0 (k + 1) y0 y1 y2 y3))
 | 0 => fun _ _ _ _ r h => by simp [spoorref19_Same.l0] at h
 | k + 1 => by
  have ih0 := spoorref19_Same.mono_l k
  ·intro y0 y1 y2 y3
   unfold spoorref19_Same.l0
   repeat' first
   | (with_reducible exact ih0 _ _ _ _)
   | (with_reducible exact LeO.refl _)
   | (with_reducible exact LeO.none _)
   | (with_reducible refine LeO.ite ?_ ?_)
   | (with_reducible refine LeO.bind ?_ (fun _ => ?_))
   | exact ih0 _ _ _ _
   | exact LeO.none _
   | refine LeO.ite ?_ ?_
   | refine LeO.bind ?_ (fun _ => ?_)
theorem spoorref19_Same.mono : ∀ a0 a1 k, LeO (spoorref19_Same.f k a0 a1) (spoorref19_Same.f (k + 1) a0 a1) := by
 intro a0 a1 k
 have ih0 := spoorref19_Same.mono_l k
 unfold spoorref19_Same.f
 repeat' first
   | (with_reducible exact ih0 _ _ _ _)
   | (with_reducible exact LeO.refl _)
   | (with_reducible exact LeO.none _)
   | (with_reducible refine LeO.ite ?_ ?_)
   | (with_reducible refine LeO.bind ?_ (fun _ => ?_))
   | exact ih0 _ _ _ _
   | exact LeO.none _
   | refine LeO.ite ?_ ?_
   | refine LeO.bind ?_ (fun _ => ?_)
end Go.Proofs.Ytkjjidanakmkeaa.Q
end
section
namespace Go.Proofs.Ytkjjidanakmkeaa.Q
open Go.RowKit Go.Proofs.YtkjjidanakmkeaaW.PrintWords Go.Proofs.YtkjjidanakmkeaaW.PrintLast Go.Proofs.YtkjjidanakmkeaaW.PrintMore
attribute [local go_sem] max2_int min2_int max_two min_two max_three min_three max_four min_four   -- for this text's walks alone
set_option linter.unusedVariables false
set_option linter.unusedSimpArgs false
attribute [local go_sem high] eqA36
set_option maxHeartbeats 8000000 in
set_option maxRecDepth 100000 in
theorem spoorref19_Same.calls (k : Nat) (A0 : Option Addr) (c0 : Nat) (l0 : List (S36)) (A1 : Option Addr) (c1 : Nat) (l1 : List (S36)) (r : Bool) (w : World) (hr0 : Kd.C k36 w A0 l0.length l0) (hc0 : l0.length ≤ c0) (hr1 : Kd.C k36 w A1 l1.length l1) (hc1 : l1.length ≤ c1) (h : spoorref19_Same.f k l0 l1 = some r) :
  Calls Try.prog 16 #[.slice A0 l0.length c0, .slice A1 l1.length c1] w fun e w' => e = .returned (.bool r) ∧ Drawn0 w w' := by
 have hu36 := Try.underlying36
 have HR0 := Ax hr0
 have HC0 := Ax hc0
 clear hr0 hc0
 have HR1 := Ax hr1
 have HC1 := Ax hc1
 clear hr1 hc1
 have H : (if (l0.length : Int) = (l1.length : Int) then (spoorref19_Same.l0 k l0 l1 (l0.length : Int) 0) else (some false)) = some r := h
 clear h
 by_cases c3 : (l0.length : Int) = (l1.length : Int)
 ·rw [if_pos c3] at H
  have c3b0 : ((l0.length : Int) == (l1.length : Int)) = true := beq_iff_eq.mpr c3
  have c3b1 : ((l0.length : Int) != (l1.length : Int)) = false := bne_eq_false_iff_eq.mpr c3
  have c3b2 : (l0.length == l1.length) = true := by first | simpa using c3 | (simp at c3 ⊢; omega)
  clear c3
  have H' := Ax H
  clear H
  go_enter Try.func16, Try.ntmps16
  go_wp2
  repeat (go_quiet (fail); try go_wp2)
  go_loopg [13] k (fun kq v13 w' => ∃ (x13_1 : Int), v13 = .int .i64 x13_1 ∧ Aside0 (spoorref19_Same.l0 kq l0 l1 (l0.length : Int) x13_1 = some r) ∧ Aside0 (kq ≤ k) ∧ Drawn0 w w')
  case atStart => exact ⟨(0), rS, H', ⟨Nat.le_refl _⟩, by repeat (first | exact Drawn0.refl _ | apply Drawn0.step)⟩
  case round =>
   clear H'
   try clear c1
   try clear p2
   try clear c3
   try clear c3b0
   try clear c3b1
   try clear c3b2
   obtain ⟨x13_1, rfl, HA, HK1, ⟨m1, rfl⟩⟩ := hrel
   cases gk with
   | zero => exact absurd HA.out (by simp [spoorref19_Same.l0])
   | succ k1 =>
    have H := HA.out
    clear HA
    simp only [spoorref19_Same.l0] at H
    by_cases c4 : x13_1 < (l0.length : Int)
    ·rw [if_pos c4] at H
     have c4b0 : decide (x13_1 < (l0.length : Int)) = true := decide_eq_true c4
     clear c4
     by_cases c5 : 0 ≤ x13_1
     ·rw [if_pos c5] at H
      have c5b0 : decide (0 ≤ x13_1) = true := decide_eq_true c5
      clear c5
      by_cases c6 : x13_1 < (l0.length : Int)
      ·rw [if_pos c6] at H
       have c6b0 : decide (x13_1 < (l0.length : Int)) = true := decide_eq_true c6
       clear c6
       by_cases c7 : x13_1 < (l1.length : Int)
       ·rw [if_pos c7] at H
        have c7b0 : decide (x13_1 < (l1.length : Int)) = true := decide_eq_true c7
        clear c7
        by_cases c8 : (!(((rd_T36 l0 x13_1).f0) == ((rd_T36 l1 x13_1).f0)) || (!(((rd_T36 l0 x13_1).f1) == ((rd_T36 l1 x13_1).f1)))) = true
        ·rw [if_pos c8] at H
         have c8b0 : (!(((rd_T36 l0 x13_1).f0) == ((rd_T36 l1 x13_1).f0)) || (!(((rd_T36 l0 x13_1).f1) == ((rd_T36 l1 x13_1).f1)))) = true := c8
         clear c8
         obtain rfl := Option.some.inj H
         have p122 : 0 ≤ (x13_1 : Int) := of_decide_eq_true (by first | (with_reducible assumption) | assumption)
         have q122 : x13_1 < (l0.length : Int) := of_decide_eq_true (by first | (with_reducible assumption) | assumption)
         obtain ⟨ad122, e122, hx122_0, hx122_1⟩ := at_T36 HR0.out x13_1 p122 q122
         cases e122
         replace p122 := eq_true p122
         replace q122 := eq_true q122
         have p123 : 0 ≤ (x13_1 : Int) := of_decide_eq_true (by first | (with_reducible assumption) | assumption)
         have q123 : x13_1 < (l1.length : Int) := of_decide_eq_true (by first | (with_reducible assumption) | assumption)
         obtain ⟨ad123, e123, hx123_0, hx123_1⟩ := at_T36 HR1.out x13_1 p123 q123
         cases e123
         replace p123 := eq_true p123
         replace q123 := eq_true q123
         go_wp2
         repeat (go_quiet (fail); try go_wp2)
         go_ret
         exact ⟨by first | rfl | (simp; done) | (simp [*]; done), by repeat (first | exact Drawn0.refl _ | apply Drawn0.step)⟩
        ·rw [if_neg c8] at H
         have c8b0 : (!(((rd_T36 l0 x13_1).f0) == ((rd_T36 l1 x13_1).f0)) || (!(((rd_T36 l0 x13_1).f1) == ((rd_T36 l1 x13_1).f1)))) = false := by simpa using c8
         clear c8
         have H' := Ax H
         clear H
         have p122 : 0 ≤ (x13_1 : Int) := of_decide_eq_true (by first | (with_reducible assumption) | assumption)
         have q122 : x13_1 < (l0.length : Int) := of_decide_eq_true (by first | (with_reducible assumption) | assumption)
         obtain ⟨ad122, e122, hx122_0, hx122_1⟩ := at_T36 HR0.out x13_1 p122 q122
         cases e122
         replace p122 := eq_true p122
         replace q122 := eq_true q122
         have p123 : 0 ≤ (x13_1 : Int) := of_decide_eq_true (by first | (with_reducible assumption) | assumption)
         have q123 : x13_1 < (l1.length : Int) := of_decide_eq_true (by first | (with_reducible assumption) | assumption)
         obtain ⟨ad123, e123, hx123_0, hx123_1⟩ := at_T36 HR1.out x13_1 p123 q123
         cases e123
         replace p123 := eq_true p123
         replace q123 := eq_true q123
         go_wp2
         repeat (go_quiet (fail); try go_wp2)
         go_roundg k1
         case measure => have := HK1.out; omega
         case rel => exact ⟨(wrap64 (x13_1 + 1)), rS, H', ⟨by have := HK1.out; omega⟩, by repeat (first | exact Drawn0.refl _ | apply Drawn0.step)⟩
       ·rw [if_neg c7] at H
        exact absurd H (by simp)
      ·rw [if_neg c6] at H
       exact absurd H (by simp)
     ·rw [if_neg c5] at H
      exact absurd H (by simp)
    ·rw [if_neg c4] at H
     have c4b0 : decide (x13_1 < (l0.length : Int)) = false := decide_eq_false c4
     clear c4
     obtain rfl := Option.some.inj H
     go_wp2
     repeat (go_quiet (fail); try go_wp2)
     go_ret
     exact ⟨by first | rfl | (simp; done) | (simp [*]; done), by repeat (first | exact Drawn0.refl _ | apply Drawn0.step)⟩
 ·rw [if_neg c3] at H
  have c3b0 : ((l0.length : Int) == (l1.length : Int)) = false := beq_eq_false_iff_ne.mpr c3
  have c3b1 : ((l0.length : Int) != (l1.length : Int)) = true := bne_iff_ne.mpr c3
  have c3b2 : (l0.length == l1.length) = false := by first | simpa using c3 | (simp at c3 ⊢; omega)
  obtain rfl := Option.some.inj H
  go_enter Try.func16, Try.ntmps16
  go_wp2
  repeat (go_quiet (fail); try go_wp2)
  go_ret
  exact ⟨by first | rfl | (simp; done) | (simp [*]; done), by repeat (first | exact Drawn0.refl _ | apply Drawn0.step)⟩
abbrev RnM := S63
def fieldM : Array Value := #[.int .i64 0, .int .i64 1099511627776, .func (.func 43) #[] #[], .func (.func 44) #[] #[], .func (.func 45) #[] #[]]
theorem cmpI_ltM (a b : Int) : decide (cmpI a b < 0) = decide (a < b) := by unfold cmpI; (repeat' split) <;> simp <;> omega
theorem infoM19 : (Try.prog.info? 63).map (fun i => (i.zero, i.size, i.bytes)) = some (some (.agg #[(.int .i64 0), (.int .i64 0)]), 2, 16) := by kernel_rfl
theorem cmpI_le (a b : Int) : decide (cmpI a b ≤ 0) = decide (a ≤ b) := by unfold cmpI; (repeat' split) <;> simp <;> omega
def cutR (x y : RnM) : RnM := ⟨if x.f0 < y.f0 then y.f0 else x.f0, if y.f1 < x.f1 then y.f1 else x.f1⟩
def meetN : Nat → List RnM → List RnM → List RnM
  | n + 1, x :: xs, y :: ys => (if (cutR x y).f0 ≤ (cutR x y).f1 then [cutR x y] else []) ++ if x.f1 ≤ y.f1 then meetN n xs (y :: ys) else meetN n (x :: xs) ys
  | _, _, _ => []
theorem meetN_len : ∀ (n : Nat) (a b : List RnM), (meetN n a b).length ≤ n
  | 0, a, b => by cases a <;> cases b <;> simp [meetN]
  | n + 1, [], b => by simp [meetN]
  | n + 1, x :: xs, [] => by simp [meetN]
  | n + 1, x :: xs, y :: ys => by
    have h1 := meetN_len n xs (y :: ys)
    have h2 := meetN_len n (x :: xs) ys
    simp only [meetN, List.length_append]
    split <;> split <;> simp <;> omega
theorem cut_one {P : Program} (t e : TypeId) {i : TypeInfo} (ht : P.underlying t = some (.slice e)) (hi : P.info? e = some i) (size : Nat) (hsz : i.size = size) (A : Option Addr) (n c : Nat) (hn : 1 ≤ n) (hc : n ≤ c) :
    ∀ W : World, (Instr.slice t (.slice A n c) (some (.int .i64 1)) none none).run P W = .ok (.slice (if c = 1 then A else A.map (·.add (1 * size))) (n - 1) (c - 1)) W := by
  intro W
  have hel : P.elem t = e := by simp [Program.elem, ht]
  have hu : P.underlying t = some (.slice (P.elem t)) := by rw [hel]; exact ht
  rw [run_slice_l W t A n c hu .i64 (1 : Int) (by decide) (by omega), hel]
  simp [sizeOf, typeInfo, hi, hsz, sliced, Result.andThen]
theorem meetN_step (x y : RnM) (xs ys : List RnM) : meetN ((x :: xs).length + (y :: ys).length) (x :: xs) (y :: ys) = (if (cutR x y).f0 ≤ (cutR x y).f1 then [cutR x y] else []) ++ if x.f1 ≤ y.f1 then meetN (xs.length + (y :: ys).length) xs (y :: ys) else meetN ((x :: xs).length + ys.length) (x :: xs) ys := by
  have e : (x :: xs).length + (y :: ys).length = (xs.length + (y :: ys).length) + 1 := by simp only [List.length_cons]; omega
  have e2 : (x :: xs).length + ys.length = xs.length + (y :: ys).length := by simp only [List.length_cons]; omega
  rw [e, e2]
  rfl
theorem cut_row (A : Option Addr) (a : List RnM) (x : RnM) (xs : List RnM) (c : Nat) (ha : a = x :: xs) (hc : a.length ≤ c) : ∃ (A' : Option Addr) (c' : Nat), (∀ W : World, (Instr.slice 46 (.slice A a.length c) (some (.int .i64 1)) none none).run Try.prog W = .ok (.slice A' xs.length c') W) ∧ xs.length ≤ c' ∧ ∀ W : World, Kd.C k63 W A a.length a → Kd.C k63 W A' xs.length xs := by
  obtain ⟨i0, hi, hz⟩ := Option.map_eq_some_iff.1 infoM19
  simp only [Prod.mk.injEq] at hz
  have hs : i0.size = 2 := hz.2.1
  have hl : a.length = xs.length + 1 := by rw [ha]; rfl
  have hd : a.drop 1 = xs := by rw [ha]; rfl
  refine ⟨if c = 1 then A else A.map (·.add (1 * 2)), c - 1, fun W => ?_, ?_, fun W h => ?_⟩
  · rw [cut_one 46 63 Try.underlying46 hi 2 hs A a.length c (by omega) hc W, show a.length - 1 = xs.length by omega]
  · omega
  · have h2 := Kd.C_drop (m := 1) h (by omega) hc
    rw [hd] at h2
    exact h2
structure MtIn (w3 : World) (fb bx : Nat) (u v : Int) (val : Value) (out : List RnM) (W : World) : Prop where
  hx : W.heap[bx]? = some (.cells #[.int .i64 u, .int .i64 v] 63 (0, 0))
  hf : W.heap[fb]? = some (.cells fieldM 50 (0, 0))
  ow : Kd.R k63 63 W w3.heap.size (fun k_ => k_ ≠ bx) val out
  bl : Below w3.heap.size w3 W
  ge : w3.heap.size ≤ bx ∧ fb < w3.heap.size
theorem MtIn.drewN {w3 : World} {fb bx : Nat} {u v : Int} {val : Value} {out : List RnM} {W : World} (h : MtIn w3 fb bx u v val out W) (n : Nat) : MtIn w3 fb bx u v val out (W.drewN n) :=
  ⟨blk_drewN h.hx n, blk_drewN h.hf n, Kd.R_below h.ow (pw_below_drewN (Below.refl _ _) n), pw_below_drewN h.bl n, h.ge⟩
theorem MtIn.set0 {w3 : World} {fb bx : Nat} {u v : Int} {val : Value} {out : List RnM} {W : World} (h : MtIn w3 fb bx u v val out W) (z : Int) : MtIn w3 fb bx z v val out (W.setCell ⟨bx, 0, none⟩ (.int .i64 z)) :=
  ⟨blk_put h.hx 0 (.int .i64 z) rfl, blk_far h.hf (p := ⟨bx, 0, none⟩) (by have := h.ge; show fb ≠ bx; omega) _, Kd.R_far h.ow (p := ⟨bx, 0, none⟩) (fun _ hk => hk) _, h.bl.setCell (p := ⟨bx, 0, none⟩) h.ge.1 _, h.ge⟩
theorem MtIn.set1 {w3 : World} {fb bx : Nat} {u v : Int} {val : Value} {out : List RnM} {W : World} (h : MtIn w3 fb bx u v val out W) (z : Int) : MtIn w3 fb bx u z val out (W.setCell ⟨bx, 1, none⟩ (.int .i64 z)) :=
  ⟨blk_put h.hx 1 (.int .i64 z) rfl, blk_far h.hf (p := ⟨bx, 1, none⟩) (by have := h.ge; show fb ≠ bx; omega) _, Kd.R_far h.ow (p := ⟨bx, 1, none⟩) (fun _ hk => hk) _, h.bl.setCell (p := ⟨bx, 1, none⟩) h.ge.1 _, h.ge⟩
theorem row_at {w3 W : World} {A : Option Addr} {a : List RnM} {x : RnM} {xs : List RnM} (h : Kd.C k63 w3 A a.length a) (hb : Below w3.heap.size w3 W) (ha : a = x :: xs) : ∃ ad, A = some ad ∧ W.cell? ad = some (.int .i64 x.f0) ∧ W.cell? ⟨ad.block, ad.off + 1, none⟩ = some (.int .i64 x.f1) := by
  obtain ⟨ad, e, h0, h1⟩ := at_T63 (Kd.C_below h hb) (0 : Int) (by omega) (by rw [ha]; simp)
  rw [show rd_T63 a 0 = x by rw [ha]; rfl] at h0 h1
  simp only [Int.toNat_zero, Nat.zero_mul, Addr.add_zero'] at h0 h1
  exact ⟨ad, e, h0, h1⟩
set_option maxRecDepth 100000 in
set_option maxHeartbeats 4000000 in
theorem meet_is (A0 : Option Addr) (c0 : Nat) (l0 : List RnM) (A1 : Option Addr) (c1 : Nat) (l1 : List RnM) (hL : (l0.length + l1.length + 1) * 16 ≤ 140737488355328) (w : World) (hr0 : Kd.C k63 w A0 l0.length l0) (hc0 : l0.length ≤ c0) (hr1 : Kd.C k63 w A1 l1.length l1) (hc1 : l1.length ≤ c1) :
    Calls Try.prog 40 #[.agg fieldM, .slice A0 l0.length c0, .slice A1 l1.length c1] w fun e w' => ∃ v : Value, e = .returned v ∧ Kd.R k63 63 w' w.heap.size (fun _ => True) v (meetN (l0.length + l1.length) l0 l1) ∧ Below w.heap.size w w' := by
  have hb0 := Aside0.mk (below_alloc (Below.refl w.heap.size w) (.cells fieldM 50))
  have BF0 := Aside0.mk (heap_alloc_new w (.cells fieldM 50))
  have HR0 := Aside0.mk (Kd.C_below hr0 hb0.out)
  have HR1 := Aside0.mk (Kd.C_below hr1 hb0.out)
  have HL := Aside0.mk hL
  have HC0 := Aside0.mk hc0
  have HC1 := Aside0.mk hc1
  clear hr0 hr1 hL hc0 hc1
  go_enter Try.func40, Try.ntmps40
  unfold fieldM at BF0 hb0 HR0 HR1 ⊢
  go_wp2
  generalize w.alloc (.cells #[.int .i64 0, .int .i64 1099511627776, .func (.func 43) #[] #[], .func (.func 44) #[] #[], .func (.func 45) #[] #[]] 50) = w3 at BF0 hb0 HR0 HR1 ⊢
  go_loopg [1, 2, 7] (l0.length + l1.length) (fun kq v1 v2 v7 w' => ∃ (a b out : List RnM) (Aa Ab : Option Addr) (ca cb : Nat), v1 = .slice Aa a.length ca ∧ v2 = .slice Ab b.length cb ∧ Aside0 (kq = a.length + b.length ∧ a.length ≤ l0.length ∧ b.length ≤ l1.length ∧ a.length ≤ ca ∧ b.length ≤ cb ∧ out.length + (a.length + b.length) ≤ l0.length + l1.length) ∧ Aside0 (Kd.C k63 w3 Aa a.length a) ∧ Aside0 (Kd.C k63 w3 Ab b.length b) ∧ Aside0 (out ++ meetN (a.length + b.length) a b = meetN (l0.length + l1.length) l0 l1) ∧ Aside0 (Kd.R k63 63 w' w3.heap.size (fun _ => True) v7 out) ∧ Aside0 (Below w3.heap.size w3 w'))
  case atStart => exact ⟨l0, l1, [], A0, A1, c0, c1, rfl, rfl, ⟨rfl, Nat.le_refl _, Nat.le_refl _, HC0.out, HC1.out, by simp⟩, HR0, HR1, ⟨rfl⟩, ⟨Kd.R_nil _ _ _ _ _⟩, ⟨Below.refl _ _⟩⟩
  case round =>
    obtain ⟨a, b, out, Aa, Ab, ca, cb, rfl, rfl, HI, HA, HB, HV, HO, Hb⟩ := hrel
    by_cases ha : 0 < a.length
    case neg =>
      obtain rfl : a = [] := List.length_eq_zero_iff.mp (by omega)
      have d1 : decide ((0 : Int) < (0 : Int)) = false := by decide
      have hv := HV.out
      rw [show meetN (([] : List RnM).length + b.length) [] b = [] by cases b <;> cases h : (([] : List RnM).length + List.length _) <;> rfl, List.append_nil] at hv
      have HV2 := Aside0.mk hv
      clear HV hv
      simp only [List.length_nil]
      go_wp2
      go_ret
      exact ⟨_, rfl, by rw [← HV2.out]; exact Kd.R_lower HO.out hb0.out.size, below_step hb0.out Hb.out⟩
    have da : decide (0 < (a.length : Int)) = true := decide_eq_true (by omega)
    have dan : decide (0 < a.length) = true := decide_eq_true ha
    by_cases hb : 0 < b.length
    case neg =>
      obtain rfl : b = [] := List.length_eq_zero_iff.mp (by omega)
      have d1 : decide ((0 : Int) < (0 : Int)) = false := by decide
      have hv := HV.out
      rw [show meetN (a.length + ([] : List RnM).length) a [] = [] by cases a <;> cases h : (List.length _ + ([] : List RnM).length) <;> rfl, List.append_nil] at hv
      have HV2 := Aside0.mk hv
      clear HV hv
      simp only [List.length_nil]
      go_wp2
      go_ret
      exact ⟨_, rfl, by rw [← HV2.out]; exact Kd.R_lower HO.out hb0.out.size, below_step hb0.out Hb.out⟩
    have db : decide (0 < (b.length : Int)) = true := decide_eq_true (by omega)
    have dbn : decide (0 < b.length) = true := decide_eq_true hb
    obtain ⟨x, xs, hax⟩ : ∃ x xs, a = x :: xs := by cases a with | nil => simp at ha | cons x xs => exact ⟨x, xs, rfl⟩
    obtain ⟨y, ys, hby⟩ : ∃ y ys, b = y :: ys := by cases b with | nil => simp at hb | cons y ys => exact ⟨y, ys, rfl⟩
    obtain ⟨ada, eada, hxa0, hxa1⟩ := at_T63 (Kd.C_below HA.out Hb.out) (0 : Int) (by omega) (by omega)
    obtain ⟨adb, eadb, hyb0, hyb1⟩ := at_T63 (Kd.C_below HB.out Hb.out) (0 : Int) (by omega) (by omega)
    subst eada
    subst eadb
    rw [show rd_T63 a 0 = x by rw [hax]; rfl] at hxa0 hxa1
    rw [show rd_T63 b 0 = y by rw [hby]; rfl] at hyb0 hyb1
    simp only [Int.toNat_zero, Nat.zero_mul, Addr.add_zero'] at hxa0 hxa1 hyb0 hyb1
    have HAX := Aside0.mk hax
    have HBY := Aside0.mk hby
    have q0 : ((0 : Int) < (a.length : Int)) = True := eq_true (by omega)
    have q1 : ((0 : Int) < (b.length : Int)) = True := eq_true (by omega)
    have q2 : (0 < a.length) = True := eq_true ha
    have q3 : (0 < b.length) = True := eq_true hb
    clear hax hby ha hb
    have hza0 := cell_alloc_ (.cells #[.int .i64 0, .int .i64 0] 63) hxa0
    have hza1 := cell_alloc_ (.cells #[.int .i64 0, .int .i64 0] 63) hxa1
    go_wp2
    go_region
    have HPA := Aside0.mk (show 0 < a.length by rw [HAX.out]; simp)
    have HPB := Aside0.mk (show 0 < b.length by rw [HBY.out]; simp)
    obtain ⟨A7, c7, rfl⟩ := Kd.R_slice HO.out
    have M3 : Aside0 (MtIn w3 w.heap.size wr.heap.size x.f0 x.f1 (.slice A7 out.length c7) out ((wr.alloc (.cells #[.int .i64 x.f0, .int .i64 x.f1] 63)).drew)) :=
      ⟨⟨blk_drew (heap_alloc_new wr _), blk_drew (blk_alloc (blk_below BF0.out Hb.out) _), Kd.R_mono (Kd.R_below (Kd.R_bound HO.out) (below_drew1 (below_alloc (Below.refl _ _) _))) (fun k_ hk => Nat.ne_of_lt hk.2.2.1), below_drew1 (below_alloc Hb.out _), ⟨Hb.out.size, blk_lt BF0.out⟩⟩⟩
    obtain ⟨Aa2, ca2, hsa, hca2, hca3⟩ := cut_row (some ada) a x xs ca HAX.out HI.out.2.2.2.1
    obtain ⟨Ab2, cb2, hsb, hcb2, hcb3⟩ := cut_row (some adb) b y ys cb HBY.out HI.out.2.2.2.2.1
    have HCA := Aside0.mk (And.intro hca2 hca3)
    have HCB := Aside0.mk (And.intro hcb2 hcb3)
    have HST := Aside0.mk (meetN_step x y xs ys)
    clear hxa0 hxa1 hyb0 hyb1 hza0 hza1 hca2 hca3 hcb2 hcb3 HO Hb
    generalize (wr.alloc (.cells #[.int .i64 x.f0, .int .i64 x.f1] 63)).drew = W3 at M3 ⊢
    generalize wr.heap.size = bx at M3 ⊢
    have HNI := Aside0.mk (show (1 : Int) ≤ (a.length : Int) ∧ (1 : Int) ≤ (b.length : Int) by have := HPA.out; have := HPB.out; omega)
    have e1 : decide (cmpI x.f0 y.f0 < 0) = decide (x.f0 < y.f0) := cmpI_ltM _ _
    obtain ⟨ad_, ed_, hyb0, hyb1⟩ := row_at HB.out M3.out.bl HBY.out
    obtain rfl := Option.some.inj ed_
    have hg2 := (blk_cell M3.out.hf 2).trans (rfl : _ = some (Value.func (.func 43) #[] #[]))
    have hbx0 := (blk_cell M3.out.hx 0).trans (rfl : _ = some (Value.int .i64 x.f0))
    go_wp2
    go_quiet ((go_at_call 43; exact Calls.quiet_of_same (cmp_is _ _ _)))
    have M4 := Aside0.mk (M3.out.drewN nq)
    clear hyb0 hyb1 hg2 hbx0 M3
    generalize W3.drewN nq = W4 at M4 ⊢
    go_upto_if 36 with (fail)
    go_cut [36] from 79 (fun v36 w' => Aside0 (MtIn w3 w.heap.size bx (cutR x y).f0 x.f1 (.slice A7 out.length c7) out w'))
    case first =>
      obtain ⟨ad_, ed_, hyb0, hyb1⟩ := row_at HB.out M4.out.bl HBY.out
      obtain rfl := Option.some.inj ed_
      have hbx0 := (blk_cell M4.out.hx 0).trans (rfl : _ = some (Value.int .i64 x.f0))
      have hbf0 := blk_frozen M4.out.hx 0
      by_cases k1 : x.f0 < y.f0
      · have g1 : decide (x.f0 < y.f0) = true := decide_eq_true k1
        have hc : (cutR x y).f0 = y.f0 := if_pos k1
        have HC := Aside0.mk hc
        clear k1 hc
        (first | rw [g1] | rw [e1, g1])
        go_wp2
        go_meet
        case rel => exact ⟨by rw [HC.out]; exact M4.out.set0 y.f0⟩
      · have g1 : decide (x.f0 < y.f0) = false := decide_eq_false k1
        have hc : (cutR x y).f0 = x.f0 := if_neg k1
        have HC := Aside0.mk hc
        clear k1 hc
        (first | rw [g1] | rw [e1, g1])
        go_wp2
        go_meet
        case rel => exact ⟨by rw [HC.out]; exact M4.out⟩
    case rest =>
    clear M4
    have M5 := hcut
    clear hcut
    obtain ⟨F, hF⟩ : ∃ F, (cutR x y).f0 = F := ⟨_, rfl⟩
    rw [hF] at M5
    have HF := Aside0.mk hF
    clear hF
    obtain ⟨ad_, ed_, hxa0, hxa1⟩ := row_at HA.out M5.out.bl HAX.out
    obtain rfl := Option.some.inj ed_
    obtain ⟨ad_, ed_, hyb0, hyb1⟩ := row_at HB.out M5.out.bl HBY.out
    obtain rfl := Option.some.inj ed_
    have hg2 := (blk_cell M5.out.hf 2).trans (rfl : _ = some (Value.func (.func 43) #[] #[]))
    go_wp2
    go_quiet ((go_at_call 43; exact Calls.quiet_of_same (cmp_is _ _ _)))
    have M6 := Aside0.mk (M5.out.drewN nq)
    clear hxa0 hxa1 hyb0 hyb1 hg2 M5
    generalize wc.drewN nq = W6 at M6 ⊢
    have e2 : decide (0 < cmpI x.f1 y.f1) = decide (y.f1 < x.f1) := cmpI_gt _ _
    go_upto_if 54 with (fail)
    go_cut [54] from 79 (fun v54 w' => Aside0 (MtIn w3 w.heap.size bx F (cutR x y).f1 (.slice A7 out.length c7) out w'))
    case first =>
      obtain ⟨ad_, ed_, hyb0, hyb1⟩ := row_at HB.out M6.out.bl HBY.out
      obtain rfl := Option.some.inj ed_
      have hbx1 := (blk_cell M6.out.hx 1).trans (rfl : _ = some (Value.int .i64 x.f1))
      have hbf1 := blk_frozen M6.out.hx 1
      by_cases k2 : y.f1 < x.f1
      · have g2 : decide (y.f1 < x.f1) = true := decide_eq_true k2
        have hc : (cutR x y).f1 = y.f1 := if_pos k2
        have HC := Aside0.mk hc
        clear k2 hc
        (first | rw [g2] | rw [e2, g2])
        go_wp2
        go_meet
        case rel => exact ⟨by rw [HC.out]; exact M6.out.set1 y.f1⟩
      · have g2 : decide (y.f1 < x.f1) = false := decide_eq_false k2
        have hc : (cutR x y).f1 = x.f1 := if_neg k2
        have HC := Aside0.mk hc
        clear k2 hc
        (first | rw [g2] | rw [e2, g2])
        go_wp2
        go_meet
        case rel => exact ⟨by rw [HC.out]; exact M6.out⟩
    case rest =>
    clear M6
    have M7 := hcut
    clear hcut
    obtain ⟨T, hT⟩ : ∃ T, (cutR x y).f1 = T := ⟨_, rfl⟩
    rw [hT] at M7
    have hst := HST.out
    rw [HF.out, hT, show cutR x y = ⟨F, T⟩ from by rw [← HF.out, ← hT]] at hst
    have HST2 := Aside0.mk hst
    clear hT hst HST
    have hg2 := (blk_cell M7.out.hf 2).trans (rfl : _ = some (Value.func (.func 43) #[] #[]))
    have hbx0 := (blk_cell M7.out.hx 0).trans (rfl : _ = some (Value.int .i64 F))
    have hbx1 := (blk_cell M7.out.hx 1).trans (rfl : _ = some (Value.int .i64 T))
    have e4 : decide (cmpI F T ≤ 0) = decide (F ≤ T) := cmpI_le _ _
    go_upto_if 67 with (go_at_call 43; refine (cmp_is _ _ _).mono ?_; rintro e w' ⟨rfl, rfl⟩)
    go_cut [7, 67] from 79 (fun v7 v67 w' => Aside0 (Kd.R k63 63 w' w3.heap.size (fun _ => True) v7 (out ++ if F ≤ T then [⟨F, T⟩] else [])) ∧ Aside0 (Below w3.heap.size w3 w'))
    case first =>
      by_cases k3 : F ≤ T
      · have g4 : decide (F ≤ T) = true := decide_eq_true k3
        have HK3 := Aside0.mk k3
        clear k3
        (first | rw [g4] | rw [e4, g4])
        go_wp2_with (first | (at_builtin; refine Kd.R_append k63 (w0 := w3) w3.heap.size rfl (.tmp 68) (.tmp 70) 46 63 (.agg #[(.int .i64 0), (.int .i64 0)]) 16 rfl Try.underlying46 infoM19 rfl (by decide) (by omega) _ out ⟨F, T⟩ [.int .i64 F, .int .i64 T] (fun k_ => k_ ≠ bx) (fun _ => False) rfl ?aX (k63_mkM _ _ _ (⟨F, T⟩ : RnM)) (fun _ hk => hk.elim) ?aF M7.out.ow M7.out.bl M7.out.bl.size (by have h1 := HL.out; have h2 := HI.out; have h3 := HPA.out; have h4 := HPB.out; omega) ?_; (case aX => first | rfl | (go_simp; done) | (go_simp; rfl)); (case aF => intro k_ hk_ he_; subst he_; exact absurd (blk_lt M7.out.hx) (Nat.not_lt.2 hk_)); intro v1 w1 ho1 hb1 hg1 hat1; have HOZ := Aside0.mk (Kd.R_mono ho1 (fun _ _ => trivial)); have HbZ := Aside0.mk hb1; clear ho1 hb1 hg1 hat1))
        all_goals
          go_meet
          case rel => exact ⟨⟨by rw [if_pos HK3.out]; exact HOZ.out⟩, HbZ⟩
      · have g4 : decide (F ≤ T) = false := decide_eq_false k3
        have HK3 := Aside0.mk k3
        clear k3
        (first | rw [g4] | rw [e4, g4])
        go_wp2
        go_meet
        case rel => exact ⟨⟨by rw [if_neg (by have := HK3.out; omega), List.append_nil]; exact Kd.R_mono M7.out.ow (fun _ _ => trivial)⟩, ⟨M7.out.bl⟩⟩
    case rest =>
    clear M7 hg2 hbx0 hbx1
    obtain ⟨HO8, Hb8⟩ := hcut
    have e3 : decide (cmpI x.f1 y.f1 ≤ 0) = decide (x.f1 ≤ y.f1) := cmpI_le _ _
    have HLN : Aside0 ((out ++ if F ≤ T then [(⟨F, T⟩ : RnM)] else []).length ≤ out.length + 1) := ⟨by rw [List.length_append]; split <;> simp⟩
    have HV2 := Aside0.mk (show (out ++ if F ≤ T then [(⟨F, T⟩ : RnM)] else []) ++ (if x.f1 ≤ y.f1 then meetN (xs.length + b.length) xs b else meetN (a.length + ys.length) a ys) = meetN (l0.length + l1.length) l0 l1 by
      have hv := HV.out
      have h3 := HST2.out
      rw [← HAX.out, ← HBY.out] at h3
      rw [h3] at hv
      rw [List.append_assoc]
      exact hv)
    have HLA := Aside0.mk (show a.length = xs.length + 1 by rw [HAX.out]; rfl)
    have HLB := Aside0.mk (show b.length = ys.length + 1 by rw [HBY.out]; rfl)
    clear HV HST2
    generalize (out ++ if F ≤ T then [(⟨F, T⟩ : RnM)] else []) = out2 at HO8 HLN HV2 ⊢
    by_cases k4 : x.f1 ≤ y.f1
    · have g3 : decide (x.f1 ≤ y.f1) = true := decide_eq_true k4
      have hv := HV2.out
      rw [if_pos k4] at hv
      have HV3 := Aside0.mk hv
      clear k4 hv
      go_wp2
      go_roundg (xs.length + b.length)
      case measure => have h1 := HLA.out; have h2 := HI.out; omega
      case rel => exact ⟨xs, b, out2, Aa2, some adb, ca2, cb, rfl, rfl, ⟨rfl, by have h1 := HLA.out; have h2 := HI.out; omega, HI.out.2.2.1, HCA.out.1, HI.out.2.2.2.2.1, by have h1 := HLA.out; have h2 := HI.out; have h3 := HLN.out; omega⟩, ⟨HCA.out.2 _ HA.out⟩, HB, HV3, HO8, Hb8⟩
    · have g3 : decide (x.f1 ≤ y.f1) = false := decide_eq_false k4
      have hv := HV2.out
      rw [if_neg k4] at hv
      have HV3 := Aside0.mk hv
      clear k4 hv
      go_wp2
      go_roundg (a.length + ys.length)
      case measure => have h1 := HLB.out; have h2 := HI.out; omega
      case rel => exact ⟨a, ys, out2, some ada, Ab2, ca, cb2, rfl, rfl, ⟨rfl, HI.out.2.1, by have h1 := HLB.out; have h2 := HI.out; omega, HI.out.2.2.2.1, HCB.out.1, by have h1 := HLB.out; have h2 := HI.out; have h3 := HLN.out; omega⟩, HA, ⟨HCB.out.2 _ HB.out⟩, HV3, HO8, Hb8⟩
theorem two_rowsM {W : World} {g : Nat} {A0 A1 : Option Addr} {c0 c1 : Nat} {l0 l1 : List S36} (hg : W.heap[g]? = some (.cells #[.slice A0 l0.length c0, .slice A1 l1.length c1] 22 (0, 0))) (h0 : Kd.C k36 W A0 l0.length l0) (hc0 : l0.length ≤ c0) (h1 : Kd.C k36 W A1 l1.length l1) (hc1 : l1.length ≤ c1) :
    Kd.C (Kd.slice 36 k36) W (some ⟨g, 0, none⟩) [l0, l1].length [l0, l1] := by
  refine ⟨rfl, by simp, fun _ => ⟨_, rfl, fun j p hj => ?_⟩⟩
  match j, hj with
  | 0, hj =>
    obtain rfl := Option.some.inj hj
    refine ⟨[.slice A0 l0.length c0], rfl, ⟨A0, c0, rfl, hc0, h0⟩, fun i u hu => ?_⟩
    match i, hu with
    | 0, hu => exact (blk_cell hg 0).trans hu
  | 1, hj =>
    obtain rfl := Option.some.inj hj
    refine ⟨[.slice A1 l1.length c1], rfl, ⟨A1, c1, rfl, hc1, h1⟩, fun i u hu => ?_⟩
    match i, hu with
    | 0, hu => exact (blk_cell hg 1).trans hu
  | j + 2, hj => simp at hj
def ivl_And.f (k : Nat) (l0 l1 : List S36) : Option (List S36 × Int) := (ivl_rows.f k [l0, l1]).bind fun y =>
  if y ≠ 0 then some ([], y) else (ivl_runs.f k l0).bind fun ra => (ivl_runs.f k l1).bind fun rb =>
  if (ra.length + rb.length + 1) * 16 ≤ 140737488355328 then ivl_told.f k (meetN (ra.length + rb.length) ra rb) else none
theorem ivl_And.mono : ∀ a0 a1 k, LeO (ivl_And.f k a0 a1) (ivl_And.f (k + 1) a0 a1) := by
  intro a0 a1 k
  unfold ivl_And.f
  exact LeO.bind (ivl_rows.mono _ _) (fun _ => LeO.ite (LeO.refl _) (LeO.bind (ivl_runs.mono _ _) (fun _ => LeO.bind (ivl_runs.mono _ _) (fun _ => LeO.ite (ivl_told.mono _ _) (LeO.refl _)))))
set_option maxRecDepth 100000 in
set_option maxHeartbeats 4000000 in
theorem ivl_And.calls (k : Nat) (A0 : Option Addr) (c0 : Nat) (l0 : List (S36)) (A1 : Option Addr) (c1 : Nat) (l1 : List (S36)) (r1 : List (S36)) (r2 : Int) (w : World) (hr0 : Kd.C k36 w A0 l0.length l0) (hc0 : l0.length ≤ c0) (hr1 : Kd.C k36 w A1 l1.length l1) (hc1 : l1.length ≤ c1) (h : ivl_And.f k l0 l1 = some (r1, r2)) :
    Calls Try.prog 21 #[.slice A0 l0.length c0, .slice A1 l1.length c1] w fun e w' => ∃ v0_ : Value, e = .returned (.tuple #[v0_, .int .i64 r2]) ∧ Kd.R k36 36 w' w.heap.size (fun _ => True) v0_ r1 ∧ Below w.heap.size w w' := by
  obtain ⟨y, hy, h⟩ := Option.bind_eq_some_iff.mp h
  have HY := Aside0.mk hy
  have HC0 := Aside0.mk hc0
  have HC1 := Aside0.mk hc1
  have HB1 := Aside0.mk (below_alloc (Below.refl w.heap.size w) (.cells #[.slice A0 l0.length c0, .slice A1 l1.length c1] 22))
  have HR1 := Aside0.mk (two_rowsM (heap_alloc_new w (.cells #[.slice A0 l0.length c0, .slice A1 l1.length c1] 22)) (Kd.C_below hr0 HB1.out) hc0 (Kd.C_below hr1 HB1.out) hc1)
  have HA0 := Aside0.mk hr0
  have HA1 := Aside0.mk hr1
  clear hy hr0 hr1 hc0 hc1
  go_enter Try.func21, Try.ntmps21
  by_cases cy : y ≠ 0
  · rw [if_pos cy] at h
    obtain ⟨e1, e2⟩ := Prod.mk.inj (Option.some.inj h)
    subst e1
    subst e2
    have d0 : (y != 0) = true := bne_iff_ne.mpr cy
    clear cy h
    go_wp2_with (go_at_call 37; refine (ivl_rows.calls k _ 2 _ _ _ HR1.out (by simp) HY.out).mono ?_; rintro e w5 ⟨rfl, hb5⟩; have HB5 := Aside0.mk (below_step HB1.out hb5); clear hb5)
    go_ret2
    exact ⟨_, rfl, Kd.R_nil _ _ _ _ _, HB5.out⟩
  · have cy0 : y = 0 := Decidable.not_not.mp cy
    subst cy0
    rw [if_neg cy] at h
    clear cy
    have d0 : ((0 : Int) != 0) = false := rfl
    obtain ⟨ra, hra, h⟩ := Option.bind_eq_some_iff.mp h
    obtain ⟨rb, hrb, h⟩ := Option.bind_eq_some_iff.mp h
    have HRA := Aside0.mk hra
    have HRB := Aside0.mk hrb
    by_cases cg : (ra.length + rb.length + 1) * 16 ≤ 140737488355328
    case neg => rw [if_neg cg] at h; cases h
    rw [if_pos cg] at h
    obtain ⟨mt, hmt⟩ : ∃ mt, meetN (ra.length + rb.length) ra rb = mt := ⟨_, rfl⟩
    rw [hmt] at h
    have HMT := Aside0.mk hmt
    have HT := Aside0.mk h
    have HG := Aside0.mk cg
    clear h cg hra hrb hmt
    go_wp2_with (first
      | (go_at_call 37; refine (ivl_rows.calls k _ 2 _ _ _ HR1.out (by simp) HY.out).mono ?_; rintro e w5 ⟨rfl, hb5⟩; have HB5 := Aside0.mk (below_step HB1.out hb5); clear hb5)
      | (go_at_call 29; refine (times_is _).mono ?_; rintro e w6 ⟨rfl, hb6⟩; have HB6 := Aside0.mk (below_step HB5.out hb6); have HW6 := Aside0.mk (Eq.refl w6); clear hb6)
      | (go_at_call 31; clear HW6; refine (ivl_runs.calls k _ _ l0 ra _ (Kd.C_below HA0.out HB6.out) HC0.out HRA.out).mono ?_; rintro e w8 ⟨v8, rfl, ho8, hb8⟩; have HB8 := Aside0.mk (below_step HB6.out hb8); obtain ⟨A8, c8, rfl⟩ := Kd.R_slice ho8; have HO8 := Aside0.mk ho8; clear hb8 ho8)
      | (go_at_call 31; refine (ivl_runs.calls k _ _ l1 rb _ (Kd.C_below HA1.out HB8.out) HC1.out HRB.out).mono ?_; rintro e w9 ⟨v9, rfl, ho9, hb9⟩; have HB9 := Aside0.mk (below_step HB8.out hb9); have HO89 := Aside0.mk (Kd.R_below HO8.out hb9); obtain ⟨A9, c9, rfl⟩ := Kd.R_slice ho9; have HO9 := Aside0.mk ho9; clear hb9 ho9)
      | (go_at_call 40; refine (meet_is A8 c8 ra A9 c9 rb HG.out _ (Kd.R_reads' HO89.out).2.2 (Kd.R_reads' HO89.out).2.1 (Kd.R_reads' HO9.out).2.2 (Kd.R_reads' HO9.out).2.1).mono ?_; rintro e w10 ⟨v10, rfl, ho10, hb10⟩; rw [HMT.out] at ho10; have HB10 := Aside0.mk (below_step HB9.out hb10); obtain ⟨A10, c10, rfl⟩ := Kd.R_slice ho10; have HO10 := Aside0.mk ho10; clear hb10 ho10)
      | (go_at_call 28; refine (ivl_told.calls k _ _ mt r1 r2 _ (Kd.R_reads' HO10.out).2.2 (Kd.R_reads' HO10.out).2.1 HT.out).mono ?_; rintro e w11 ⟨v11, rfl, ho11, hb11⟩; have HB11 := Aside0.mk (below_step HB10.out hb11); have HO11 := Aside0.mk (Kd.R_lower ho11 HB10.out.size); clear hb11 ho11))
    go_ret2
    exact ⟨_, rfl, HO11.out, HB11.out⟩
attribute [local go_sem] Oper.semAt_some
def intSzG : Value → Nat
  | .int _ x => x.toNat
  | _ => 0
theorem cell_alloc_neG {W : World} {o : Obj} {a : Addr} (h : (a.block = W.heap.size) = False) : (W.alloc o).cell? a = W.cell? a := by
  have h' : ¬ a.block = W.heap.size := by simpa using h
  have e : (W.alloc o).heap[a.block]? = W.heap[a.block]? := by
    show (W.heap.push o)[a.block]? = _
    rw [Array.getElem?_push, if_neg h']
  simp only [World.cell?, e]
attribute [local go_sem] cell_alloc_neG
theorem prev_is (a : Int) (h0 : -9223372036854775808 ≤ a - 1) (h1 : a - 1 ≤ 9223372036854775807) (w : World) : Calls Try.prog 45 #[.int .i64 a] w fun e w' => e = .returned (.int .i64 (a - 1)) ∧ w' = w := by
  go_enter Try.func45, Try.ntmps45
  go_wp2
  go_ret
  exact ⟨rfl, rfl⟩
def gapsL : Int → List RnM → List RnM
  | f, [] => [⟨f, 1099511627776⟩]
  | f, x :: xs => (if x.f0 = f then [] else [⟨f, x.f0 - 1⟩]) ++ (if x.f1 = 1099511627776 then [] else gapsL (x.f1 + 1) xs)
theorem gapsL_len : ∀ (l : List RnM) (f : Int), (gapsL f l).length ≤ l.length + 1
  | [], f => Nat.le_refl _
  | x :: xs, f => by
    have h := gapsL_len xs (x.f1 + 1)
    simp only [gapsL, List.length_append, List.length_cons]
    split <;> split <;> simp <;> omega
def encR (x : RnM) : Array Value := #[.agg #[.int .i64 x.f0, .int .i64 x.f1]]
def OwnG (gb N : Nat) (W : World) (v : Value) : Prop := W.heap[gb]? = some (.cells #[v] 46 (0, 0)) ∧ ∀ b, v.ownBlock = some b → N ≤ b ∧ b < W.heap.size
def KeepG (gb N : Nat) (W W' : World) : Prop := W.heap.size ≤ W'.heap.size ∧ ∀ v, OwnG gb N W v → ∃ v', OwnG gb N W' v' ∧ (v'.ownBlock = v.ownBlock ∨ ∃ b, v'.ownBlock = some b ∧ W.heap.size ≤ b) ∧ ∀ k cs t fr, W.heap[k]? = some (.cells cs t fr) → k ≠ gb → some k ≠ v.ownBlock → W'.heap[k]? = W.heap[k]?
theorem KeepG.refl (gb N : Nat) (W : World) : KeepG gb N W W := ⟨Nat.le_refl _, fun v h => ⟨v, h, .inl rfl, fun _ _ _ _ _ _ _ => rfl⟩⟩
theorem KeepG.trans {gb N : Nat} {A B C : World} (h : KeepG gb N A B) (k : KeepG gb N B C) : KeepG gb N A C := by
  refine ⟨Nat.le_trans h.1 k.1, fun v hv => ?_⟩
  obtain ⟨v1, h1, h2, h3⟩ := h.2 v hv
  obtain ⟨v2, k1, k2, k3⟩ := k.2 v1 h1
  refine ⟨v2, k1, ?_, fun b cs t fr hb hg ho => ?_⟩
  · rcases k2 with k2 | ⟨b, k2, k4⟩
    · rcases h2 with h2 | ⟨b, h2, h4⟩
      · exact .inl (k2.trans h2)
      · exact .inr ⟨b, k2.trans h2, h4⟩
    · exact .inr ⟨b, k2, Nat.le_trans h.1 k4⟩
  · have e1 := h3 b cs t fr hb hg ho
    rw [← e1]
    refine k3 b cs t fr (e1.trans hb) hg (fun e => ?_)
    rcases h2 with h2 | ⟨b', h2, h4⟩
    · exact ho (e.trans h2)
    · have e2 : b = b' := Option.some.inj (e.trans h2)
      have := blk_lt hb
      omega
theorem KeepG.below {gb N : Nat} {W W' : World} (hb : Below W.heap.size W W') : KeepG gb N W W' := by
  refine ⟨hb.size, fun v hv => ⟨v, ⟨blk_below hv.1 hb, fun b h => ⟨(hv.2 b h).1, Nat.lt_of_lt_of_le (hv.2 b h).2 hb.size⟩⟩, .inl rfl, fun k cs t fr h _ _ => hb.block k (blk_lt h)⟩⟩
theorem KeepG.putWalk {gb N l : Nat} {W : World} {o : Obj} (h : W.heap[l]? = some o) (hc : o.isCells = false) (o' : Obj) : KeepG gb N W (W.putObj l o') := by
  have hg := grownBy_putObj' W l o'
  have hk : ∀ (k : Nat) (cs : Array Value) (t : Nat) (fr : Nat × Nat), W.heap[k]? = some (.cells cs t fr) → (W.putObj l o').heap[k]? = W.heap[k]? := fun k cs t fr hb => hg.block k (blk_lt hb) (fun e => by
    have e' : k = l := Option.some.inj e
    subst e'
    rw [h] at hb
    cases hb
    cases hc)
  exact ⟨hg.size, fun v hv => ⟨v, ⟨(hk _ _ _ _ hv.1).trans hv.1, fun b hb => ⟨(hv.2 b hb).1, Nat.lt_of_lt_of_le (hv.2 b hb).2 hg.size⟩⟩, .inl rfl, fun k cs t fr hb _ _ => hk k cs t fr hb⟩⟩
structure GapsIn (N gb Bf Bs : Nat) (ls : List RnM) (A : Option Addr) (c : Nat) (W : World) : Prop where
  lt : Bf < N ∧ Bs < N ∧ Bf ≠ gb ∧ Bs ≠ gb ∧ N ≤ W.heap.size
  ow : ∃ v, OwnG gb N W v
  bf : W.heap[Bf]? = some (.cells fieldM 50 (0, 0))
  bs : W.heap[Bs]? = some (.cells #[.slice A ls.length c] 46 (0, 0))
  row : Kd.R k63 63 W 0 (fun k => k < N ∧ k ≠ gb) (.slice A ls.length c) ls
theorem GapsIn.keep {N gb Bf Bs : Nat} {ls : List RnM} {A : Option Addr} {c : Nat} {W W' : World} (h : GapsIn N gb Bf Bs ls A c W) (hk : KeepG gb N W W') : GapsIn N gb Bf Bs ls A c W' := by
  obtain ⟨v, hv⟩ := h.ow
  obtain ⟨v', k1, k2, k3⟩ := hk.2 v hv
  have own : ∀ k, k < N → some k ≠ v.ownBlock := fun k hk e => by have := (hv.2 k e.symm).1; omega
  refine ⟨⟨h.lt.1, h.lt.2.1, h.lt.2.2.1, h.lt.2.2.2.1, Nat.le_trans h.lt.2.2.2.2 hk.1⟩, ⟨v', k1⟩, (k3 _ _ _ _ h.bf h.lt.2.2.1 (own _ h.lt.1)).trans h.bf, (k3 _ _ _ _ h.bs h.lt.2.2.2.1 (own _ h.lt.2.1)).trans h.bs, ?_⟩
  exact Kd.R_mono (Kd.R_step (Kd.R_bound h.row) (fun k h1 _ => by
    obtain ⟨h2, _, h3, q, hq, cs, hc⟩ := h1
    exact k3 k cs q (0, 0) hc h2.2 (own k h2.1))) (fun _ h1 => h1.1)
theorem GapsIn.below {N gb Bf Bs : Nat} {ls : List RnM} {A : Option Addr} {c : Nat} {W W' : World} (h : GapsIn N gb Bf Bs ls A c W) (hb : Below W.heap.size W W') : GapsIn N gb Bf Bs ls A c W' := h.keep (KeepG.below hb)
theorem castG (i : Nat) : Value.int .i64 ((i : Int) + 1) = Value.int .i64 ((i + 1 : Nat) : Int) := rfl
theorem bmG {i a : Nat} (h2 : i < a) : a - intSzG (.int .i64 ((i : Int) + 1)) < a - intSzG (.int .i64 (i : Int)) := by simp only [intSzG]; omega
set_option maxRecDepth 100000 in
set_option maxHeartbeats 4000000 in
theorem gaps1_in (n : Nat) (hn : 1 ≤ n) (l N gb Bf Bs : Nat) (ls : List RnM) (A : Option Addr) (c : Nat) (hbd : ∀ x ∈ ls, 0 ≤ x.f0 ∧ x.f0 ≤ x.f1 ∧ x.f1 ≤ 1099511627776) (J Jx : List RnM → World → Prop)
    (hY : ∀ pre x W, J pre W → pre.length < ls.length + 1 → YieldAt Fence.wide (n - 1) Try.prog l (encR x) W fun e W' =>
      (e = .returned (.bool true) ∧ J (pre ++ [x]) W' ∧ KeepG gb N W W') ∨ (e = .returned (.bool false) ∧ Jx (pre ++ [x]) W'))
    (hJg : ∀ pre W W', J pre W → W.grownBy W' none → J pre W')
    (W : World) (hB : GapsIn N gb Bf Bs ls A c W) (h0 : J [] W) :
    CallsIn Fence.wide n Try.prog 51 #[.func (.yield l) #[] #[], .pointer (some ⟨Bf, 0, none⟩), .pointer (some ⟨Bs, 0, none⟩)] W fun e W' => (∃ v, e = .returned v) ∧
      ((∃ ys, ys = gapsL 0 ls ∧ J ys W') ∨ (∃ pre, Jx pre W')) := by
  have HMA := Aside0.mk (Kd.C_max (Kd.R_reads' hB.row).2.2)
  have HBD := Aside0.mk hbd
  clear hbd
  refine callsIn_of_wp Try.func51 rfl trivial ?_ rfl
  simp only [Try.ntmps51, List.size_toArray, List.length_cons, List.length_nil, Nat.reduceAdd, Nat.reduceSub, Array.replicate_succ, Array.replicate_zero, List.push_toArray, List.append_toArray, List.nil_append, List.cons_append]
  have hf0 := (blk_cell hB.bf 0).trans (rfl : _ = some (Value.int .i64 0))
  have hs0 := (blk_cell hB.bs 0).trans (rfl : _ = some (Value.slice A ls.length c))
  gi_wp2
  clear hf0 hs0
  gi_loopw [4, 11] (fun v4 v11 wr => ∃ (i : Nat) (f : Int) (ds : List RnM), v4 = .int .i64 f ∧ v11 = .int .i64 (i : Int) ∧ Aside0 (i ≤ ls.length ∧ ds.length ≤ i) ∧ Aside0 (gapsL 0 ls = ds ++ gapsL f (ls.drop i)) ∧ Aside0 (GapsIn N gb Bf Bs ls A c wr) ∧ J ds wr)
    (fun _ v11 _ => ls.length - intSzG v11)
  case atStart => exact ⟨0, 0, [], rfl, rfl, ⟨Nat.zero_le _, Nat.le_refl _⟩, ⟨rfl⟩, ⟨hB⟩, h0⟩
  case round =>
    obtain ⟨i, f, ds, rfl, rfl, HI, HL, HB, hJ⟩ := hrel
    have hm := HMA.out
    by_cases hi : i < ls.length
    · have hd : decide ((i : Int) < (ls.length : Int)) = true := decide_eq_true (by omega)
      have hdn : decide (i < ls.length) = true := decide_eq_true hi
      have p0 : (0 : Int) ≤ (i : Int) := by omega
      have q0 : (i : Int) < (ls.length : Int) := by omega
      obtain ⟨ad, ead, hx0, hx1⟩ := at_T63 (Kd.R_reads' HB.out.row).2.2 (i : Int) p0 q0
      cases ead
      simp only [Int.toNat_natCast] at hx0 hx1
      obtain ⟨x, hx⟩ : ∃ x, rd_T63 ls (i : Int) = x := ⟨_, rfl⟩
      rw [hx] at hx0 hx1
      have hrd : ls.drop i = x :: ls.drop (i + 1) := by
        rw [List.drop_eq_getElem_cons hi, ← hx]
        simp [rd_T63, List.getD_eq_getElem?_getD, hi]
      have hxm : x ∈ ls := by
        have : x ∈ ls.drop i := by rw [hrd]; exact List.mem_cons_self ..
        exact List.mem_of_mem_drop this
      have HXB := Aside0.mk (HBD.out x hxm)
      have HRD := Aside0.mk hrd
      have HII := Aside0.mk hi
      replace p0 := eq_true p0
      replace q0 := eq_true q0
      have wi : IntKind.i64.wrap ((i : Int) + 1) = (i : Int) + 1 := by rw [i64_w]; unfold wrap64; omega
      have lBf := blk_lt HB.out.bf
      have e1 : (Bf = wr.heap.size) = False := eq_false (by omega)
      have hf1 := (blk_cell HB.out.bf 1).trans (rfl : _ = some (Value.int .i64 1099511627776))
      have hf3 := (blk_cell HB.out.bf 3).trans (rfl : _ = some (Value.func (.func 44) #[] #[]))
      have hf4 := (blk_cell HB.out.bf 4).trans (rfl : _ = some (Value.func (.func 45) #[] #[]))
      have HBW := Aside0.mk (below_alloc (Below.refl wr.heap.size wr) (.cells #[.int .i64 x.f0, .int .i64 x.f1] 63))
      have HB2 := Aside0.mk (HB.out.below HBW.out)
      have WX := Aside0.mk (heap_alloc_new wr (.cells #[.int .i64 x.f0, .int .i64 x.f1] 63))
      have hJ2 : J ds (wr.alloc (.cells #[.int .i64 x.f0, .int .i64 x.f1] 63)) := hJg _ _ _ hJ ⟨HBW.out.os, HBW.out.tape, HBW.out.output, HBW.out.size, fun k hk _ => HBW.out.block k hk⟩
      clear hi hx hrd hxm lBf
      obtain ⟨v, hv⟩ := HB.out.ow
      have hgb := blk_lt hv.1
      have HOV : Aside0 (OwnG gb N (wr.alloc (.cells #[.int .i64 x.f0, .int .i64 x.f1] 63)) v ∧ wr.heap.size ≠ gb ∧ some wr.heap.size ≠ v.ownBlock) := ⟨⟨blk_below hv.1 HBW.out, fun b h => ⟨(hv.2 b h).1, Nat.lt_of_lt_of_le (hv.2 b h).2 HBW.out.size⟩⟩, by omega, fun e => by have := (hv.2 _ e.symm).2; omega⟩
      clear hv hgb
      by_cases c1 : x.f0 = f
      · have b1 : (x.f0 != f) = false := bne_eq_false_iff_eq.mpr c1
        have HCX := Aside0.mk c1
        clear c1
        gi_wp2
        refine ⟨fun _ h => (by cases h), ?_⟩
        have WX5 := WX
        have HB5 := HB2
        have hJ5 := hJ2
        have hz0 := (blk_cell WX5.out 0).trans (rfl : _ = some (Value.int .i64 x.f0))
        have hz1 := (blk_cell WX5.out 1).trans (rfl : _ = some (Value.int .i64 x.f1))
        have hf1 := (blk_cell HB5.out.bf 1).trans (rfl : _ = some (Value.int .i64 1099511627776))
        have hf3 := (blk_cell HB5.out.bf 3).trans (rfl : _ = some (Value.func (.func 44) #[] #[]))
        by_cases c2 : x.f1 = 1099511627776
        · have b2 : (x.f1 == 1099511627776) = true := beq_iff_eq.mpr c2
          have HEX : Aside0 (ds = gapsL 0 ls) := ⟨by rw [HL.out, HRD.out, gapsL, if_pos HCX.out, if_pos c2, List.append_nil]; simp⟩
          clear c2
          gi_wp2
          refine bodyPost_ret (results_none rfl _ _ _) rfl ?_
          exact ⟨⟨_, rfl⟩, .inl ⟨_, HEX.out, hJ5⟩⟩
        · have b2 : (x.f1 == 1099511627776) = false := beq_eq_false_iff_ne.mpr c2
          have HL2 : Aside0 (gapsL 0 ls = (ds) ++ gapsL (x.f1 + 1) (ls.drop (i + 1))) := ⟨by rw [HL.out, HRD.out, gapsL, if_pos HCX.out, if_neg c2]; simp⟩
          clear c2
          gi_wp2
          refine ⟨trivial, ?_⟩
          refine (callsIn_wide.2 (next_is x.f1 (by have := HXB.out; omega) (by have := HXB.out; omega) _)).mono ?_
          rintro e W' ⟨rfl, rfl⟩
          gi_wp2
          go_roundw
          case rel => exact ⟨i + 1, x.f1 + 1, _, rfl, castG i, ⟨by have := HI.out; have := HII.out; omega⟩, HL2, HB5, hJ5⟩
          case measure => exact bmG HII.out
      · have b1 : (x.f0 != f) = true := bne_iff_ne.mpr c1
        have HCX := Aside0.mk c1
        clear c1
        gi_wp2
        refine ⟨trivial, ?_⟩
        refine (callsIn_wide.2 (prev_is x.f0 (by have := HXB.out; omega) (by have := HXB.out; omega) _)).mono ?_
        rintro e W' ⟨rfl, rfl⟩
        obtain ⟨fn, tmps, assign, body, hy, hR⟩ := hY ds ⟨f, x.f0 - 1⟩ _ hJ2 (by have := HI.out; omega)
        dsimp only [encR] at hy
        as_aux_lemma =>
          gi_wp2
          refine hR.mono ?_
          rintro e W5 (⟨rfl, hJ5, hK5⟩ | ⟨rfl, hJx5⟩)
          rotate_left
          · gi_wp2
            refine bodyPost_ret (results_none rfl _ _ _) rfl ?_
            exact ⟨⟨_, rfl⟩, .inr ⟨_, hJx5⟩⟩
          have HB5 := Aside0.mk (HB2.out.keep hK5)
          have WX5 : Aside0 (W5.heap[wr.heap.size]? = some (.cells #[.int .i64 x.f0, .int .i64 x.f1] 63 (0, 0))) := ⟨by
            obtain ⟨v', q1, q2, q3⟩ := hK5.2 v HOV.out.1
            exact (q3 _ _ _ _ WX.out HOV.out.2.1 HOV.out.2.2).trans WX.out⟩
          clear hy hR hJ hJ2 hK5 hx0 hx1 hf1 hf3 hf4
          have hz0 := (blk_cell WX5.out 0).trans (rfl : _ = some (Value.int .i64 x.f0))
          have hz1 := (blk_cell WX5.out 1).trans (rfl : _ = some (Value.int .i64 x.f1))
          have hf1 := (blk_cell HB5.out.bf 1).trans (rfl : _ = some (Value.int .i64 1099511627776))
          have hf3 := (blk_cell HB5.out.bf 3).trans (rfl : _ = some (Value.func (.func 44) #[] #[]))
          by_cases c2 : x.f1 = 1099511627776
          · have b2 : (x.f1 == 1099511627776) = true := beq_iff_eq.mpr c2
            have HEX : Aside0 (ds ++ [⟨f, x.f0 - 1⟩] = gapsL 0 ls) := ⟨by rw [HL.out, HRD.out, gapsL, if_neg HCX.out, if_pos c2, List.append_nil]⟩
            clear c2
            gi_wp2
            refine bodyPost_ret (results_none rfl _ _ _) rfl ?_
            exact ⟨⟨_, rfl⟩, .inl ⟨_, HEX.out, hJ5⟩⟩
          · have b2 : (x.f1 == 1099511627776) = false := beq_eq_false_iff_ne.mpr c2
            have HL2 : Aside0 (gapsL 0 ls = (ds ++ [⟨f, x.f0 - 1⟩]) ++ gapsL (x.f1 + 1) (ls.drop (i + 1))) := ⟨by rw [HL.out, HRD.out, gapsL, if_neg HCX.out, if_neg c2]; simp⟩
            clear c2
            gi_wp2
            refine ⟨trivial, ?_⟩
            refine (callsIn_wide.2 (next_is x.f1 (by have := HXB.out; omega) (by have := HXB.out; omega) _)).mono ?_
            rintro e W' ⟨rfl, rfl⟩
            gi_wp2
            go_roundw
            case rel => exact ⟨i + 1, x.f1 + 1, _, rfl, castG i, ⟨by have := HI.out; have := HII.out; rw [List.length_append, List.length_singleton]; omega⟩, HL2, HB5, hJ5⟩
            case measure => exact bmG HII.out
    · have hd : decide ((i : Int) < (ls.length : Int)) = false := decide_eq_false (by omega)
      have hdn : decide (i < ls.length) = false := decide_eq_false hi
      have hdr : ls.drop i = [] := List.drop_eq_nil_of_le (by omega)
      have HDR := Aside0.mk hdr
      have hf1 := (blk_cell HB.out.bf 1).trans (rfl : _ = some (Value.int .i64 1099511627776))
      clear hi hdr
      obtain ⟨fn, tmps, assign, body, hy, hR⟩ := hY ds ⟨f, 1099511627776⟩ _ hJ (by have := HI.out; omega)
      dsimp only [encR] at hy
      as_aux_lemma =>
        gi_wp2
        refine hR.mono ?_
        rintro e W5 (⟨rfl, hJ5, hK5⟩ | ⟨rfl, hJx5⟩)
        · gi_wp2
          first | go_end0 | ((try simp only [Exit.inBlock, Exit.then]); refine bodyPost_ret (results_none rfl _ _ _) rfl ?_)
          exact ⟨⟨_, rfl⟩, .inl ⟨_, by rw [HL.out, HDR.out]; rfl, hJ5⟩⟩
        · gi_wp2
          first | go_end0 | ((try simp only [Exit.inBlock, Exit.then]); refine bodyPost_ret (results_none rfl _ _ _) rfl ?_)
          exact ⟨⟨_, rfl⟩, .inr ⟨_, hJx5⟩⟩
section
variable {F : Fence} {n : Nat} {P : Program} {ops : Array Oper} {Q : Exit → Act → World → Prop} {md : Region.Mode} {S : World → Prop} {ds : List Nat}
def noDefer (ops : Array Oper) : Bool := ops.all fun o => match o.op with | .defer _ => false | _ => true
theorem noDefer_spec (h : noDefer ops = true) {i : Nat} {o : Oper} (hi : ops[i]? = some o) : ∀ c, o.op ≠ .defer c := by
  intro c hc
  have h1 := Array.all_eq_true_iff_forall_mem.1 h o (Array.mem_of_getElem? hi)
  simp [hc] at h1
def wpAnyLI (F : Fence) (n : Nat) (P : Program) (md : Region.Mode) (ops : Array Oper) (Q : Exit → Act → World → Prop) (S : World → Prop) (ds : List Nat) : Nat → Array Bool → Act → World → Prop
  | 0, listed, a, w => Region.ready md ops listed = [] ∧ Q .normal a w
  | fuel + 1, listed, a, w =>
    (Region.ready md ops listed = [] → Q .normal a w) ∧
    ∀ i ∈ Region.ready md ops listed, wpOpIn F n P ops Q i (fun a' w' => (i ∉ ds → S w → S w') ∧ wpAnyLI F n P md ops Q S ds fuel (listed.setIfInBounds i true) a' w') a w
theorem anyIn_of_LI : ∀ (fuel : Nat) (listed : Array Bool) (a : Act) (w : World), wpAnyLI F n P md ops Q S ds fuel listed a w → wpAnyIn F n P md ops Q fuel listed a w
  | 0, _, _, _, h => h
  | fuel + 1, _, _, _, h => ⟨h.1, fun i hi => wpOpIn_mono (fun a' w' h' => anyIn_of_LI fuel _ a' w' h'.2) (h.2 i hi)⟩
theorem yi_wpOpI (hF : ∀ f, F.fn f) (hnd : noDefer ops = true) {i : Nat} {o : Oper} {v : Value} {a : Act} (hi : ops[i]? = some o) (hy : YieldsIf P ops S o v a)
    {K : Act → World → Prop} {w : World} (hS : S w) (h : K (a.put o.dst v) w) : wpOpIn F n P ops Q i K a w := by
  unfold Go.wpOpIn
  simp only [hi]
  rcases hy with ⟨hw, hv⟩ | ⟨hw, rfl⟩
  · simp only [hw, if_true, Oper.wpIn, Oper.semAt_eq _ _ _ (noDefer_spec hnd hi), hv w hS, Oper.uponIn]; exact ⟨fun f _ => hF f, h⟩
  · simp only [hw, Bool.false_eq_true, if_false]; exact ⟨fun f _ => hF f, h⟩
theorem yields_true {o : Oper} {v : Value} {a : Act} (h : YieldsIf P ops (fun _ => True) o v a) : Yields P ops o v a :=
  h.imp (fun ⟨hw, hv⟩ => ⟨hw, fun w => hv w trivial⟩) id
theorem wpOp_putI (hF : ∀ f, F.fn f) (hnd : noDefer ops = true) {j : Nat} {oi oj : Oper} {v : Value} (hj : ops[j]? = some oj) (hap : oi.apart ops oj = true)
    (hsi : ∀ cs b, oi.op ≠ .select cs b) (hsj : ∀ cs b, oj.op ≠ .select cs b)
    (hQ : ∀ c a w, Q (.panic c) (a.put oi.dst v) w → Q (.panic c) a w) {K : Act → World → Prop} {a : Act} {w : World}
    (hy : YieldsIf P ops S oi v a) (h : wpOpIn F n P ops Q j K (a.put oi.dst v) w) :
    wpOpIn F n P ops Q j (fun a' w' => YieldsIf P ops S oi v a' ∧ K (a'.put oi.dst v) w') a w := by
  obtain ⟨h1, h2, h3⟩ := Oper.apart_spec hap
  have keep : ∀ (a : Act), YieldsIf P ops S oi v a → ∀ u, YieldsIf P ops S oi v (a.put oj.dst u) := fun a hy u =>
    hy.of_same (execOp_put oi hsi a oj.dst u h3) (wanted_put oi a oj.dst u h3)
  have keepD : ∀ d, YieldsIf P ops S oi v { a with defers := d :: a.defers } := fun d => hy.of_same rfl rfl
  have hj' := hj
  unfold wpOpIn at *
  simp only [hj] at h ⊢
  rw [wanted_put oj a oi.dst v h1] at h
  split
  · rename_i hw
    simp only [hw, if_true] at h
    unfold Oper.wpIn at *
    refine ⟨fun f _ => hF f, ?_⟩
    have h := h.2
    rw [Oper.semAt_eq _ _ _ (noDefer_spec hnd hj), execOp_put oj hsj a oi.dst v h1] at h
    rw [Oper.semAt_eq _ _ _ (noDefer_spec hnd hj)]
    generalize (execOp a.eval oj).run P w = r at *
    cases r with
    | ok x w' =>
      cases x <;> simp only [Oper.uponIn] at h ⊢
      case value u => exact ⟨keep a hy u, by rw [← Act.put_comm a v u h2]; exact h⟩
      case skip => exact ⟨keep a hy _, by rw [← Act.put_comm a v undef h2]; exact h⟩
      case defer d =>
        refine ⟨keep _ (keepD d) _, ?_⟩
        rw [← Act.put_comm _ v undef h2, ← Act.put_defers]
        exact h
      case enter f args =>
        refine ⟨h.1, CallsIn.mono h.2 fun e w'' he => ?_⟩
        cases e with
        | returned u => exact ⟨keep a hy u, by rw [← Act.put_comm a v u h2]; exact he⟩
        | panicked c => exact hQ _ _ _ he
        | outgrown => exact he
      case row row args => exact ⟨h.1, RowsIn.mono h.2 fun u w'' he => ⟨keep a hy u, by rw [← Act.put_comm a v u h2]; exact he⟩⟩
      case round l f tmps assign body =>
        refine ⟨h.1, RoundIn.mono h.2 fun e w'' he => ?_⟩
        cases e with
        | returned u => exact ⟨keep a hy u, by rw [← Act.put_comm a v u h2]; exact he⟩
        | panicked c => exact hQ _ _ _ he
        | outgrown => exact he
    | halt x w' =>
      cases x <;> simp only [Oper.uponIn] at h ⊢
      case panic u => exact hQ _ _ _ h
  · rename_i hw
    simp only [hw] at h
    exact ⟨fun f _ => hF f, keep a hy _, by rw [← Act.put_comm a v undef h2]; exact h.2⟩
theorem wpAnyLI_first (hF : ∀ f, F.fn f) (hnd : noDefer ops = true) {i : Nat} {oi : Oper} {v : Value} (hi : ops[i]? = some oi) (hsel : ∀ (j : Nat) (o : Oper) cs b, ops[j]? = some o → o.op ≠ .select cs b)
    (hQ : ∀ c a w, Q (.panic c) (a.put oi.dst v) w → Q (.panic c) a w) (N : Nat) :
    ∀ (fuel : Nat) (listed : Array Bool) (a : Act) (w : World),
      (∀ j oj, ops[j]? = some oj → j ≠ i → listed.getD j true = false → (∀ e ∈ oj.after, Region.binds md e = true → e.on ≠ i) → oi.apart ops oj = true) →
      ListedClosed md ops listed → (∀ d ∈ ds, listed.getD d true = false → Region.reachB md ops i N d = true) →
      i ∈ Region.ready md ops listed → YieldsIf P ops S oi v a → S w →
      wpAnyLI F n P md ops Q S ds fuel (listed.setIfInBounds i true) (a.put oi.dst v) w → wpAnyLI F n P md ops Q S ds (fuel + 1) listed a w := by
  intro fuel
  induction fuel with
  | zero =>
    intro listed a w _ _ _ hr hy hS H
    refine ⟨fun h => (by rw [h] at hr; cases hr), fun j hj => ?_⟩
    by_cases hji : j = i
    · subst hji; exact yi_wpOpI hF hnd hi hy hS ⟨fun _ h => h, H⟩
    · have := ready_mono hj hji
      rw [H.1] at this
      cases this
  | succ fuel ih =>
    intro listed a w hfree hc hd hr hy hS H
    refine ⟨fun h => (by rw [h] at hr; cases hr), fun j hj => ?_⟩
    by_cases hji : j = i
    · subst hji; exact yi_wpOpI hF hnd hi hy hS ⟨fun _ h => h, H⟩
    · have h1 := H.2 j (ready_mono hj hji)
      obtain ⟨hjun, oj, hoj, hall⟩ := mem_ready.1 hj
      have hiun := (mem_ready.1 hr).1
      have hnot : ∀ e ∈ oj.after, Region.binds md e = true → e.on ≠ i := fun e he hb heq => by
        have h1 := hall e he hb
        rw [heq] at h1
        rcases Nat.lt_or_ge i listed.size with h' | h'
        · simp [h'] at hiun h1; rw [hiun] at h1; cases h1
        · simp [Array.getElem?_eq_none h'] at h1
      have hjd : j ∉ ds := fun hm => Region.reach_not_ready hc (hd j hm hjun) hiun hj
      have h2 := wpOp_putI hF hnd hoj (hfree j oj hoj hji hjun hnot) (fun cs b => hsel i oi cs b hi) (fun cs b => hsel j oj cs b hoj) hQ hy h1
      have hfree' : ∀ k ok, ops[k]? = some ok → k ≠ i → (listed.setIfInBounds j true).getD k true = false →
          (∀ e ∈ ok.after, Region.binds md e = true → e.on ≠ i) → oi.apart ops ok = true := fun k ok hk hki hun hno => by
        refine hfree k ok hk hki ?_ hno
        by_cases hjk : j = k
        · subst hjk; exact hjun
        · rw [getD_set_ne true hjk] at hun; exact hun
      have hd' : ∀ d ∈ ds, (listed.setIfInBounds j true).getD d true = false → Region.reachB md ops i N d = true := fun d hm hun => by
        refine hd d hm ?_
        by_cases hjk : j = d
        · subst hjk; exact hjun
        · rw [getD_set_ne true hjk] at hun; exact hun
      refine wpOpIn_mono (fun a' w' h3 => ⟨h3.2.1, ih (listed.setIfInBounds j true) a' w' hfree' (hc.set hj) hd' (ready_mono hr (Ne.symm hji)) h3.1 (h3.2.1 hjd hS) ?_⟩) h2
      rw [Array.setIfInBounds_comm _ _ hji]
      exact h3.2.2
theorem wpAnyLI_any (hF : ∀ f, F.fn f) (hnd : noDefer ops = true) {i : Nat} {oi : Oper} {v : Value} (hi : ops[i]? = some oi) (hsel : ∀ (j : Nat) (o : Oper) cs b, ops[j]? = some o → o.op ≠ .select cs b)
    (hQ : ∀ c a w, Q (.panic c) (a.put oi.dst v) w → Q (.panic c) a w) :
    ∀ (fuel : Nat) (listed : Array Bool) (a : Act) (w : World),
      (∀ j oj, ops[j]? = some oj → j ≠ i → listed.getD j true = false → (∀ e ∈ oj.after, Region.binds md e = true → e.on ≠ i) → oi.apart ops oj = true) →
      i ∈ Region.ready md ops listed → Yields P ops oi v a →
      wpAnyLI F n P md ops Q S ds fuel (listed.setIfInBounds i true) (a.put oi.dst v) w → wpAnyLI F n P md ops Q S ds (fuel + 1) listed a w := by
  intro fuel
  induction fuel with
  | zero =>
    intro listed a w _ hr hy H
    refine ⟨fun h => (by rw [h] at hr; cases hr), fun j hj => ?_⟩
    by_cases hji : j = i
    · subst hji; exact yi_wpOpI hF hnd hi (hy.yieldsIf (S := fun _ => True)) trivial ⟨fun _ h => h, H⟩
    · have := ready_mono hj hji
      rw [H.1] at this
      cases this
  | succ fuel ih =>
    intro listed a w hfree hr hy H
    refine ⟨fun h => (by rw [h] at hr; cases hr), fun j hj => ?_⟩
    by_cases hji : j = i
    · subst hji; exact yi_wpOpI hF hnd hi (hy.yieldsIf (S := fun _ => True)) trivial ⟨fun _ h => h, H⟩
    · have h1 := H.2 j (ready_mono hj hji)
      obtain ⟨hjun, oj, hoj, hall⟩ := mem_ready.1 hj
      have hiun := (mem_ready.1 hr).1
      have hnot : ∀ e ∈ oj.after, Region.binds md e = true → e.on ≠ i := fun e he hb heq => by
        have h1 := hall e he hb
        rw [heq] at h1
        rcases Nat.lt_or_ge i listed.size with h' | h'
        · simp [h'] at hiun h1; rw [hiun] at h1; cases h1
        · simp [Array.getElem?_eq_none h'] at h1
      have h2 := wpOp_putI hF hnd hoj (hfree j oj hoj hji hjun hnot) (fun cs b => hsel i oi cs b hi) (fun cs b => hsel j oj cs b hoj) hQ (hy.yieldsIf (S := fun _ => True)) h1
      have hfree' : ∀ k ok, ops[k]? = some ok → k ≠ i → (listed.setIfInBounds j true).getD k true = false →
          (∀ e ∈ ok.after, Region.binds md e = true → e.on ≠ i) → oi.apart ops ok = true := fun k ok hk hki hun hno => by
        refine hfree k ok hk hki ?_ hno
        by_cases hjk : j = k
        · subst hjk; exact hjun
        · rw [getD_set_ne true hjk] at hun; exact hun
      refine wpOpIn_mono (fun a' w' h3 => ⟨h3.2.1, ih (listed.setIfInBounds j true) a' w' hfree' (ready_mono hr (Ne.symm hji)) (yields_true h3.1) ?_⟩) h2
      rw [Array.setIfInBounds_comm _ _ hji]
      exact h3.2.2
theorem wpAnyLI_take (hF : ∀ f, F.fn f) (hnd : noDefer ops = true) {i : Nat} {oi : Oper} {v : Value} {fuel : Nat} {listed : Array Bool} {a : Act} {w : World} (hi : ops[i]? = some oi)
    (hs : Region.noSelect ops = true) (hf : Region.free md ops listed i = true) (hr : (Region.ready md ops listed).contains i = true)
    (hc : Region.closedB md ops listed = true) (hl : Region.lastB md ops listed ds i = true)
    (hQ : ∀ c a w, Q (.panic c) (a.put oi.dst v) w → Q (.panic c) a w) (hy : YieldsIf P ops S oi v a) (hS : S w)
    (h : wpAnyLI F n P md ops Q S ds fuel (listed.setIfInBounds i true) (a.put oi.dst v) w) : wpAnyLI F n P md ops Q S ds (fuel + 1) listed a w :=
  wpAnyLI_first hF hnd hi (Region.noSelect_spec hs) hQ ops.size fuel listed a w (Region.free_spec hi hf) (Region.closedB_spec hc)
    (fun d hm hun => by have := List.all_eq_true.1 hl d hm; rw [hun] at this; simpa using this) (by simpa using hr) hy hS h
theorem wpAnyLI_all {rs : List Nat} {fuel : Nat} {listed : Array Bool} {a : Act} {w : World} (hr : Region.ready md ops listed = rs) (hne : rs ≠ [])
    (h : ∀ i ∈ rs, wpOpIn F n P ops Q i (fun a' w' => (i ∉ ds → S w → S w') ∧ wpAnyLI F n P md ops Q S ds fuel (listed.setIfInBounds i true) a' w') a w) : wpAnyLI F n P md ops Q S ds (fuel + 1) listed a w :=
  ⟨fun h0 => absurd (hr ▸ h0) hne, hr ▸ h⟩
theorem wpAnyLI_done {listed : Array Bool} {a : Act} {w : World} (hr : Region.ready md ops listed = []) (h : Q .normal a w) :
    ∀ fuel, wpAnyLI F n P md ops Q S ds fuel listed a w
  | 0 => ⟨hr, h⟩
  | _ + 1 => ⟨fun _ => h, by rw [hr]; simp⟩
theorem startI {id m : Nat} {a : Act} {w : World} (l : Array Bool) (hm : P.follows .mixedOrders = true) (hn : ops.size = m) (hl : Array.replicate m false = l) (h : wpAnyLI F n P .any ops Q S ds m l a w.drew) : (Code.region id ops true).wpIn F n P Q a w := by
  subst hn
  subst hl
  exact wpIn_region_any hm (anyIn_of_LI _ _ _ _ h)
theorem takeI (hF : ∀ f, F.fn f) (hnd : noDefer ops = true) {i : Nat} {N : Option Tmp} {oi : Oper} {v : Value} {fuel : Nat} {l : Array Bool} {a : Act} {w : World} (l' : Array Bool) (hi : ops[i]? = some oi) (hN : oi.dst = N) (hc : takeB md ops ds l l' i = true)
    (hQ : ∀ c a w, Q (.panic c) (a.put oi.dst v) w → Q (.panic c) a w) (hy : YieldsIf P ops S oi v a) (hS : S w) {a' : Act} (ha : a.put N v = a')
    (h : wpAnyLI F n P md ops Q S ds fuel l' a' w) : wpAnyLI F n P md ops Q S ds (fuel + 1) l a w := by
  subst ha
  subst hN
  simp only [takeB, Bool.and_eq_true, beq_iff_eq] at hc
  obtain ⟨⟨⟨⟨⟨h1, h2⟩, h3⟩, h4⟩, h5⟩, h6⟩ := hc
  subst h6
  exact wpAnyLI_take hF hnd hi h1 h2 h3 h4 h5 hQ hy hS h
theorem pureI (hF : ∀ f, F.fn f) (hnd : noDefer ops = true) {i : Nat} {N : Option Tmp} {oi : Oper} {v : Value} {fuel : Nat} {l : Array Bool} {a : Act} {w : World} (l' : Array Bool) (hi : ops[i]? = some oi) (hN : oi.dst = N) (hc : anyB md ops l l' i = true)
    (hQ : ∀ c a w, Q (.panic c) (a.put oi.dst v) w → Q (.panic c) a w) (hy : Yields P ops oi v a) {a' : Act} (ha : a.put N v = a')
    (h : wpAnyLI F n P md ops Q S ds fuel l' a' w) : wpAnyLI F n P md ops Q S ds (fuel + 1) l a w := by
  subst ha
  subst hN
  simp only [anyB, Bool.and_eq_true, beq_iff_eq] at hc
  obtain ⟨⟨⟨h1, h2⟩, h3⟩, h6⟩ := hc
  subst h6
  exact wpAnyLI_any hF hnd hi (Region.noSelect_spec h1) hQ fuel l a w (Region.free_spec hi h2) (by simpa using h3) hy h
theorem oneI {i : Nat} {N : Option Tmp} {oi : Oper} {fuel : Nat} {l : Array Bool} {a : Act} {w : World} (l' : Array Bool) (hi : ops[i]? = some oi) (hN : oi.dst = N) (hc : readyB md ops l l' i = true) (hw : Region.wanted oi (yielded ops a.tmps) = true)
    (h : ∀ K : Act → World → Prop, (∀ a' w', S w' → wpAnyLI F n P md ops Q S ds fuel l' a' w' → K a' w') → Oper.wpIn F n P oi a w K Q) :
    wpAnyLI F n P md ops Q S ds (fuel + 1) l a w := by
  subst hN
  simp only [readyB, Bool.and_eq_true, beq_iff_eq] at hc
  obtain ⟨h1, h2⟩ := hc
  subst h2
  refine wpAnyLI_all h1 (by simp) (fun j hj => ?_)
  obtain rfl := List.mem_singleton.1 hj
  unfold wpOpIn
  rw [hi]
  simp only [hw, if_true]
  exact h _ (fun a' w' hs h' => ⟨fun _ _ => hs, h'⟩)
theorem doneI {l : Array Bool} {a : Act} {w : World} {m : Nat} (hr : (Region.ready md ops l == []) = true) (h : Q .normal a w) : wpAnyLI F n P md ops Q S ds m l a w := wpAnyLI_done (by simpa using hr) h m
end
theorem R_append_in {F : Fence} {n : Nat} {P : Program} {ops : Array Oper} {rest : List Oper} {o : Oper} {a : Act} {Q : Exit → Act → World → Prop} {α : Type} (d : Kd α) {w0 W : World} (base : Nat) (hgd : o.guard = none) (s x : Operand) (t e : TypeId) (z : Value) (bytes : Nat)
    (ho : o.op = .call { callee := .builtin .append, args := #[s, x], argTypes := #[t, t] })
    (ht : P.underlying t = some (.slice e)) (hinfo : (P.info? e).map (fun i => (i.zero, i.size, i.bytes)) = some (some z, d.sz, bytes)) (hz : z.cells.size = d.sz) (hs0 : 0 < d.sz) (hb0 : 0 < bytes)
    (v : Value) (xs : List α) (p : α) (cs : List Value) (ok okp : Nat → Prop) (hs : a.eval s = v) (hx : a.eval x = .slice (some ⟨W.heap.size, 0, none⟩) 1 1) (hp : d.M W base okp p cs) (hokp : ∀ k, okp k → ok k ∧ some k ≠ v.ownBlock) (hfresh : ∀ k, W.heap.size ≤ k → ok k)
    (HO : d.R e W base ok v xs) (HB : Below base w0 W) (hbase : base ≤ W.heap.size) (hl : (xs.length + 1) * bytes ≤ 140737488355328)
    (h : ∀ v1 w1, d.R e w1 base ok v1 (xs ++ [p]) → Below base w0 w1 → W.grownBy w1 v.ownBlock → (v1.ownBlock = v.ownBlock ∨ ∃ b, v1.ownBlock = some b ∧ W.heap.size ≤ b) → wpListIn F n P ops Q rest (a.put o.dst v1) w1) :
    wpListIn F n P ops Q (o :: rest) a (W.alloc (.cells cs.toArray e)) := by
  obtain ⟨h0, inner, hown, hr⟩ := HO
  obtain ⟨i0, hi, hzz⟩ := Option.map_eq_some_iff.1 hinfo
  simp only [Prod.mk.injEq] at hzz
  obtain ⟨hz0, hz1, hz2⟩ := hzz
  have hys : cs.length = d.sz := d.K_len (d.K_of_M hp)
  have hlen : xs.length + 1 ≤ 140737488355328 := Nat.le_trans (Nat.le_mul_of_pos_right _ hb0) hl
  refine wpListIn_plain hgd fun K hK' => ?_
  obtain ⟨v', w', hrun, r1, r2, _, r4⟩ := run_append_own_at (P := P) (w := W.alloc (.cells cs.toArray e)) base t o.type e i0 z d.sz bytes ht hi hz0 hz1 hz2 hz hs0 v xs.length inner (hown.alloc _) ⟨W.heap.size, 0, none⟩ 1 1 cs (by rw [hys]; simp)
    (by simpa using World.news_of_block (cs := cs.toArray) (t := e) (fr := (0, 0)) (heap_alloc_new W (.cells cs.toArray e))) (d.K_one (d.K_of_M hp)) (by simp only [maxLen]; omega) hl (by simp; omega)
  have hg1 : W.grownBy w' v.ownBlock := World.grownBy.trans (World.grownBy_alloc W _ _) r2
  have hat : v'.ownBlock = v.ownBlock ∨ ∃ b, v'.ownBlock = some b ∧ W.heap.size ≤ b := by
    rcases r4 with r4 | r4
    · exact .inl r4
    · exact .inr ⟨_, r4, by simp⟩
  have hfin := h v' w' (Kd.R_appended h0 hr hp hokp hfresh r1 hg1 hat) ((HB.alloc hbase _).grown r2 (by simp; omega) (own_base hown)) hg1 hat
  unfold Oper.wpIn
  refine ⟨?_, ?_⟩
  · simp [Oper.about, ho, resolve, Target.leads, Sem.run_pure]
  · rw [Oper.semAt_plain F _ _ (by rw [ho]; intro c hc'; cases hc')]
    simp [execOp, ho, resolve, invoke, builtin, hs, hx, hrun, Result.andThen]
    exact hK' _ _ hfin
theorem own_grown {α : Type} {d : Kd α} {e N base : Nat} {ok : Nat → Prop} {W W' : World} {v : Value} {xs : List α} {row : Option Nat} (h : Kd.R d e W base ok v xs) (hg : W.grownBy W' row) (hr : ∀ r, row = some r → N ≤ r ∧ ∃ o : Obj, W.heap[r]? = some o ∧ o.isCells = false) : Kd.R d e W' base ok v xs := by
  refine Kd.R_mono (Kd.R_grown (Kd.R_bound h) hg (fun k hk e => ?_)) (fun k hk => hk.1)
  obtain ⟨_, _, _, q, _, cells, hc⟩ := hk
  obtain ⟨_, o, ho, hf⟩ := hr k e.symm
  rw [hc] at ho
  cases ho
  cases hf
theorem blk_grown_ {W W' : World} {row : Option Nat} {N B t : Nat} {cs : Array Value} {fr : Nat × Nat} (h : W.heap[B]? = some (.cells cs t fr)) (hg : W.grownBy W' row) (hr : ∀ r, row = some r → N ≤ r ∧ ∃ o : Obj, W.heap[r]? = some o ∧ o.isCells = false) : W'.heap[B]? = some (.cells cs t fr) :=
  (hg.block B (blk_lt h) (fun e => by
    obtain ⟨_, o, ho, hc⟩ := hr B e.symm
    rw [h] at ho
    cases ho
    cases hc)).trans h
attribute [local go_sem] Oper.semAt_some
theorem gaps_in (n : Nat) (A : Option Addr) (m c : Nat) (w : World) :
    CallsIn Fence.wide n Try.prog 41 #[.agg fieldM, .slice A m c] w fun e w' => e = .returned (.func (.func 51) #[] #[.pointer (some ⟨w.heap.size, 0, none⟩), .pointer (some ⟨w.heap.size + 1, 0, none⟩)]) ∧ w' = (w.alloc (.cells fieldM 50)).alloc (.cells #[.slice A m c] 46) := by
  refine callsIn_of_wp Try.func41 rfl trivial ?_ rfl
  simp only [Try.ntmps41, List.size_toArray, List.length_cons, List.length_nil, Nat.reduceAdd, Nat.reduceSub, Array.replicate_succ, Array.replicate_zero, List.push_toArray, List.append_toArray, List.nil_append, List.cons_append]
  gi_wp2
  go_ret
  exact ⟨rfl, rfl⟩
theorem one_rowM {W : World} {g : Nat} (x : S36) (hg : W.heap[g]? = some (.cells #[.int .i64 x.f0, .int .i64 x.f1] 36 (0, 0))) : Kd.C k36 W (some ⟨g, 0, none⟩) [x].length [x] := by
  refine ⟨rfl, by simp, fun _ => ⟨_, rfl, fun j p hj => ?_⟩⟩
  match j, hj with
  | 0, hj =>
    obtain rfl := Option.some.inj hj
    refine ⟨[.int .i64 x.f0, .int .i64 x.f1], rfl, k36_mk W x, fun i u hu => ?_⟩
    match i, hu with
    | 0, hu => exact (blk_cell hg 0).trans hu
    | 1, hu => exact (blk_cell hg 1).trans hu
  | j + 1, hj => simp at hj
theorem results_put {fn : Func} (hfn : fn.results = #[.tmp 4, .tmp 5]) {i : Nat} (h4 : i ≠ 4) (h5 : i ≠ 5) (t : Array Value) (v : Value) : results fn (t.setIfInBounds i v) = results fn t := by
  unfold results
  rw [hfn]
  simp [Array.getElem?_setIfInBounds_ne h4, Array.getElem?_setIfInBounds_ne h5]
theorem leaves_tmps {F : Fence} {n : Nat} {P : Program} {fn : Func} {R : Ending → World → Prop} {t t' : Array Value} (ht : results fn t = results fn t') : ∀ (ds : List Deferred) (u : FrameMode) (w : World), LeavesInM F n P fn t R ds u w → LeavesInM F n P fn t' R ds u w
  | [], .returning, w, h => by
    obtain ⟨v, h1, h2⟩ := h
    exact ⟨v, by rw [← ht]; exact h1, h2⟩
  | [], .panicking _, w, h => h
  | [], .run, w, h => h.elim
  | d :: ds, u, w, h => by
    obtain ⟨h1, h2⟩ := h
    refine ⟨h1, ?_⟩
    rcases h2 with ⟨r, w', e1, e2, h3⟩ | ⟨h3, fv, cap, f, args, e1, e2, e3, h4⟩
    · exact .inl ⟨r, w', e1, e2, leaves_tmps ht ds u w' h3⟩
    · refine .inr ⟨h3, fv, cap, f, args, e1, e2, e3, h4.mono (fun e u' w' he => ?_)⟩
      cases e with
      | returned _ => exact leaves_tmps ht ds _ w' he
      | panicked _ => exact leaves_tmps ht ds _ w' he
      | outgrown => exact he
theorem panQ {F : Fence} {n : Nat} {P : Program} {fn : Func} {R : Ending → World → Prop} {K : Act → World → Prop} (hfn : fn.results = #[.tmp 4, .tmp 5]) (i : Nat) (h4 : i ≠ 4) (h5 : i ≠ 5) (v : Value) : ∀ c a w, Exit.then K (bodyPostM F n P fn R) (.panic c) (a.put (some i) v) w → Exit.then K (bodyPostM F n P fn R) (.panic c) a w :=
  fun c a w h => leaves_tmps (results_put hfn h4 h5 a.tmps v) a.defers (.panicking c) w h
structure NotIn (w1 W2 W : World) (gb : Nat) (pre : List RnM) : Prop where
  line : ∃ v, W.heap[gb]? = some (.cells #[v] 46 (0, 0)) ∧ Kd.R k63 63 W w1.heap.size (fun k => k ≠ gb) v pre ∧ ∀ b, v.ownBlock = some b → W2.heap.size ≤ b ∧ b < W.heap.size
  bl : Below w1.heap.size w1 W
  size : W2.heap.size ≤ W.heap.size
theorem NotIn.own {w1 W2 A B : World} {gb N : Nat} {pre : List RnM} {row : Option Nat} (h : NotIn w1 W2 A gb pre) (hg : A.grownBy B row) (hr : ∀ r, row = some r → N ≤ r ∧ ∃ o : Obj, A.heap[r]? = some o ∧ o.isCells = false) (hN : w1.heap.size ≤ N) : NotIn w1 W2 B gb pre := by
  obtain ⟨⟨v, h1, h2, h5⟩, h3, h4⟩ := h
  exact ⟨⟨v, blk_grown_ h1 hg hr, own_grown h2 hg hr, fun b hb => ⟨(h5 b hb).1, Nat.lt_of_lt_of_le (h5 b hb).2 hg.size⟩⟩, h3.grown hg h3.size (fun k e => by have := (hr k e).1; omega), Nat.le_trans h4 hg.size⟩
theorem NotIn.below {w1 W2 A B : World} {gb : Nat} {pre : List RnM} (h : NotIn w1 W2 A gb pre) (hb : Below A.heap.size A B) : NotIn w1 W2 B gb pre := by
  obtain ⟨⟨v, h1, h2, h5⟩, h3, h4⟩ := h
  exact ⟨⟨v, blk_below h1 hb, Kd.R_below h2 hb, fun b h => ⟨(h5 b h).1, Nat.lt_of_lt_of_le (h5 b h).2 hb.size⟩⟩, below_step h3 hb, Nat.le_trans h4 hb.size⟩
theorem KeepG.append {gb N : Nat} {W W1 : World} {v v1 : Value} (hv : W.heap[gb]? = some (.cells #[v] 46 (0, 0))) (hg : W.grownBy W1 v.ownBlock) (hat : v1.ownBlock = v.ownBlock ∨ ∃ b, v1.ownBlock = some b ∧ W.heap.size ≤ b) (hne : some gb ≠ v.ownBlock) (ho : ∀ b, v1.ownBlock = some b → N ≤ b ∧ b < W1.heap.size) :
    KeepG gb N W (W1.setCell ⟨gb, 0, none⟩ v1) := by
  have hz : (W1.setCell ⟨gb, 0, none⟩ v1).heap.size = W1.heap.size := World.size_setCell _ _ _
  refine ⟨by rw [hz]; exact hg.size, fun v0 h0 => ?_⟩
  have e0 : v0 = v := by
    have e1 := h0.1.symm.trans hv
    injection e1 with e1
    injection e1 with e1
    simpa using e1
  subst e0
  refine ⟨v1, ⟨blk_set ((hg.block gb (blk_lt hv) hne).trans hv) 0 v1, fun b hb => by rw [hz]; exact ho b hb⟩, hat, fun k cs t fr hk hkg hko => ?_⟩
  rw [Below.heap_setCell W1 (⟨gb, 0, none⟩ : Addr) v1 k hkg]
  exact hg.block k (blk_lt hk) hko
set_option maxRecDepth 100000 in
set_option maxHeartbeats 4000000 in
theorem ivl_Not.walk (k : Nat) (A0 : Option Addr) (c0 : Nat) (l0 : List S36) (x0 x1 : Int) (ra rb : List RnM) (r1 : List S36) (r2 : Int) (w : World) (hr0 : Kd.C k36 w A0 l0.length l0) (hc0 : l0.length ≤ c0)
    (h1 : ivl_rows.f k [l0, [⟨x0, x1⟩]] = some 0) (h2 : ivl_runs.f k l0 = some ra) (h3 : ivl_runs.f k [⟨x0, x1⟩] = some rb) (hl : (ra.length + rb.length + 4) * 16 ≤ 140737488355328) (hok : ∀ x ∈ ra, 0 ≤ x.f0 ∧ x.f0 ≤ x.f1 ∧ x.f1 ≤ 1099511627776)
    (h4 : ivl_told.f k (meetN ((gapsL 0 ra).length + rb.length) (gapsL 0 ra) rb) = some (r1, r2)) :
    Calls Try.prog 23 #[.slice A0 l0.length c0, .agg #[.int .i64 x0, .int .i64 x1]] w fun e w' => ∃ v0_ : Value, e = .returned (.tuple #[v0_, .int .i64 r2]) ∧ Kd.R k36 36 w' w.heap.size (fun _ => True) v0_ r1 ∧ Below w.heap.size w w' := by
  refine (callsIn_wide (n := 4)).1 ?_
  have HC0 := Aside0.mk hc0
  have H1 := Aside0.mk h1
  have H2 := Aside0.mk h2
  have H3 := Aside0.mk h3
  have H4 := Aside0.mk h4
  have HL := Aside0.mk hl
  have HOK := Aside0.mk hok
  have hbx := heap_alloc_new w (.cells #[.int .i64 x0, .int .i64 x1] 36)
  have hb1 := below_alloc (Below.refl w.heap.size w) (.cells #[.int .i64 x0, .int .i64 x1] 36)
  have hz1 : (w.alloc (.cells #[.int .i64 x0, .int .i64 x1] 36)).heap.size = w.heap.size + 1 := World.size_alloc _ _
  have hc0 := (blk_cell hbx 0).trans (rfl : _ = some (Value.int .i64 x0))
  have hc1 := (blk_cell hbx 1).trans (rfl : _ = some (Value.int .i64 x1))
  clear h1 h2 h3 h4 hl hok
  refine callsIn_of_wp_marks Try.func23 rfl trivial ?_ rfl
  simp only [Try.ntmps23, List.size_toArray, List.length_cons, List.length_nil, Nat.reduceAdd, Nat.reduceSub, Array.replicate_succ, Array.replicate_zero, List.push_toArray, List.append_toArray, List.nil_append, List.cons_append]
  gi_wp2
  have hg1 : ((w.alloc (.cells #[.int .i64 x0, .int .i64 x1] 36)).alloc (.cells #[.int .i64 x0, .int .i64 x1] 36)).heap[w.heap.size + 1]? = some (.cells #[.int .i64 x0, .int .i64 x1] 36 (0, 0)) := by
    have := heap_alloc_new (w.alloc (.cells #[.int .i64 x0, .int .i64 x1] 36)) (.cells #[.int .i64 x0, .int .i64 x1] 36)
    rwa [World.size_alloc] at this
  have hz2 : ((w.alloc (.cells #[.int .i64 x0, .int .i64 x1] 36)).alloc (.cells #[.int .i64 x0, .int .i64 x1] 36)).heap.size = w.heap.size + 1 + 1 := by rw [World.size_alloc, World.size_alloc]
  have hb2 := below_alloc hb1 (.cells #[.int .i64 x0, .int .i64 x1] 36)
  have hC0 := Kd.C_below hr0 hb2
  have hCX := one_rowM (⟨x0, x1⟩ : S36) hg1
  clear hc0 hc1 hbx hb1 hz1 hg1
  generalize (w.alloc (.cells #[.int .i64 x0, .int .i64 x1] 36)).alloc (.cells #[.int .i64 x0, .int .i64 x1] 36) = WB at hz2 hb2 hC0 hCX ⊢
  have hgt := heap_alloc_new WB (.cells #[.slice A0 l0.length c0, .slice (some ⟨w.heap.size + 1, 0, none⟩) 1 1] 22)
  rw [hz2] at hgt
  have hbt := below_alloc (Below.refl WB.heap.size WB) (.cells #[.slice A0 l0.length c0, .slice (some ⟨w.heap.size + 1, 0, none⟩) 1 1] 22)
  have HR2 := Aside0.mk (two_rowsM hgt (Kd.C_below hC0 hbt) HC0.out (Kd.C_below hCX hbt) (by simp))
  have HBT := Aside0.mk (below_step hb2 hbt)
  have HCX := Aside0.mk (Kd.C_below hCX hbt)
  clear hgt hC0 hCX hb2
  refine ⟨trivial, ?_⟩
  refine (callsIn_wide.2 (ivl_rows.calls k _ 2 [l0, [⟨x0, x1⟩]] 0 _ HR2.out (by simp) H1.out)).mono ?_
  rintro e w1 ⟨rfl, hb3⟩
  have HB1 := Aside0.mk (below_step HBT.out hb3)
  have HCX1 := Aside0.mk (Kd.C_below HCX.out hb3)
  clear hb3 HR2 HBT HCX hbt hz2
  gi_wp2
  refine ⟨trivial, ?_⟩
  have hgb := heap_alloc_new w1 (.cells #[.slice none 0 0] 46)
  have hbb := below_alloc (Below.refl w1.heap.size w1) (.cells #[.slice none 0 0] 46)
  have hzb : w1.heap.size + 1 = (w1.alloc (.cells #[.slice none 0 0] 46)).heap.size := (World.size_alloc _ _).symm
  generalize w1.alloc (.cells #[.slice none 0 0] 46) = w2 at hgb hbb hzb ⊢
  refine (callsIn_wide.2 (times_is w2)).mono ?_
  rintro e w3 ⟨rfl, hb3⟩
  have hgb3 := blk_below hgb hb3
  have hbb3 := below_step hbb hb3
  have hz3 := hb3.size
  clear hgb hbb hb3
  gi_wp2
  refine ⟨trivial, ?_⟩
  refine (callsIn_wide.2 (ivl_runs.calls k A0 c0 l0 ra w3 (Kd.C_below (Kd.C_below hr0 HB1.out) hbb3) HC0.out H2.out)).mono ?_
  rintro e w4 ⟨v4, rfl, ho4, hb4⟩
  obtain ⟨A4, c4, rfl⟩ := Kd.R_slice ho4
  have hgb4 := blk_below hgb3 hb4
  have hbb4 := below_step hbb3 hb4
  have hz4 := hb4.size
  clear hgb3 hbb3 hb4
  gi_wp2
  refine ⟨trivial, ?_⟩
  refine (gaps_in _ A4 ra.length c4 w4).mono ?_
  rintro e w5 ⟨rfl, rfl⟩
  gi_wp2
  have hb6 : Below w4.heap.size w4 ((w4.alloc (.cells fieldM 50)).alloc (.cells #[.slice A4 ra.length c4] 46)) := below_alloc (below_alloc (Below.refl _ _) _) _
  have hbf : ((w4.alloc (.cells fieldM 50)).alloc (.cells #[.slice A4 ra.length c4] 46)).heap[w4.heap.size]? = some (.cells fieldM 50 (0, 0)) := blk_alloc (heap_alloc_new w4 _) _
  have hbs : ((w4.alloc (.cells fieldM 50)).alloc (.cells #[.slice A4 ra.length c4] 46)).heap[w4.heap.size + 1]? = some (.cells #[.slice A4 ra.length c4] 46 (0, 0)) := by
    have := heap_alloc_new (w4.alloc (.cells fieldM 50)) (.cells #[.slice A4 ra.length c4] 46)
    rwa [World.size_alloc] at this
  have hz6 : w4.heap.size + 2 = ((w4.alloc (.cells fieldM 50)).alloc (.cells #[.slice A4 ra.length c4] 46)).heap.size := by rw [World.size_alloc, World.size_alloc]
  generalize ((w4.alloc (.cells fieldM 50)).alloc (.cells #[.slice A4 ra.length c4] 46)) = w6 at hb6 hbf hbs hz6 ⊢
  have hgb6 := blk_below hgb4 hb6
  have hbb6 := below_step hbb4 hb6
  have HGI : Aside0 (GapsIn w6.heap.size w1.heap.size w4.heap.size (w4.heap.size + 1) ra A4 c4 w6) :=
    ⟨⟨⟨by omega, by omega, by omega, by omega, Nat.le_refl _⟩, ⟨_, hgb6, fun b h => by simp [Value.ownBlock] at h⟩, hbf, hbs, Kd.R_mono (Kd.R_lower (Kd.R_bound (Kd.R_mono (Kd.R_bound (Kd.R_below ho4 (Below.refl _ _))) (ok' := fun k => w3.heap.size ≤ k ∧ k < w4.heap.size) (fun k hk => ⟨hk.2.1, hk.2.2.1⟩) |> fun h => Kd.R_below h hb6)) (Nat.zero_le _)) (fun k hk => ⟨by have := hk.1; omega, by have := hk.1; omega⟩)⟩⟩
  have hD0 : NotIn w1 w6 w6 w1.heap.size [] := ⟨⟨_, hgb6, Kd.R_nil _ _ _ _ _, fun b h => by simp [Value.ownBlock] at h⟩, hbb6, Nat.le_refl _⟩
  have HCX6 := Aside0.mk (Kd.C_below HCX1.out hbb6)
  have HN6 : Aside0 (w1.heap.size < w6.heap.size) := ⟨by omega⟩
  clear hgb4 hbb4 hb6 hbf hbs hgb6 hbb6 ho4
  have hseq : SeqStopsK Fence.wide 3 Try.prog 51 #[.pointer (some ⟨w4.heap.size, 0, none⟩), .pointer (some ⟨w4.heap.size + 1, 0, none⟩)] encR (KeepG w1.heap.size w6.heap.size) (fun ys => ys = gapsL 0 ra) (fun _ => True) (ra.length + 1) w6 := fun l J Jx W hW hJ _ hY h0 =>
    (gaps1_in 3 (by omega) l w6.heap.size w1.heap.size w4.heap.size (w4.heap.size + 1) ra A4 c4 HOK.out J Jx hY (fun _ _ _ h hg => hJ _ _ _ none h hg (fun _ e => by cases e)) W (HGI.out.below hW) h0).mono (by
      rintro e W' ⟨hv, (⟨ys, hys, hj⟩ | ⟨pre, hj⟩)⟩
      · exact ⟨hv, .inl ⟨ys, hys, hj⟩⟩
      · exact ⟨hv, .inr ⟨pre, trivial, hj⟩⟩)
  have henc : ∀ x : RnM, (encR x).size = 1 := fun _ => rfl
  refine wpIn_rangeFunc_ownH rfl (by omega) (gf := 51) (lb := #[.pointer (some ⟨w4.heap.size, 0, none⟩), .pointer (some ⟨w4.heap.size + 1, 0, none⟩)]) rfl trivial (enters_of Try.func51 (by kernel_rfl) rfl)
    hseq (fun h k => h.trans k) (fun W l o o' _ ho hc _ => KeepG.putWalk ho hc o') (Below.refl _ _) (fun _ => rfl)
    (fun pre W => NotIn w1 w6 W w1.heap.size pre)
    (fun _ _ _ => False)
    (fun s A B row h hg hr => h.own hg hr (by have := HN6.out; omega))
    (fun _ _ _ _ _ hs _ _ => hs)
    hD0
    (fun x a' W => ∃ Bx, w6.heap.size ≤ Bx ∧ W.heap[Bx]? = some (.cells #[.int .i64 x.f0, .int .i64 x.f1] 63 (0, 0)) ∧ a' = { tmps := #[.slice A0 l0.length c0, .agg #[.int .i64 x0, .int .i64 x1], undef, .pointer (some ⟨w.heap.size, 0, none⟩), .slice none 0 0, .int .i64 0, .slice (some ⟨w.heap.size + 1, 0, none⟩) 1 1, .int .i64 0, .pointer (some ⟨w1.heap.size, 0, none⟩), .pointer (some ⟨Bx, 0, none⟩), .agg #[.int .i64 x0, .int .i64 x1], .slice (some ⟨w.heap.size + 1, 0, none⟩) 1 1, .slice A0 l0.length c0, .slice (some ⟨w.heap.size + 1, 0, none⟩) 1 1, .slice (some ⟨w.heap.size + 1 + 1, 0, none⟩) 2 2, .int .i64 0, .int .i64 0, .bool false, undef, fieldT, .slice A0 l0.length c0, .slice A4 ra.length c4, .func (.func 51) #[] #[.pointer (some ⟨w4.heap.size, 0, none⟩), .pointer (some ⟨w4.heap.size + 1, 0, none⟩)], .agg #[.int .i64 x.f0, .int .i64 x.f1], undef, undef, undef, undef, undef, undef, undef, undef, undef, undef, undef, undef], defers := [] })
    (fun x a' _ A B row ⟨Bx, h1, h2, h3⟩ hg hr => ⟨Bx, h1, blk_grown_ h2 hg hr, h3⟩) ?assign ?body ?done ?stop
  case assign =>
    rintro l pre x W K hI hK
    dsimp only [encR]
    gi_wp2
    have hb := below_alloc (Below.refl W.heap.size W) (.cells #[.int .i64 x.f0, .int .i64 x.f1] 63)
    exact hK _ _ ((KeepsOthers.alloc _ _).from _) (KeepG.below hb) (hI.below hb) ⟨W.heap.size, hI.size, heap_alloc_new _ _, rfl⟩
  case body =>
    rintro l pre x a' W hl hr hI ⟨Bx, hBx, hx, rfl⟩ hlt
    obtain ⟨v, hv, hrow, hown⟩ := hI.line
    have hcg := (blk_cell hv 0).trans (rfl : _ = some v)
    have hcx0 := (blk_cell hx 0).trans (rfl : _ = some (Value.int .i64 x.f0))
    have hcx1 := (blk_cell hx 1).trans (rfl : _ = some (Value.int .i64 x.f1))
    have HLN : Aside0 ((pre.length + 1) * 16 ≤ 140737488355328) := ⟨by have := HL.out; omega⟩
    have hbw := hI.bl
    have hsz := hI.size
    gi_wp2_with (gi_at_builtin; refine R_append_in k63 (w0 := w1) w1.heap.size rfl (.tmp 24) (.tmp 26) 46 63 (.agg #[(.int .i64 0), (.int .i64 0)]) 16 rfl Try.underlying46 infoM19 rfl (by decide) (by omega) v pre x [.int .i64 x.f0, .int .i64 x.f1] (fun k_ => k_ ≠ w1.heap.size) (fun _ => False) rfl rfl (k63_mkM _ _ _ _) (fun _ hk => hk.elim) ?aF hrow hbw hbw.size HLN.out ?_; (case aF => intro k_ hk_ he_; subst he_; exact absurd (blk_lt hv) (Nat.not_lt.2 hk_)); intro v1 w9 ho1 hb1 hg1 hat1; obtain ⟨A1, c1, rfl⟩ := Kd.R_slice ho1; have hv1 : w9.heap[w1.heap.size]? = some (.cells #[v] 46 (0, 0)) := blk_grown hv hg1 (Kd.R_away hrow (fun _ hk => hk)); have hcg1 := (blk_cell hv1 0).trans (rfl : _ = some v); have hcf1 := blk_frozen hv1 0)
    have hnew : ∀ b, (Value.slice A1 (pre ++ [x]).length c1).ownBlock = some b → w6.heap.size ≤ b ∧ b < w9.heap.size := fun b hb => by
      refine ⟨?_, own_lt (Kd.R_own ho1).choose_spec b hb⟩
      rcases hat1 with e | ⟨b', e, h⟩
      · exact (hown b (e.symm.trans hb)).1
      · have : b' = b := Option.some.inj (e.symm.trans hb)
        omega
    have hne : some w1.heap.size ≠ v.ownBlock := Kd.R_away hrow (fun _ hk => hk)
    refine ⟨((KeepsOthers.of_grownBy hg1 (fun j o hj ho => ?_)).trans (KeepsOthers.setCell _ _ _)).from _, by simpa using KeepG.append hv hg1 hat1 hne hnew, ⟨⟨_, blk_set hv1 0 _, by simpa using Kd.R_far ho1 (p := ⟨w1.heap.size, 0, none⟩) (fun _ hk => hk) (.slice A1 (pre ++ [x]).length c1), fun b hb => by rw [World.size_setCell]; exact hnew b (by simpa using hb)⟩, hb1.setCell (p := ⟨w1.heap.size, 0, none⟩) (Nat.le_refl _) _, Nat.le_trans hsz (Nat.le_trans hg1.size (Nat.le_of_eq (World.size_setCell _ _ _).symm))⟩⟩
    obtain ⟨inner, hown2⟩ := Kd.R_own hrow
    obtain ⟨cells, hcs⟩ := own_typed hown2 j hj
    rw [hcs] at ho
    cases ho
    rfl
  case done =>
    rintro D xs W hD hxs hI hDd
    obtain ⟨v, hv, hrow, hown⟩ := hI.line
    obtain ⟨Ag, cg, rfl⟩ := Kd.R_slice hrow
    obtain ⟨gs, hgs⟩ : ∃ gs, gapsL 0 ra = gs := ⟨_, rfl⟩
    have hxg : xs = gs := hxs.trans hgs
    subst hxg
    have hgl := gapsL_len ra 0
    have h4 := H4.out
    rw [hgs] at h4 hgl
    have H4' := Aside0.mk h4
    have HGL := Aside0.mk hgl
    have HDd := Aside0.mk (blk_below hDd (below_drew1 (Below.refl W.heap.size W)))
    have HDw : Aside0 (w.heap.size ≤ D) := ⟨by have := HB1.out.size; have := HN6.out; omega⟩
    have HV := Aside0.mk (blk_below hv (below_drew1 (Below.refl W.heap.size W)))
    have HRW := Aside0.mk (Kd.R_below hrow (below_drew1 (Below.refl W.heap.size W)))
    have HBW := Aside0.mk (below_drew1 (below_step HB1.out hI.bl))
    have HCW := Aside0.mk (Kd.C_below HCX1.out (below_drew1 hI.bl))
    have hmo : Try.prog.follows .mixedOrders = true := by kernel_rfl
    clear hv hrow hown h4 hgl hgs hDd hI hxs
    gi_wp2
    refine startI (m := 10) (S := fun w' => w'.cell? ⟨w1.heap.size, 0, none⟩ = some (.slice Ag xs.length cg)) (ds := []) #[false,false,false,false,false,false,false,false,false,false] hmo rfl rfl ?_
    have hHeld : W.drew.cell? ⟨w1.heap.size, 0, none⟩ = some (.slice Ag xs.length cg) := (blk_cell HV.out 0).trans rfl
    generalize W.drew = W7 at HDd HV HRW HBW HCW hHeld ⊢
    refine takeI (fun _ => trivial) (by kernel_rfl) (i := 1) (N := some 29) (v := ?_) (a' := ?_) #[false,true,false,false,false,false,false,false,false,false] rfl rfl (by kernel_rfl) (panQ rfl 29 (by decide) (by decide) _) (Or.inl ⟨by rfl, ?_⟩) hHeld ?_ ?_
    rotate_left
    · rintro w' s0
      go_simp
      with_reducible rfl
    rotate_left
    · simp only [Go.Act.put]
      rfl
    refine pureI (fun _ => trivial) (by kernel_rfl) (i := 2) (N := some 30) (v := ?_) (a' := ?_) #[false,true,true,false,false,false,false,false,false,false] rfl rfl (by kernel_rfl) (panQ rfl 30 (by decide) (by decide) _) (Or.inl ⟨by rfl, ?_⟩) ?_ ?_
    rotate_left
    · intro w'
      go_simp
      with_reducible rfl
    rotate_left
    · simp only [Go.Act.put]
      rfl
    refine oneI (i := 0) (N := some 28) #[true,true,true,false,false,false,false,false,false,false] rfl rfl (by kernel_rfl) (by rfl) (fun K hK => ?_)
    clear hHeld
    go_simp
    refine ⟨trivial, ?_⟩
    refine (callsIn_wide.2 (times_is W7)).mono ?_
    rintro e W8 ⟨rfl, hb8⟩
    have HDd8 := Aside0.mk (blk_below HDd.out hb8)
    have HRW8 := Aside0.mk (Kd.R_below HRW.out hb8)
    have HV8 := Aside0.mk (blk_below HV.out hb8)
    have HBW8 := Aside0.mk (below_step HBW.out hb8)
    have HCW8 := Aside0.mk (Kd.C_below HCW.out hb8)
    clear hb8
    refine hK _ _ ((blk_cell HV8.out 0).trans rfl) ?_
    clear hK K
    refine oneI (i := 3) (N := some 31) #[true,true,true,true,false,false,false,false,false,false] rfl rfl (by kernel_rfl) (by rfl) (fun K hK => ?_)
    go_simp
    refine ⟨trivial, ?_⟩
    have hrc := ivl_runs.calls k _ 1 [⟨x0, x1⟩] rb W8 HCW8.out (by simp) H3.out
    simp only [List.length_cons, List.length_nil, Nat.zero_add] at hrc
    refine (callsIn_wide.2 hrc).mono ?_
    clear hrc
    rintro e W9 ⟨v9, rfl, ho9, hb9⟩
    obtain ⟨A9, c9, rfl⟩ := Kd.R_slice ho9
    have HDd9 := Aside0.mk (blk_below HDd8.out hb9)
    have HRW9 := Aside0.mk (Kd.R_below HRW8.out hb9)
    have HV9 := Aside0.mk (blk_below HV8.out hb9)
    have HBW9 := Aside0.mk (below_step HBW8.out hb9)
    have HO9 := Aside0.mk ho9
    clear hb9 ho9
    refine hK _ _ ((blk_cell HV9.out 0).trans rfl) ?_
    clear hK K
    refine oneI (i := 4) (N := some 32) #[true,true,true,true,true,false,false,false,false,false] rfl rfl (by kernel_rfl) (by rfl) (fun K hK => ?_)
    unfold fieldT
    go_simp
    refine ⟨trivial, ?_⟩
    refine (callsIn_wide.2 (meet_is Ag cg xs A9 c9 rb (by have h1 := HL.out; have h2 := HGL.out; omega) W9 (Kd.R_reads' HRW9.out).2.2 (Kd.R_reads' HRW9.out).2.1 (Kd.R_reads' HO9.out).2.2 (Kd.R_reads' HO9.out).2.1)).mono ?_
    rintro e W10 ⟨v10, rfl, ho10, hb10⟩
    obtain ⟨mt, hmt⟩ : ∃ mt, meetN (xs.length + rb.length) xs rb = mt := ⟨_, rfl⟩
    have h4 := H4'.out
    rw [hmt] at ho10 h4
    obtain ⟨A10, c10, rfl⟩ := Kd.R_slice ho10
    have HDd10 := Aside0.mk (blk_below HDd9.out hb10)
    have HV10 := Aside0.mk (blk_below HV9.out hb10)
    have HBW10 := Aside0.mk (below_step HBW9.out hb10)
    have HO10 := Aside0.mk ho10
    have H5 := Aside0.mk h4
    clear hb10 ho10 hmt h4
    refine hK _ _ ((blk_cell HV10.out 0).trans rfl) ?_
    clear hK K
    refine oneI (i := 5) (N := some 33) #[true,true,true,true,true,true,false,false,false,false] rfl rfl (by kernel_rfl) (by rfl) (fun K hK => ?_)
    go_simp
    refine ⟨trivial, ?_⟩
    refine (callsIn_wide.2 (ivl_told.calls k _ _ mt r1 r2 W10 (Kd.R_reads' HO10.out).2.2 (Kd.R_reads' HO10.out).2.1 H5.out)).mono ?_
    rintro e W11 ⟨v11, rfl, ho11, hb11⟩
    have HDd11 := Aside0.mk (blk_below HDd10.out hb11)
    have HV11 := Aside0.mk (blk_below HV10.out hb11)
    have HBW11 := Aside0.mk (below_step HBW10.out hb11)
    have HO11 := Aside0.mk (Kd.R_lower ho11 HBW10.out.size)
    clear hb11 ho11
    refine hK _ _ ((blk_cell HV11.out 0).trans rfl) ?_
    clear hK K
    refine pureI (fun _ => trivial) (by kernel_rfl) (i := 6) (N := some 34) (v := ?_) (a' := ?_) #[true,true,true,true,true,true,true,false,false,false] rfl rfl (by kernel_rfl) (panQ rfl 34 (by decide) (by decide) _) (Or.inl ⟨by rfl, ?_⟩) ?_ ?_
    rotate_left
    · intro w'
      go_simp
      with_reducible rfl
    rotate_left
    · simp only [Go.Act.put]
      rfl
    refine pureI (fun _ => trivial) (by kernel_rfl) (i := 7) (N := some 35) (v := ?_) (a' := ?_) #[true,true,true,true,true,true,true,true,false,false] rfl rfl (by kernel_rfl) (panQ rfl 35 (by decide) (by decide) _) (Or.inl ⟨by rfl, ?_⟩) ?_ ?_
    rotate_left
    · intro w'
      go_simp
      with_reducible rfl
    rotate_left
    · simp only [Go.Act.put]
      rfl
    refine oneI (i := 8) (N := some 4) #[true,true,true,true,true,true,true,true,true,false] rfl rfl (by kernel_rfl) (by rfl) (fun K hK => ?_)
    go_simp
    refine hK _ _ ((blk_cell HV11.out 0).trans rfl) ?_
    clear hK K
    refine oneI (i := 9) (N := some 5) #[true,true,true,true,true,true,true,true,true,true] rfl rfl (by kernel_rfl) (by rfl) (fun K hK => ?_)
    go_simp
    refine hK _ _ ((blk_cell HV11.out 0).trans rfl) ?_
    clear hK K
    refine doneI (by kernel_rfl) ?_
    gi_wp2
    have hgr := grownBy_putObj' W11 D (.deferred none)
    have hrr : ∀ r, some D = some r → w.heap.size ≤ r ∧ ∃ o : Obj, W11.heap[r]? = some o ∧ o.isCells = false := fun r e => by cases e; exact ⟨HDw.out, _, HDd11.out, rfl⟩
    refine ⟨by simp, .inl ⟨_, _, rfl, run_takeDeferred HDd11.out, ?_⟩⟩
    exact ⟨_, results_list (rs := [.tmp 4, .tmp 5]) rfl (by simp) (.tmp (.tmp .nil)), _, rfl, own_grown HO11.out hgr hrr, HBW11.out.grown hgr HBW11.out.size (fun k e => (hrr k e).1)⟩
  case stop =>
    rintro D c pre W _ _ h _
    exact h.elim
def okM (l : List RnM) : Bool := l.all (fun x => decide (0 ≤ x.f0 ∧ x.f0 ≤ x.f1 ∧ x.f1 ≤ 1099511627776))
theorem okM_of {l : List RnM} (h : okM l = true) : ∀ x ∈ l, 0 ≤ x.f0 ∧ x.f0 ≤ x.f1 ∧ x.f1 ≤ 1099511627776 := fun x hx => of_decide_eq_true (List.all_eq_true.1 h x hx)
def ivl_Not.f (k : Nat) (l0 : List S36) (a1_0 a1_1 : Int) : Option (List S36 × Int) := (ivl_rows.f k [l0, [⟨a1_0, a1_1⟩]]).bind fun y =>
  if y ≠ 0 then some ([], y) else (ivl_runs.f k l0).bind fun ra => (ivl_runs.f k [⟨a1_0, a1_1⟩]).bind fun rb =>
  if (ra.length + rb.length + 4) * 16 ≤ 140737488355328 ∧ okM ra = true then ivl_told.f k (meetN ((gapsL 0 ra).length + rb.length) (gapsL 0 ra) rb) else none
theorem ivl_Not.mono : ∀ a0 a1 a2 k, LeO (ivl_Not.f k a0 a1 a2) (ivl_Not.f (k + 1) a0 a1 a2) := by
  intro a0 a1 a2 k
  unfold ivl_Not.f
  exact LeO.bind (ivl_rows.mono _ _) (fun _ => LeO.ite (LeO.refl _) (LeO.bind (ivl_runs.mono _ _) (fun _ => LeO.bind (ivl_runs.mono _ _) (fun _ => LeO.ite (ivl_told.mono _ _) (LeO.refl _)))))
set_option maxRecDepth 100000 in
set_option maxHeartbeats 4000000 in
theorem ivl_Not.calls (k : Nat) (A0 : Option Addr) (c0 : Nat) (l0 : List (S36)) (a1_0 : Int) (a1_1 : Int) (r1 : List (S36)) (r2 : Int) (w : World) (hr0 : Kd.C k36 w A0 l0.length l0) (hc0 : l0.length ≤ c0) (h : ivl_Not.f k l0 a1_0 a1_1 = some (r1, r2)) :
    Calls Try.prog 23 #[.slice A0 l0.length c0, .agg #[.int .i64 a1_0, .int .i64 a1_1]] w fun e w' => ∃ v0_ : Value, e = .returned (.tuple #[v0_, .int .i64 r2]) ∧ Kd.R k36 36 w' w.heap.size (fun _ => True) v0_ r1 ∧ Below w.heap.size w w' := by
  obtain ⟨y, hy, h⟩ := Option.bind_eq_some_iff.mp h
  by_cases cy : y ≠ 0
  · rw [if_pos cy] at h
    obtain ⟨e1, e2⟩ := Prod.mk.inj (Option.some.inj h)
    subst e1
    subst e2
    have d0 : (y != 0) = true := bne_iff_ne.mpr cy
    have HY := Aside0.mk hy
    have hbx := heap_alloc_new w (.cells #[.int .i64 a1_0, .int .i64 a1_1] 36)
    have hb1 := below_alloc (Below.refl w.heap.size w) (.cells #[.int .i64 a1_0, .int .i64 a1_1] 36)
    have hg1 : ((w.alloc (.cells #[.int .i64 a1_0, .int .i64 a1_1] 36)).alloc (.cells #[.int .i64 a1_0, .int .i64 a1_1] 36)).heap[w.heap.size + 1]? = some (.cells #[.int .i64 a1_0, .int .i64 a1_1] 36 (0, 0)) := by
      have := heap_alloc_new (w.alloc (.cells #[.int .i64 a1_0, .int .i64 a1_1] 36)) (.cells #[.int .i64 a1_0, .int .i64 a1_1] 36)
      rwa [World.size_alloc] at this
    have hz2 : ((w.alloc (.cells #[.int .i64 a1_0, .int .i64 a1_1] 36)).alloc (.cells #[.int .i64 a1_0, .int .i64 a1_1] 36)).heap.size = w.heap.size + 1 + 1 := by rw [World.size_alloc, World.size_alloc]
    have hb2 := below_alloc hb1 (.cells #[.int .i64 a1_0, .int .i64 a1_1] 36)
    have hC0 := Kd.C_below hr0 hb2
    have hCX := one_rowM (⟨a1_0, a1_1⟩ : S36) hg1
    have hgt := heap_alloc_new ((w.alloc (.cells #[.int .i64 a1_0, .int .i64 a1_1] 36)).alloc (.cells #[.int .i64 a1_0, .int .i64 a1_1] 36)) (.cells #[.slice A0 l0.length c0, .slice (some ⟨w.heap.size + 1, 0, none⟩) 1 1] 22)
    rw [hz2] at hgt
    have hbt := below_alloc (Below.refl _ ((w.alloc (.cells #[.int .i64 a1_0, .int .i64 a1_1] 36)).alloc (.cells #[.int .i64 a1_0, .int .i64 a1_1] 36))) (.cells #[.slice A0 l0.length c0, .slice (some ⟨w.heap.size + 1, 0, none⟩) 1 1] 22)
    have HR2 := Aside0.mk (two_rowsM hgt (Kd.C_below hC0 hbt) hc0 (Kd.C_below hCX hbt) (by simp))
    have HBT := Aside0.mk (below_step hb2 hbt)
    have hc0_ := (blk_cell hbx 0).trans (rfl : _ = some (Value.int .i64 a1_0))
    have hc1_ := (blk_cell hbx 1).trans (rfl : _ = some (Value.int .i64 a1_1))
    clear cy h hgt hC0 hCX hb2 hbx hb1 hg1 hz2 hbt
    go_enter Try.func23, Try.ntmps23
    go_wp2_with (go_at_call 37; refine (ivl_rows.calls k _ 2 [l0, [⟨a1_0, a1_1⟩]] y _ HR2.out (by simp) HY.out).mono ?_; rintro e w5 ⟨rfl, hb5⟩; have HB5 := Aside0.mk (below_step HBT.out hb5); clear hb5)
    go_ret2
    exact ⟨_, rfl, Kd.R_nil _ _ _ _ _, HB5.out⟩
  · have cy0 : y = 0 := Decidable.not_not.mp cy
    subst cy0
    rw [if_neg cy] at h
    obtain ⟨ra, hra, h⟩ := Option.bind_eq_some_iff.mp h
    obtain ⟨rb, hrb, h⟩ := Option.bind_eq_some_iff.mp h
    by_cases cg : (ra.length + rb.length + 4) * 16 ≤ 140737488355328 ∧ okM ra = true
    case neg => rw [if_neg cg] at h; cases h
    rw [if_pos cg] at h
    exact ivl_Not.walk k A0 c0 l0 a1_0 a1_1 ra rb r1 r2 w hr0 hc0 hy hra hrb cg.1 (okM_of cg.2) h
theorem event_runw {P : Program} {ops : Array Oper} {o : Oper} {rest : List Oper} {a : Act} {Q : Exit → Act → World → Prop} {W w1 : World} {v : Value} (hw : o.guard = none ∨ Region.wanted o (yielded ops a.tmps) = true) (hrun : (execOp a.eval o).run P W = .ok (.value v) w1) (h : wpList P ops Q rest (a.put o.dst v) w1) : wpList P ops Q (o :: rest) a W := by
 rcases hw with hw | hw
 ·exact Kd.event_run hw hrun h
 ·unfold wpList
  rw [if_pos hw]
  refine .inl ?_
  unfold Oper.wp
  rw [hrun]
  exact h
theorem R_litg {α : Type} {P : Program} {ops : Array Oper} {o : Oper} {rest : List Oper} {a : Act} {Q : Exit → Act → World → Prop} (d : Kd α) {w0 W : World} (base e : Nat) (hgd : o.guard = none ∨ Region.wanted o (yielded ops a.tmps) = true) {N : Tmp} (_hd : o.dst = some N) {xs : List α} {inner : List Value} {ok okp : Nat → Prop}
  (hrun : (execOp a.eval o).run P W = .ok (.value (.slice (some ⟨W.heap.size, 0, none⟩) xs.length xs.length)) (W.alloc (.cells inner.toArray e)))
  (hrep : Reps (d.M W base okp) d.sz xs inner) (hok : ∀ k, okp k → ok k) (hfresh : ok W.heap.size) (HB : Below base w0 W) (hbase : base ≤ W.heap.size) (hm : xs.length ≤ 9223372036854775807)
  (h : ∀ v1 w1, d.R e w1 base ok v1 xs → Below base w0 w1 → W.grownBy w1 none → (∃ b, v1.ownBlock = some b ∧ W.heap.size ≤ b) → wpList P ops Q rest (a.put o.dst v1) w1) : wpList P ops Q (o :: rest) a W := by
 refine event_runw hgd hrun (h _ _ ⟨fun k hk => ?_, inner, ?_, ?_⟩ (HB.alloc hbase _) (World.grownBy_alloc W _ none) ⟨W.heap.size, by simp [Value.ownBlock], Nat.le_refl _⟩)
 ·have : W.heap.size = k := by simpa [Value.ownBlock] using hk
  subst this
  exact hfresh
 ·have h2 := World.ownsRow_lit (base := base) (e := e) (size := d.sz) W inner.toArray xs.length hbase (by simpa [maxLen] using hm) (by simpa using hrep.1)
  simpa using h2
 ·refine hrep.imp_ (fun p c hp => d.M_mono (fun k hk => ⟨hok k hk.1, fun he => ?_⟩) (Kd.M_below (d.M_bound hp) (below_alloc (Below.refl _ _) _)))
  have h3 : k = W.heap.size := by simpa [Value.ownBlock] using he
  have := hk.2.2.1
  omega
def spoorlaw19_lives.f (k : Nat)  : Option (Bool) := (ivl_Make.f k (([(⟨5, 7⟩ : S36), (⟨0, 2⟩ : S36), (⟨3, 3⟩ : S36)] : List (S36)))).bind fun bt127 => ((ivl_Not.f k bt127.1 0 9).bind fun bt131 => ((ivl_Or.f k bt127.1 bt131.1).bind fun bt135 => ((ivl_And.f k bt127.1 (([(⟨2, 5⟩ : S36)] : List (S36)))).bind fun bt142 => ((ivl_Has.f k bt127.1 4).bind fun bt146 => ((ivl_Long.f k bt127.1).bind fun bt148 => ((ivl_Make.f k (([(⟨3, 2⟩ : S36)] : List (S36)))).bind fun bt153 => ((spoorref19_Same.f k bt127.1 (([(⟨0, 3⟩ : S36), (⟨5, 7⟩ : S36)] : List (S36)))).bind fun t160 => (if t160 = true then (if bt127.2 = 0 then ((spoorref19_Same.f k bt131.1 (([(⟨4, 4⟩ : S36), (⟨8, 9⟩ : S36)] : List (S36)))).bind fun t164 => (if t164 = true then (if bt131.2 = 0 then ((spoorref19_Same.f k bt135.1 (([(⟨0, 9⟩ : S36)] : List (S36)))).bind fun t168 => (if t168 = true then (if bt135.2 = 0 then ((spoorref19_Same.f k bt142.1 (([(⟨2, 3⟩ : S36), (⟨5, 5⟩ : S36)] : List (S36)))).bind fun t172 => (if t172 = true then (if bt142.2 = 0 then (if bt146.1 = true then (none) else (if bt146.2 = 0 then (if bt148.1 = 7 then (if bt148.2 = 0 then (some (bt153.2 == 2)) else (none)) else (none)) else (none))) else (none)) else (none))) else (none)) else (none))) else (none)) else (none))) else (none)) else (none)))))))))
theorem spoorlaw19_lives.mono : ∀ k, LeO (spoorlaw19_lives.f k ) (spoorlaw19_lives.f (k + 1) ) := by
 intro  k
 unfold spoorlaw19_lives.f
 repeat' first
   | (with_reducible exact ivl_And.mono _ _ _)
   | (with_reducible exact ivl_Has.mono _ _ _)
   | (with_reducible exact ivl_Long.mono _ _)
   | (with_reducible exact ivl_Make.mono _ _)
   | (with_reducible exact ivl_Not.mono _ _ _ _)
   | (with_reducible exact ivl_Or.mono _ _ _)
   | (with_reducible exact spoorref19_Same.mono _ _ _)
   | (with_reducible exact LeO.refl _)
   | (with_reducible exact LeO.none _)
   | (with_reducible refine LeO.ite ?_ ?_)
   | (with_reducible refine LeO.bind ?_ (fun _ => ?_))
   | exact ivl_And.mono _ _ _
   | exact ivl_Has.mono _ _ _
   | exact ivl_Long.mono _ _
   | exact ivl_Make.mono _ _
   | exact ivl_Not.mono _ _ _ _
   | exact ivl_Or.mono _ _ _
   | exact spoorref19_Same.mono _ _ _
   | exact LeO.none _
   | refine LeO.ite ?_ ?_
   | refine LeO.bind ?_ (fun _ => ?_)
end Go.Proofs.Ytkjjidanakmkeaa.Q
end
