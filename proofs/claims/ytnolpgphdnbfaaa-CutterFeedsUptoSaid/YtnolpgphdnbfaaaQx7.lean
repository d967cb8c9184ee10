-- Printed by this session's program wip/tools/mp.sh out of the translation.
import Derived.Test.YtnolpgphdnbfaaaQx0
namespace Go.Proofs.Ytnolpgphdnbfaaa.Q
open Go.RowKit Go.Proofs.YtnolpgphdnbfaaaW.PrintWords Go.Proofs.YtnolpgphdnbfaaaW.PrintLast Go.Proofs.YtnolpgphdnbfaaaW.PrintMore
attribute [local go_sem] max2_int min2_int max_two min_two max_three min_three max_four min_four   -- for this text's walks alone
set_option linter.unusedVariables false
set_option linter.unusedSimpArgs false

attribute [-simp] ByteArray.size_append
attribute [-go_sem] Go.ByteArray.size_append'
/-! ### spoorref12_comes: function 18 -/
mutual
def spoorref12_comes.j0 : Nat → Int → Bool → ByteArray → Bool → Int → Option (ByteArray × Bool × Int × (List (S38)))
  | 0, _, _, _, _, _ => none
  | k + 1, x1, x21, x111000, x111001, x111002 => if x21 = true then (if x111001 = true then (some (x111000, x111001, x111002, ([] : List (S38)))) else (some (x111000, true, x111002, (([(⟨2, (⟨#[]⟩ : ByteArray)⟩ : S38)] : List (S38)))))) else ((some (([x1] : List Int) : List Int)).bind fun y115 => (if x111000.size + (strOfNums y115).size ≤ 9223372036854775807 then (if ((x111000 ++ (strOfNums y115)).size : Int) < 3 then (some (x111000 ++ (strOfNums y115), false, x111002, ([] : List (S38)))) else (if 1 < ((x111000 ++ (strOfNums y115)).size : Int) then (if 2 < ((x111000 ++ (strOfNums y115)).size : Int) then (if (wrap64 ((wrap64 (256 * (wrap64 (bt (x111000 ++ (strOfNums y115)) 1)))) + (wrap64 (bt (x111000 ++ (strOfNums y115)) 2)))) < 1 then (spoorref12_comes.j1 k (wrap64 ((wrap64 (256 * (wrap64 (bt (x111000 ++ (strOfNums y115)) 1)))) + (wrap64 (bt (x111000 ++ (strOfNums y115)) 2)))) true (x111000 ++ (strOfNums y115)) false x111002) else (spoorref12_comes.j1 k (wrap64 ((wrap64 (256 * (wrap64 (bt (x111000 ++ (strOfNums y115)) 1)))) + (wrap64 (bt (x111000 ++ (strOfNums y115)) 2)))) (decide ((wrap64 ((wrap64 (256 * (wrap64 (bt (x111000 ++ (strOfNums y115)) 1)))) + (wrap64 (bt (x111000 ++ (strOfNums y115)) 2)))) > 64)) (x111000 ++ (strOfNums y115)) false x111002)) else (none)) else (none))) else (none)))
def spoorref12_comes.j1 : Nat → Int → Bool → ByteArray → Bool → Int → Option (ByteArray × Bool × Int × (List (S38)))
  | 0, _, _, _, _, _ => none
  | k + 1, x6, x57, x111000, x111001, x111002 => if x57 = true then (some ((⟨#[]⟩ : ByteArray), false, x6, (([(⟨3, (⟨#[]⟩ : ByteArray)⟩ : S38)] : List (S38))))) else (if (x111000.size : Int) = (wrap64 (3 + x6)) then (if 3 ≤ (x111000.size : Int) then (some ((⟨#[]⟩ : ByteArray), false, 0, (([(⟨1, x111000.extract 3 x111000.size⟩ : S38)] : List (S38))))) else (none)) else (some (x111000, x111001, x111002, ([] : List (S38)))))
end
def spoorref12_comes.f (k : Nat) (a0_0 : ByteArray) (a0_1 : Bool) (a0_2 : Int) (a1 : Int) : Option (ByteArray × Bool × Int × (List (S38))) := if a0_2 > 0 then (some (a0_0, a0_1, wrap64 (a0_2 - 1), ([] : List (S38)))) else (if a0_0.toList = ([] : List UInt8) then (spoorref12_comes.j0 k a1 (a1 != 245) a0_0 a0_1 a0_2) else (spoorref12_comes.j0 k a1 false a0_0 a0_1 a0_2))
theorem spoorref12_comes.mono_l : ∀ k, (∀ y0 y1 y2 y3 y4, LeO (spoorref12_comes.j0 k y0 y1 y2 y3 y4) (spoorref12_comes.j0 (k + 1) y0 y1 y2 y3 y4)) ∧ (∀ y0 y1 y2 y3 y4, LeO (spoorref12_comes.j1 k y0 y1 y2 y3 y4) (spoorref12_comes.j1 (k + 1) y0 y1 y2 y3 y4))
  | 0 => ⟨fun _ _ _ _ _ r h => by simp [spoorref12_comes.j0] at h, fun _ _ _ _ _ r h => by simp [spoorref12_comes.j1] at h⟩
  | k + 1 => by
    obtain ⟨ih0, ih1⟩ := spoorref12_comes.mono_l k
    refine ⟨?_, ?_⟩
    · intro y0 y1 y2 y3 y4
      unfold spoorref12_comes.j0
      repeat' first
      | (with_reducible exact ih0 _ _ _ _ _)
      | (with_reducible exact ih1 _ _ _ _ _)
      | (with_reducible exact LeO.refl _)
      | (with_reducible exact LeO.none _)
      | (with_reducible refine LeO.ite ?_ ?_)
      | (with_reducible refine LeO.bind ?_ (fun _ => ?_))
      | exact ih0 _ _ _ _ _
      | exact ih1 _ _ _ _ _
      | exact LeO.none _
      | refine LeO.ite ?_ ?_
      | refine LeO.bind ?_ (fun _ => ?_)
    · intro y0 y1 y2 y3 y4
      unfold spoorref12_comes.j1
      repeat' first
      | (with_reducible exact ih0 _ _ _ _ _)
      | (with_reducible exact ih1 _ _ _ _ _)
      | (with_reducible exact LeO.refl _)
      | (with_reducible exact LeO.none _)
      | (with_reducible refine LeO.ite ?_ ?_)
      | (with_reducible refine LeO.bind ?_ (fun _ => ?_))
      | exact ih0 _ _ _ _ _
      | exact ih1 _ _ _ _ _
      | exact LeO.none _
      | refine LeO.ite ?_ ?_
      | refine LeO.bind ?_ (fun _ => ?_)
theorem spoorref12_comes.mono : ∀ a0 a1 a2 a3 k, LeO (spoorref12_comes.f k a0 a1 a2 a3) (spoorref12_comes.f (k + 1) a0 a1 a2 a3) := by
  intro a0 a1 a2 a3 k
  obtain ⟨ih0, ih1⟩ := spoorref12_comes.mono_l k
  unfold spoorref12_comes.f
  repeat' first
      | (with_reducible exact ih0 _ _ _ _ _)
      | (with_reducible exact ih1 _ _ _ _ _)
      | (with_reducible exact LeO.refl _)
      | (with_reducible exact LeO.none _)
      | (with_reducible refine LeO.ite ?_ ?_)
      | (with_reducible refine LeO.bind ?_ (fun _ => ?_))
      | exact ih0 _ _ _ _ _
      | exact ih1 _ _ _ _ _
      | exact LeO.none _
      | refine LeO.ite ?_ ?_
      | refine LeO.bind ?_ (fun _ => ?_)
def spoorref12_comes.T13 : Bool × List (List Nat × List Nat) := (true, [([], []), ([0], [0]), ([1], [1]), ([2], [2]), ([3], [3]), ([], []), ([5], [5]), ([6], [6]), ([7], [7]), ([4, 8], [4, 8]), ([9, 0, 1, 2, 3, 4, 5, 6, 7, 8, 9], [9])])
def spoorref12_comes.B13 : List Nat := [0, 1, 3, 7, 15, 0, 32, 96, 224, 511, 1023]
theorem spoorref12_comes.tab13 : rtab .any (opsOf Try.f18 13) = spoorref12_comes.T13 := by kernel_rfl
theorem spoorref12_comes.bits13 : waitsOk spoorref12_comes.T13.2 spoorref12_comes.B13 = true := by kernel_rfl
def spoorref12_comes.T17 : Bool × List (List Nat × List Nat) := (true, [([], []), ([], []), ([1], [1]), ([2], [2]), ([3], [3]), ([4], [4]), ([0, 0], [0]), ([5, 6, 0, 1, 2, 3, 4, 5, 6], [5])])
def spoorref12_comes.B17 : List Nat := [0, 0, 2, 6, 14, 30, 1, 127]
theorem spoorref12_comes.tab17 : rtab .any (opsOf Try.f18 17) = spoorref12_comes.T17 := by kernel_rfl
theorem spoorref12_comes.bits17 : waitsOk spoorref12_comes.T17.2 spoorref12_comes.B17 = true := by kernel_rfl
set_option maxHeartbeats 8000000 in
set_option maxRecDepth 100000 in
theorem spoorref12_comes.calls (k : Nat) (a0_0 : ByteArray) (a0_1 : Bool) (a0_2 : Int) (a1 : Int) (r1 : ByteArray) (r2 : Bool) (r3 : Int) (r4 : List (S38)) (w : World) (h : spoorref12_comes.f k a0_0 a0_1 a0_2 a1 = some (r1, r2, r3, r4)) :
    Calls Try.prog 18 #[.agg #[.string a0_0, .bool a0_1, .int .i64 a0_2], .int .u8 a1] w fun e w' => ∃ v3_ : Value, e = .returned (.tuple #[.agg #[.string r1, .bool r2, .int .i64 r3], v3_]) ∧ Kd.R k38 38 w' w.heap.size (fun _ => True) v3_ r4 ∧ Below w.heap.size w w' := by
  have hu23 := Try.underlying23
  have hu38 := Try.underlying38
  have HB := Aside0.mk (Below.refl w.heap.size w)
  have H : (if a0_2 > 0 then (some (a0_0, a0_1, wrap64 (a0_2 - 1), ([] : List (S38)))) else (if a0_0.toList = ([] : List UInt8) then (spoorref12_comes.j0 k a1 (a1 != 245) a0_0 a0_1 a0_2) else (spoorref12_comes.j0 k a1 false a0_0 a0_1 a0_2))) = some (r1, r2, r3, r4) := h
  clear h
  by_cases c3 : a0_2 > 0
  · rw [if_pos c3] at H
    have c3b0 : decide (0 < a0_2) = true := decide_eq_true c3
    clear c3
    simp only [Option.some.injEq, Prod.mk.injEq] at H
    obtain ⟨rfl, rfl, rfl, rfl⟩ := H
    go_enter Try.func18, Try.ntmps18
    go_wp2_with (first | ((with_reducible refine gate_dst (N := 2) rfl ?_); refine box_event ?hg (N := 2) ?hd (cs := #[.string a0_0, .bool a0_1, .int .i64 a0_2]) (t := 23) ?hr ?_; (case hd => rfl); (case hg => rfl); (case hr => first | (go_simp; done) | (go_simp; rfl)); intro gb110 hg w4 hbox hb; have n0_ := Aside0.mk (below_step (by repeat (first | (with_reducible first | exact HB.out | apply below_alloc | apply pw_below_drewN | apply below_drew1) | exact HB.out)) hb); have n1_ := Aside0.mk (hbox); have n2_ := Aside0.mk ((by rw [hg]; exact (below_size (by repeat (first | (with_reducible first | exact HB.out | apply below_alloc | apply pw_below_drewN | apply below_drew1) | exact HB.out))) : w.heap.size ≤ gb110)); have n3_ := Aside0.mk ((by rw [hg]; exact (below_size (by repeat (first | (with_reducible first | exact HB.out | apply below_alloc | apply pw_below_drewN | apply below_drew1) | exact HB.out))) : w.heap.size ≤ gb110)); clear HB; have HB := n0_; have BK110 := n1_; have GW110 := n2_; have GE110 := n3_; clear n0_ n1_ n2_ n3_; clear hb hbox hg) | ((with_reducible refine gate_dst (N := 4) rfl ?_); refine box_event ?hg (N := 4) ?hd (cs := #[.string (⟨#[]⟩ : ByteArray), .bool false, .int .i64 0]) (t := 23) ?hr ?_; (case hd => rfl); (case hg => rfl); (case hr => first | (go_simp; done) | (go_simp; rfl)); intro gb111 hg w5 hbox hb; have n0_ := Aside0.mk (blk_below (g := gb110) (o := .cells #[.string a0_0, .bool a0_1, .int .i64 a0_2] 23 (0, 0)) (by (with_reducible repeat (first | refine blk_drewN ?_ _ | refine blk_drew ?_ | refine blk_alloc ?_ _)); exact BK110.out) hb); have n1_ := Aside0.mk (below_step (by repeat (first | (with_reducible first | exact HB.out | apply below_alloc | apply pw_below_drewN | apply below_drew1 | refine below_set ?_ GE110.out) | exact HB.out)) hb); have n2_ := Aside0.mk (hbox); have n3_ := Aside0.mk ((by rw [hg]; exact (below_size (by repeat (first | (with_reducible first | exact HB.out | apply below_alloc | apply pw_below_drewN | apply below_drew1 | refine below_set ?_ GE110.out) | exact HB.out))) : w.heap.size ≤ gb111)); have n4_ := Aside0.mk ((by rw [hg]; exact (below_size (by repeat (first | (with_reducible first | exact HB.out | apply below_alloc | apply pw_below_drewN | apply below_drew1 | refine below_set ?_ GE110.out) | exact HB.out))) : w.heap.size ≤ gb111)); have n5_ := Aside0.mk ((by rw [hg]; exact Nat.ne_of_lt (blk_lt (g := gb110) (o := .cells #[.string a0_0, .bool a0_1, .int .i64 a0_2] 23 (0, 0)) (by (with_reducible repeat (first | refine blk_drewN ?_ _ | refine blk_drew ?_ | refine blk_alloc ?_ _)); exact BK110.out)) : gb110 ≠ gb111)); have n6_ := Aside0.mk ((by rw [hg]; exact Nat.ne_of_gt (blk_lt (g := gb110) (o := .cells #[.string a0_0, .bool a0_1, .int .i64 a0_2] 23 (0, 0)) (by (with_reducible repeat (first | refine blk_drewN ?_ _ | refine blk_drew ?_ | refine blk_alloc ?_ _)); exact BK110.out)) : gb111 ≠ gb110)); clear BK110; clear HB; have BK110 := n0_; have HB := n1_; have BK111 := n2_; have GW111 := n3_; have GE111 := n4_; have NB110_111 := n5_; have NB111_110 := n6_; clear n0_ n1_ n2_ n3_ n4_ n5_ n6_; clear hb hbox hg; have hnb6 := NB110_111.out; have hnc6 := NB111_110.out; have hcz7_0 : w5.cell? ⟨gb110, 0, none⟩ = some (.string a0_0) := (blk_cell BK110.out 0).trans rfl; have hcz7_1 : w5.cell? ⟨gb110, 1, none⟩ = some (.bool a0_1) := (blk_cell BK110.out 1).trans rfl; have hcz7_2 : w5.cell? ⟨gb110, 2, none⟩ = some (.int .i64 a0_2) := (blk_cell BK110.out 2).trans rfl; have hfz7_0 := blk_frozen BK110.out 0; have hfz7_1 := blk_frozen BK110.out 1; have hfz7_2 := blk_frozen BK110.out 2; have hcz8_0 : w5.cell? ⟨gb111, 0, none⟩ = some (.string (⟨#[]⟩ : ByteArray)) := (blk_cell BK111.out 0).trans rfl; have hcz8_1 : w5.cell? ⟨gb111, 1, none⟩ = some (.bool false) := (blk_cell BK111.out 1).trans rfl; have hcz8_2 : w5.cell? ⟨gb111, 2, none⟩ = some (.int .i64 0) := (blk_cell BK111.out 2).trans rfl; have hfz8_0 := blk_frozen BK111.out 0; have hfz8_1 := blk_frozen BK111.out 1; have hfz8_2 := blk_frozen BK111.out 2))
    refine bodyPost_ret (results_ct rfl _ _ gb111 23 #[.string a0_0, .bool a0_1, .int .i64 (wrap64 (a0_2 - 1))] (0, 0) _ rfl (by (with_reducible repeat (first | refine blk_drewN ?_ _ | refine blk_drew ?_ | refine blk_alloc ?_ _)); refine blk_put (cs := #[.string a0_0, .bool a0_1, .int .i64 0]) ?_ 2 _ rfl; (with_reducible repeat (first | refine blk_drewN ?_ _ | refine blk_drew ?_ | refine blk_alloc ?_ _)); refine blk_put (cs := #[.string a0_0, .bool false, .int .i64 0]) ?_ 1 _ rfl; (with_reducible repeat (first | refine blk_drewN ?_ _ | refine blk_drew ?_ | refine blk_alloc ?_ _)); refine blk_put (cs := #[.string (⟨#[]⟩ : ByteArray), .bool false, .int .i64 0]) ?_ 0 _ rfl; (with_reducible repeat (first | refine blk_drewN ?_ _ | refine blk_drew ?_ | refine blk_alloc ?_ _)); refine blk_far ?_ NB111_110.out _; (with_reducible repeat (first | refine blk_drewN ?_ _ | refine blk_drew ?_ | refine blk_alloc ?_ _)); exact BK111.out) Try.underlying23 rfl (by kernel_rfl)) rfl ?_
    exact ⟨_, by first | rfl | (simp [errW_none, errW_some] <;> rfl) | (simp [*, errW_none, errW_some] <;> rfl), by first | exact Kd.R_nil _ _ _ _ _ | exact Kd.N_nil _ _ _ _ _ | exact Kd.V_nil _ _ _ _ _ | exact Kd.Q_nil _ _ _ _ _ | exact Kd.S_nil _ _ _ _ _, by repeat (first | (with_reducible first | exact HB.out | apply below_alloc | apply pw_below_drewN | apply below_drew1 | refine below_set ?_ GE110.out | refine below_set ?_ GE111.out) | exact HB.out)⟩
  · rw [if_neg c3] at H
    have c3b0 : decide (0 < a0_2) = false := decide_eq_false c3
    clear c3
    have HC9 := Aside0.mk H
    clear H
    go_enter Try.func18, Try.ntmps18
    go_upto_region 4 with (first | ((with_reducible refine gate_dst (N := 2) rfl ?_); refine box_event ?hg (N := 2) ?hd (cs := #[.string a0_0, .bool a0_1, .int .i64 a0_2]) (t := 23) ?hr ?_; (case hd => rfl); (case hg => rfl); (case hr => first | (go_simp; done) | (go_simp; rfl)); intro gb110 hg w10 hbox hb; have n0_ := Aside0.mk (below_step (by repeat (first | (with_reducible first | exact HB.out | apply below_alloc | apply pw_below_drewN | apply below_drew1) | exact HB.out)) hb); have n1_ := Aside0.mk (hbox); have n2_ := Aside0.mk ((by rw [hg]; exact (below_size (by repeat (first | (with_reducible first | exact HB.out | apply below_alloc | apply pw_below_drewN | apply below_drew1) | exact HB.out))) : w.heap.size ≤ gb110)); have n3_ := Aside0.mk ((by rw [hg]; exact (below_size (by repeat (first | (with_reducible first | exact HB.out | apply below_alloc | apply pw_below_drewN | apply below_drew1) | exact HB.out))) : w.heap.size ≤ gb110)); clear HB; have HB := n0_; have BK110 := n1_; have GW110 := n2_; have GE110 := n3_; clear n0_ n1_ n2_ n3_; clear hb hbox hg) | ((with_reducible refine gate_dst (N := 4) rfl ?_); refine box_event ?hg (N := 4) ?hd (cs := #[.string (⟨#[]⟩ : ByteArray), .bool false, .int .i64 0]) (t := 23) ?hr ?_; (case hd => rfl); (case hg => rfl); (case hr => first | (go_simp; done) | (go_simp; rfl)); intro gb111 hg w11 hbox hb; have n0_ := Aside0.mk (blk_below (g := gb110) (o := .cells #[.string a0_0, .bool a0_1, .int .i64 a0_2] 23 (0, 0)) (by (with_reducible repeat (first | refine blk_drewN ?_ _ | refine blk_drew ?_ | refine blk_alloc ?_ _)); exact BK110.out) hb); have n1_ := Aside0.mk (below_step (by repeat (first | (with_reducible first | exact HB.out | apply below_alloc | apply pw_below_drewN | apply below_drew1 | refine below_set ?_ GE110.out) | exact HB.out)) hb); have n2_ := Aside0.mk (hbox); have n3_ := Aside0.mk ((by rw [hg]; exact (below_size (by repeat (first | (with_reducible first | exact HB.out | apply below_alloc | apply pw_below_drewN | apply below_drew1 | refine below_set ?_ GE110.out) | exact HB.out))) : w.heap.size ≤ gb111)); have n4_ := Aside0.mk ((by rw [hg]; exact (below_size (by repeat (first | (with_reducible first | exact HB.out | apply below_alloc | apply pw_below_drewN | apply below_drew1 | refine below_set ?_ GE110.out) | exact HB.out))) : w.heap.size ≤ gb111)); have n5_ := Aside0.mk ((by rw [hg]; exact Nat.ne_of_lt (blk_lt (g := gb110) (o := .cells #[.string a0_0, .bool a0_1, .int .i64 a0_2] 23 (0, 0)) (by (with_reducible repeat (first | refine blk_drewN ?_ _ | refine blk_drew ?_ | refine blk_alloc ?_ _)); exact BK110.out)) : gb110 ≠ gb111)); have n6_ := Aside0.mk ((by rw [hg]; exact Nat.ne_of_gt (blk_lt (g := gb110) (o := .cells #[.string a0_0, .bool a0_1, .int .i64 a0_2] 23 (0, 0)) (by (with_reducible repeat (first | refine blk_drewN ?_ _ | refine blk_drew ?_ | refine blk_alloc ?_ _)); exact BK110.out)) : gb111 ≠ gb110)); clear BK110; clear HB; have BK110 := n0_; have HB := n1_; have BK111 := n2_; have GW111 := n3_; have GE111 := n4_; have NB110_111 := n5_; have NB111_110 := n6_; clear n0_ n1_ n2_ n3_ n4_ n5_ n6_; clear hb hbox hg; have hnb12 := NB110_111.out; have hnc12 := NB111_110.out; have hcz13_0 : w11.cell? ⟨gb110, 0, none⟩ = some (.string a0_0) := (blk_cell BK110.out 0).trans rfl; have hcz13_1 : w11.cell? ⟨gb110, 1, none⟩ = some (.bool a0_1) := (blk_cell BK110.out 1).trans rfl; have hcz13_2 : w11.cell? ⟨gb110, 2, none⟩ = some (.int .i64 a0_2) := (blk_cell BK110.out 2).trans rfl; have hfz13_0 := blk_frozen BK110.out 0; have hfz13_1 := blk_frozen BK110.out 1; have hfz13_2 := blk_frozen BK110.out 2))
    (try simp only [Act.put, List.setIfInBounds_toArray, List.set_cons_zero, List.set_cons_succ])
    go_cut [21] (fun v21 wc => ∃ (kq : Nat) (x21_8 : Bool), v21 = .bool x21_8 ∧ Aside0 (spoorref12_comes.j0 kq a1 x21_8 a0_0 a0_1 a0_2 = some (r1, r2, r3, r4)) ∧ Aside0 (kq ≤ k) ∧ Aside0 (wc.heap[gb110]? = some (.cells #[.string a0_0, .bool a0_1, .int .i64 a0_2] 23 (0, 0))) ∧ Aside0 (wc.heap[gb111]? = some (.cells #[.string (⟨#[]⟩ : ByteArray), .bool false, .int .i64 0] 23 (0, 0))) ∧ Aside0 (Below w.heap.size w wc))
    case first =>
      have H := HC9.out
      clear HC9
      by_cases c14 : a0_0.toList = ([] : List UInt8)
      · rw [if_pos c14] at H
        have c14b0 : (a0_0.toList == ([] : List UInt8)) = true := beq_iff_eq.mpr c14
        have c14b1 : (a0_0.toList != ([] : List UInt8)) = false := bne_eq_false_iff_eq.mpr c14
        clear c14
        (first | rw [c14b0] | (simp only [i64_w, i32_w]; rw [c14b0]) | (rw [show a0_0.toList.isEmpty = true from List.isEmpty_iff.mpr (eq_of_beq c14b0)]; (try simp only [Bool.not_true, Bool.not_false])) | skip)
        have H' := Aside0.mk H
        clear H
        have hnb15 := NB110_111.out
        have hnc15 := NB111_110.out
        have hcz16_0 : w11.cell? ⟨gb110, 0, none⟩ = some (.string a0_0) := (blk_cell BK110.out 0).trans rfl
        have hcz16_1 : w11.cell? ⟨gb110, 1, none⟩ = some (.bool a0_1) := (blk_cell BK110.out 1).trans rfl
        have hcz16_2 : w11.cell? ⟨gb110, 2, none⟩ = some (.int .i64 a0_2) := (blk_cell BK110.out 2).trans rfl
        have hfz16_0 := blk_frozen BK110.out 0
        have hfz16_1 := blk_frozen BK110.out 1
        have hfz16_2 := blk_frozen BK110.out 2
        go_wp2
        go_meet
        case rel => exact ⟨_, ((a1 != 245)), (by first | rfl | (simp; done) | (simp [*]; done)), H', ⟨by first | omega | exact Nat.le_refl _⟩, ⟨by (with_reducible repeat (first | refine blk_drewN ?_ _ | refine blk_drew ?_ | refine blk_alloc ?_ _)); exact BK110.out⟩, ⟨by (with_reducible repeat (first | refine blk_drewN ?_ _ | refine blk_drew ?_ | refine blk_alloc ?_ _)); exact BK111.out⟩, ⟨by repeat (first | (with_reducible first | exact HB.out | apply below_alloc | apply pw_below_drewN | apply below_drew1 | refine below_set ?_ GE110.out | refine below_set ?_ GE111.out) | exact HB.out)⟩⟩
      · rw [if_neg c14] at H
        have c14b0 : (a0_0.toList == ([] : List UInt8)) = false := beq_eq_false_iff_ne.mpr c14
        have c14b1 : (a0_0.toList != ([] : List UInt8)) = true := bne_iff_ne.mpr c14
        (first | rw [c14b0] | (simp only [i64_w, i32_w]; rw [c14b0]) | (rw [show a0_0.toList.isEmpty = false from Bool.eq_false_iff.mpr (fun h_ => by rw [List.isEmpty_iff.mp h_] at c14b0; exact absurd c14b0 (by decide))]; (try simp only [Bool.not_true, Bool.not_false])) | skip)
        have H' := Aside0.mk H
        clear H
        have hnb17 := NB110_111.out
        have hnc17 := NB111_110.out
        have hcz18_0 : w11.cell? ⟨gb110, 0, none⟩ = some (.string a0_0) := (blk_cell BK110.out 0).trans rfl
        have hcz18_1 : w11.cell? ⟨gb110, 1, none⟩ = some (.bool a0_1) := (blk_cell BK110.out 1).trans rfl
        have hcz18_2 : w11.cell? ⟨gb110, 2, none⟩ = some (.int .i64 a0_2) := (blk_cell BK110.out 2).trans rfl
        have hfz18_0 := blk_frozen BK110.out 0
        have hfz18_1 := blk_frozen BK110.out 1
        have hfz18_2 := blk_frozen BK110.out 2
        go_wp2
        go_meet
        case rel => exact ⟨_, (false), (by first | rfl | (simp; done) | (simp [*]; done)), H', ⟨by first | omega | exact Nat.le_refl _⟩, ⟨by (with_reducible repeat (first | refine blk_drewN ?_ _ | refine blk_drew ?_ | refine blk_alloc ?_ _)); exact BK110.out⟩, ⟨by (with_reducible repeat (first | refine blk_drewN ?_ _ | refine blk_drew ?_ | refine blk_alloc ?_ _)); exact BK111.out⟩, ⟨by repeat (first | (with_reducible first | exact HB.out | apply below_alloc | apply pw_below_drewN | apply below_drew1 | refine below_set ?_ GE110.out | refine below_set ?_ GE111.out) | exact HB.out)⟩⟩
    case rest =>
      clear HC9
      try clear c1
      try clear p2
      try clear c3
      try clear c3b0
      try clear c6
      try clear p6
      try clear c12
      try clear c14
      try clear c14b0
      try clear c14b1
      try clear c15
      try clear c17
      try clear c18
      try clear hcz13_0
      try clear hcz13_1
      try clear hcz13_2
      try clear hcz16_0
      try clear hcz16_1
      try clear hcz16_2
      try clear hcz18_0
      try clear hcz18_1
      try clear hcz18_2
      try clear hcz7_0
      try clear hcz7_1
      try clear hcz7_2
      try clear hcz8_0
      try clear hcz8_1
      try clear hcz8_2
      try clear hfz13_0
      try clear hfz13_1
      try clear hfz13_2
      try clear hfz16_0
      try clear hfz16_1
      try clear hfz16_2
      try clear hfz18_0
      try clear hfz18_1
      try clear hfz18_2
      try clear hfz7_0
      try clear hfz7_1
      try clear hfz7_2
      try clear hfz8_0
      try clear hfz8_1
      try clear hfz8_2
      obtain ⟨kq, x21_8, rfl, HA, HJ8, BK110, BK111, HB⟩ := hcut
      cases kq with
      | zero => exact absurd HA.out (by simp [spoorref12_comes.j0])
      | succ kj8 =>
        have H := HA.out
        clear HA
        simp only [spoorref12_comes.j0] at H
        by_cases c19 : x21_8 = true
        · subst c19
          have H1 : (if a0_1 = true then (some (a0_0, a0_1, a0_2, ([] : List (S38)))) else (some (a0_0, true, a0_2, (([(⟨2, (⟨#[]⟩ : ByteArray)⟩ : S38)] : List (S38)))))) = some (r1, r2, r3, r4) := by rw [if_pos rfl] at H; exact H
          clear H
          have H := H1
          clear H1
          by_cases c20 : a0_1 = true
          · subst c20
            have H1 : (some (a0_0, true, a0_2, ([] : List (S38)))) = some (r1, r2, r3, r4) := by rw [if_pos rfl] at H; exact H
            clear H
            have H := H1
            clear H1
            simp only [Option.some.injEq, Prod.mk.injEq] at H
            obtain ⟨rfl, rfl, rfl, rfl⟩ := H
            have hnb21 := NB110_111.out
            have hnc21 := NB111_110.out
            have hcz22_0 : wc.cell? ⟨gb110, 0, none⟩ = some (.string a0_0) := (blk_cell BK110.out 0).trans rfl
            have hcz22_1 : wc.cell? ⟨gb110, 1, none⟩ = some (.bool true) := (blk_cell BK110.out 1).trans rfl
            have hcz22_2 : wc.cell? ⟨gb110, 2, none⟩ = some (.int .i64 a0_2) := (blk_cell BK110.out 2).trans rfl
            have hfz22_0 := blk_frozen BK110.out 0
            have hfz22_1 := blk_frozen BK110.out 1
            have hfz22_2 := blk_frozen BK110.out 2
            have hcz23_0 : wc.cell? ⟨gb111, 0, none⟩ = some (.string (⟨#[]⟩ : ByteArray)) := (blk_cell BK111.out 0).trans rfl
            have hcz23_1 : wc.cell? ⟨gb111, 1, none⟩ = some (.bool false) := (blk_cell BK111.out 1).trans rfl
            have hcz23_2 : wc.cell? ⟨gb111, 2, none⟩ = some (.int .i64 0) := (blk_cell BK111.out 2).trans rfl
            have hfz23_0 := blk_frozen BK111.out 0
            have hfz23_1 := blk_frozen BK111.out 1
            have hfz23_2 := blk_frozen BK111.out 2
            go_wp2
            refine bodyPost_ret (results_ct rfl _ _ gb111 23 #[.string a0_0, .bool true, .int .i64 a0_2] (0, 0) _ rfl (by (with_reducible repeat (first | refine blk_drewN ?_ _ | refine blk_drew ?_ | refine blk_alloc ?_ _)); refine blk_put (cs := #[.string a0_0, .bool true, .int .i64 0]) ?_ 2 _ rfl; (with_reducible repeat (first | refine blk_drewN ?_ _ | refine blk_drew ?_ | refine blk_alloc ?_ _)); refine blk_put (cs := #[.string a0_0, .bool false, .int .i64 0]) ?_ 1 _ rfl; (with_reducible repeat (first | refine blk_drewN ?_ _ | refine blk_drew ?_ | refine blk_alloc ?_ _)); refine blk_put (cs := #[.string (⟨#[]⟩ : ByteArray), .bool false, .int .i64 0]) ?_ 0 _ rfl; (with_reducible repeat (first | refine blk_drewN ?_ _ | refine blk_drew ?_ | refine blk_alloc ?_ _)); exact BK111.out) Try.underlying23 rfl (by kernel_rfl)) rfl ?_
            exact ⟨_, by first | rfl | (simp [errW_none, errW_some] <;> rfl) | (simp [*, errW_none, errW_some] <;> rfl), by first | exact Kd.R_nil _ _ _ _ _ | exact Kd.N_nil _ _ _ _ _ | exact Kd.V_nil _ _ _ _ _ | exact Kd.Q_nil _ _ _ _ _ | exact Kd.S_nil _ _ _ _ _, by repeat (first | (with_reducible first | exact HB.out | apply below_alloc | apply pw_below_drewN | apply below_drew1 | refine below_set ?_ GE110.out | refine below_set ?_ GE111.out) | exact HB.out)⟩
          · replace c20 := Bool.eq_false_iff.mpr c20
            subst c20
            have H1 : (some (a0_0, true, a0_2, (([(⟨2, (⟨#[]⟩ : ByteArray)⟩ : S38)] : List (S38))))) = some (r1, r2, r3, r4) := by rw [if_neg (show ¬ (false = true) by decide)] at H; exact H
            clear H
            have H := H1
            clear H1
            obtain ⟨y112, hy112⟩ : ∃ y_ : List (S38), y_ = (([(⟨2, (⟨#[]⟩ : ByteArray)⟩ : S38)] : List (S38))) := ⟨_, rfl⟩
            replace H : (some (a0_0, true, a0_2, y112)) = some (r1, r2, r3, r4) := by first | (rw [hy112]; with_reducible exact H) | (have H2_ := (Option.bind_some _ _).symm.trans H; rw [hy112]; with_reducible exact H2_) | (have H2_ := (Option.bind_some _ _).symm.trans H; with_reducible exact H2_) | with_reducible exact H | (rw [hy112]; exact H) | exact H
            have Ny112 := Aside0.mk hy112
            clear hy112
            simp only [Option.some.injEq, Prod.mk.injEq] at H
            obtain ⟨rfl, rfl, rfl, rfl⟩ := H
            have hnb24 := NB110_111.out
            have hnc24 := NB111_110.out
            have hcz25_0 : wc.cell? ⟨gb110, 0, none⟩ = some (.string a0_0) := (blk_cell BK110.out 0).trans rfl
            have hcz25_1 : wc.cell? ⟨gb110, 1, none⟩ = some (.bool false) := (blk_cell BK110.out 1).trans rfl
            have hcz25_2 : wc.cell? ⟨gb110, 2, none⟩ = some (.int .i64 a0_2) := (blk_cell BK110.out 2).trans rfl
            have hfz25_0 := blk_frozen BK110.out 0
            have hfz25_1 := blk_frozen BK110.out 1
            have hfz25_2 := blk_frozen BK110.out 2
            go_wp2_with (first | ((with_reducible refine gate_dst (N := 28) rfl ?_); refine Kd.R_lit k38 _ 38 ?hg (N := 28) ?hd (xs := ([(⟨2, (⟨#[]⟩ : ByteArray)⟩ : S38)] : List (S38))) (inner := [.int .u8 2, .string (⟨#[]⟩ : ByteArray)]) (ok := fun _ => True) (okp := fun _ => True) ?hr ?hp (fun _ hk => hk) trivial (Below.refl _ _) (Nat.le_refl _) (by simp) ?_; (case hd => rfl); (case hg => rfl); (case hr => first | (go_simp; done) | (go_simp; rfl)); (case hp => exact (Reps.c2 (show Kd.M k38 _ _ _ (⟨2, (⟨#[]⟩ : ByteArray)⟩ : S38) [.int .u8 2, .string (⟨#[]⟩ : ByteArray)] from (k38_mkM _ _ _ (⟨2, (⟨#[]⟩ : ByteArray)⟩ : S38) )) (Reps.none _ _))); intro v113 w26 ho27 hb hg_ hnew_; clear hg_ hnew_; (first | rw [← Ny112.out] at ho27 | (simp only [Int.reduceToNat] at ho27; rw [← Ny112.out] at ho27)); have n0_ := Aside0.mk (Kd.R_lower ho27 (below_size (by repeat (first | (with_reducible first | exact HB.out | apply below_alloc | apply pw_below_drewN | apply below_drew1 | refine below_set ?_ GE110.out | refine below_set ?_ GE111.out) | exact HB.out)))); have n1_ := Aside0.mk (blk_below (g := gb110) (o := .cells #[.string a0_0, .bool true, .int .i64 a0_2] 23 (0, 0)) (by (with_reducible repeat (first | refine blk_drewN ?_ _ | refine blk_drew ?_ | refine blk_alloc ?_ _)); refine blk_put (cs := #[.string a0_0, .bool false, .int .i64 a0_2]) ?_ 1 _ rfl; (with_reducible repeat (first | refine blk_drewN ?_ _ | refine blk_drew ?_ | refine blk_alloc ?_ _)); exact BK110.out) hb); have n2_ := Aside0.mk (blk_below (g := gb111) (o := .cells #[.string (⟨#[]⟩ : ByteArray), .bool false, .int .i64 0] 23 (0, 0)) (by (with_reducible repeat (first | refine blk_drewN ?_ _ | refine blk_drew ?_ | refine blk_alloc ?_ _)); refine blk_far ?_ NB111_110.out _; (with_reducible repeat (first | refine blk_drewN ?_ _ | refine blk_drew ?_ | refine blk_alloc ?_ _)); exact BK111.out) hb); have n3_ := Aside0.mk (below_step (by repeat (first | (with_reducible first | exact HB.out | apply below_alloc | apply pw_below_drewN | apply below_drew1 | refine below_set ?_ GE110.out | refine below_set ?_ GE111.out) | exact HB.out)) hb); clear BK110; clear BK111; clear HB; have HO114 := n0_; have BK110 := n1_; have BK111 := n2_; have HB := n3_; clear n0_ n1_ n2_ n3_; clear hb ho27; have hcz28_0 : w26.cell? ⟨gb111, 0, none⟩ = some (.string (⟨#[]⟩ : ByteArray)) := (blk_cell BK111.out 0).trans rfl; have hcz28_1 : w26.cell? ⟨gb111, 1, none⟩ = some (.bool false) := (blk_cell BK111.out 1).trans rfl; have hcz28_2 : w26.cell? ⟨gb111, 2, none⟩ = some (.int .i64 0) := (blk_cell BK111.out 2).trans rfl; have hfz28_0 := blk_frozen BK111.out 0; have hfz28_1 := blk_frozen BK111.out 1; have hfz28_2 := blk_frozen BK111.out 2))
            refine bodyPost_ret (results_ct rfl _ _ gb111 23 #[.string a0_0, .bool true, .int .i64 a0_2] (0, 0) _ rfl (by (with_reducible repeat (first | refine blk_drewN ?_ _ | refine blk_drew ?_ | refine blk_alloc ?_ _)); refine blk_put (cs := #[.string a0_0, .bool true, .int .i64 0]) ?_ 2 _ rfl; (with_reducible repeat (first | refine blk_drewN ?_ _ | refine blk_drew ?_ | refine blk_alloc ?_ _)); refine blk_put (cs := #[.string a0_0, .bool false, .int .i64 0]) ?_ 1 _ rfl; (with_reducible repeat (first | refine blk_drewN ?_ _ | refine blk_drew ?_ | refine blk_alloc ?_ _)); refine blk_put (cs := #[.string (⟨#[]⟩ : ByteArray), .bool false, .int .i64 0]) ?_ 0 _ rfl; (with_reducible repeat (first | refine blk_drewN ?_ _ | refine blk_drew ?_ | refine blk_alloc ?_ _)); exact BK111.out) Try.underlying23 rfl (by kernel_rfl)) rfl ?_
            exact ⟨_, by first | rfl | (simp [errW_none, errW_some] <;> rfl) | (simp [*, errW_none, errW_some] <;> rfl), by (with_reducible repeat (first | apply Kd.R_alloc | apply Kd.R_drewN | apply Kd.R_drew)); exact Kd.R_mono (Kd.R_far (p := ⟨gb111, 2, none⟩) (Kd.R_far (p := ⟨gb111, 1, none⟩) (Kd.R_far (p := ⟨gb111, 0, none⟩) (Kd.R_types HO114.out BK111.out (by decide)) (fun _ hk => hk.2) (.string a0_0)) (fun _ hk => hk.2) (.bool true)) (fun _ hk => hk.2) (.int .i64 a0_2)) (fun _ hk => trivial), by repeat (first | (with_reducible first | exact HB.out | apply below_alloc | apply pw_below_drewN | apply below_drew1 | refine below_set ?_ GE110.out | refine below_set ?_ GE111.out) | exact HB.out)⟩
        · replace c19 := Bool.eq_false_iff.mpr c19
          subst c19
          have H1 : ((some (([a1] : List Int) : List Int)).bind fun y115 => (if a0_0.size + (strOfNums y115).size ≤ 9223372036854775807 then (if ((a0_0 ++ (strOfNums y115)).size : Int) < 3 then (some (a0_0 ++ (strOfNums y115), false, a0_2, ([] : List (S38)))) else (if 1 < ((a0_0 ++ (strOfNums y115)).size : Int) then (if 2 < ((a0_0 ++ (strOfNums y115)).size : Int) then (if (wrap64 ((wrap64 (256 * (wrap64 (bt (a0_0 ++ (strOfNums y115)) 1)))) + (wrap64 (bt (a0_0 ++ (strOfNums y115)) 2)))) < 1 then (spoorref12_comes.j1 kj8 (wrap64 ((wrap64 (256 * (wrap64 (bt (a0_0 ++ (strOfNums y115)) 1)))) + (wrap64 (bt (a0_0 ++ (strOfNums y115)) 2)))) true (a0_0 ++ (strOfNums y115)) false a0_2) else (spoorref12_comes.j1 kj8 (wrap64 ((wrap64 (256 * (wrap64 (bt (a0_0 ++ (strOfNums y115)) 1)))) + (wrap64 (bt (a0_0 ++ (strOfNums y115)) 2)))) (decide ((wrap64 ((wrap64 (256 * (wrap64 (bt (a0_0 ++ (strOfNums y115)) 1)))) + (wrap64 (bt (a0_0 ++ (strOfNums y115)) 2)))) > 64)) (a0_0 ++ (strOfNums y115)) false a0_2)) else (none)) else (none))) else (none))) = some (r1, r2, r3, r4) := by rw [if_neg (show ¬ (false = true) by decide)] at H; exact H
          clear H
          have H := H1
          clear H1
          obtain ⟨y115, hy115⟩ : ∃ y_ : List Int, y_ = (([a1] : List Int)) := ⟨_, rfl⟩
          replace H : (if a0_0.size + (strOfNums y115).size ≤ 9223372036854775807 then (if ((a0_0 ++ (strOfNums y115)).size : Int) < 3 then (some (a0_0 ++ (strOfNums y115), false, a0_2, ([] : List (S38)))) else (if 1 < ((a0_0 ++ (strOfNums y115)).size : Int) then (if 2 < ((a0_0 ++ (strOfNums y115)).size : Int) then (if (wrap64 ((wrap64 (256 * (wrap64 (bt (a0_0 ++ (strOfNums y115)) 1)))) + (wrap64 (bt (a0_0 ++ (strOfNums y115)) 2)))) < 1 then (spoorref12_comes.j1 kj8 (wrap64 ((wrap64 (256 * (wrap64 (bt (a0_0 ++ (strOfNums y115)) 1)))) + (wrap64 (bt (a0_0 ++ (strOfNums y115)) 2)))) true (a0_0 ++ (strOfNums y115)) false a0_2) else (spoorref12_comes.j1 kj8 (wrap64 ((wrap64 (256 * (wrap64 (bt (a0_0 ++ (strOfNums y115)) 1)))) + (wrap64 (bt (a0_0 ++ (strOfNums y115)) 2)))) (decide ((wrap64 ((wrap64 (256 * (wrap64 (bt (a0_0 ++ (strOfNums y115)) 1)))) + (wrap64 (bt (a0_0 ++ (strOfNums y115)) 2)))) > 64)) (a0_0 ++ (strOfNums y115)) false a0_2)) else (none)) else (none))) else (none)) = some (r1, r2, r3, r4) := by first | (rw [hy115]; with_reducible exact H) | (have H2_ := (Option.bind_some _ _).symm.trans H; rw [hy115]; with_reducible exact H2_) | (have H2_ := (Option.bind_some _ _).symm.trans H; with_reducible exact H2_) | with_reducible exact H | (rw [hy115]; exact H) | exact H
          have Ny115 := Aside0.mk hy115
          clear hy115
          by_cases c29 : a0_0.size + (strOfNums y115).size ≤ 9223372036854775807
          · rw [if_pos c29] at H
            have c29b0 := eq_true c29
            have c29b1 : decide (a0_0.size + (strOfNums y115).size ≤ 9223372036854775807) = true := decide_eq_true c29
            try have c29b2 : (9223372036854775807 < a0_0.size + (strOfNums y115).size) = False := eq_false (Nat.not_lt.2 c29)
            by_cases c30 : ((a0_0 ++ (strOfNums y115)).size : Int) < 3
            · rw [if_pos c30] at H
              have c30b0 : decide (((a0_0 ++ (strOfNums y115)).size : Int) < 3) = true := decide_eq_true c30
              have c30b1 : decide ((a0_0 ++ (strOfNums y115)).size < 3) = true := decide_eq_true (by omega)
              clear c30
              simp only [Option.some.injEq, Prod.mk.injEq] at H
              obtain ⟨rfl, rfl, rfl, rfl⟩ := H
              have hnb31 := NB110_111.out
              have hnc31 := NB111_110.out
              have hcz32_0 : wc.cell? ⟨gb110, 0, none⟩ = some (.string a0_0) := (blk_cell BK110.out 0).trans rfl
              have hcz32_1 : wc.cell? ⟨gb110, 1, none⟩ = some (.bool a0_1) := (blk_cell BK110.out 1).trans rfl
              have hcz32_2 : wc.cell? ⟨gb110, 2, none⟩ = some (.int .i64 a0_2) := (blk_cell BK110.out 2).trans rfl
              have hfz32_0 := blk_frozen BK110.out 0
              have hfz32_1 := blk_frozen BK110.out 1
              have hfz32_2 := blk_frozen BK110.out 2
              go_wp2_with (first | ((with_reducible refine gate_dst (N := 33) rfl ?_); refine Kd.R_lit (Kd.int .u8) _ 5 ?hg (N := 33) ?hd (xs := ([a1] : List Int)) (inner := [.int .u8 a1]) (ok := fun _ => True) (okp := fun _ => True) ?hr ?hp (fun _ hk => hk) trivial (Below.refl _ _) (Nat.le_refl _) (by simp) ?_; (case hd => rfl); (case hg => rfl); (case hr => first | (go_simp; done) | (go_simp; rfl)); (case hp => exact (Reps.one (show Kd.M (Kd.int .u8) _ _ _ a1 [.int .u8 a1] from rfl) (Reps.none _ _))); intro v116 w33 ho34 hb hg_ hnew_; clear hg_ hnew_; (first | rw [← Ny115.out] at ho34 | (simp only [Int.reduceToNat] at ho34; rw [← Ny115.out] at ho34)); have n0_ := Aside0.mk (Kd.R_lower ho34 (below_size (by repeat (first | (with_reducible first | exact HB.out | apply below_alloc | apply pw_below_drewN | apply below_drew1 | refine below_set ?_ GE110.out | refine below_set ?_ GE111.out) | exact HB.out)))); have n1_ := Aside0.mk (blk_below (g := gb110) (o := .cells #[.string a0_0, .bool false, .int .i64 a0_2] 23 (0, 0)) (by (with_reducible repeat (first | refine blk_drewN ?_ _ | refine blk_drew ?_ | refine blk_alloc ?_ _)); refine blk_put (cs := #[.string a0_0, .bool a0_1, .int .i64 a0_2]) ?_ 1 _ rfl; (with_reducible repeat (first | refine blk_drewN ?_ _ | refine blk_drew ?_ | refine blk_alloc ?_ _)); exact BK110.out) hb); have n2_ := Aside0.mk (blk_below (g := gb111) (o := .cells #[.string (⟨#[]⟩ : ByteArray), .bool false, .int .i64 0] 23 (0, 0)) (by (with_reducible repeat (first | refine blk_drewN ?_ _ | refine blk_drew ?_ | refine blk_alloc ?_ _)); refine blk_far ?_ NB111_110.out _; (with_reducible repeat (first | refine blk_drewN ?_ _ | refine blk_drew ?_ | refine blk_alloc ?_ _)); exact BK111.out) hb); have n3_ := Aside0.mk (below_step (by repeat (first | (with_reducible first | exact HB.out | apply below_alloc | apply pw_below_drewN | apply below_drew1 | refine below_set ?_ GE110.out | refine below_set ?_ GE111.out) | exact HB.out)) hb); clear BK110; clear BK111; clear HB; have HO117 := n0_; have BK110 := n1_; have BK111 := n2_; have HB := n3_; clear n0_ n1_ n2_ n3_; clear hb ho34; have hcv35 := own_string (P := Try.prog) Try.underlying47 Try.underlying5 Try.underlying9 (Kd.own_of_R HO117.out); have hcz36_0 : w33.cell? ⟨gb110, 0, none⟩ = some (.string a0_0) := (blk_cell BK110.out 0).trans rfl; have hcz36_1 : w33.cell? ⟨gb110, 1, none⟩ = some (.bool false) := (blk_cell BK110.out 1).trans rfl; have hcz36_2 : w33.cell? ⟨gb110, 2, none⟩ = some (.int .i64 a0_2) := (blk_cell BK110.out 2).trans rfl; have hfz36_0 := blk_frozen BK110.out 0; have hfz36_1 := blk_frozen BK110.out 1; have hfz36_2 := blk_frozen BK110.out 2; have hcz37_0 : w33.cell? ⟨gb111, 0, none⟩ = some (.string (⟨#[]⟩ : ByteArray)) := (blk_cell BK111.out 0).trans rfl; have hcz37_1 : w33.cell? ⟨gb111, 1, none⟩ = some (.bool false) := (blk_cell BK111.out 1).trans rfl; have hcz37_2 : w33.cell? ⟨gb111, 2, none⟩ = some (.int .i64 0) := (blk_cell BK111.out 2).trans rfl; have hfz37_0 := blk_frozen BK111.out 0; have hfz37_1 := blk_frozen BK111.out 1; have hfz37_2 := blk_frozen BK111.out 2))
              refine bodyPost_ret (results_ct rfl _ _ gb111 23 #[.string (a0_0 ++ (strOfNums y115)), .bool false, .int .i64 a0_2] (0, 0) _ rfl (by (with_reducible repeat (first | refine blk_drewN ?_ _ | refine blk_drew ?_ | refine blk_alloc ?_ _)); refine blk_put (cs := #[.string (a0_0 ++ (strOfNums y115)), .bool false, .int .i64 0]) ?_ 2 _ rfl; (with_reducible repeat (first | refine blk_drewN ?_ _ | refine blk_drew ?_ | refine blk_alloc ?_ _)); refine blk_put (cs := #[.string (a0_0 ++ (strOfNums y115)), .bool false, .int .i64 0]) ?_ 1 _ rfl; (with_reducible repeat (first | refine blk_drewN ?_ _ | refine blk_drew ?_ | refine blk_alloc ?_ _)); refine blk_put (cs := #[.string (⟨#[]⟩ : ByteArray), .bool false, .int .i64 0]) ?_ 0 _ rfl; (with_reducible repeat (first | refine blk_drewN ?_ _ | refine blk_drew ?_ | refine blk_alloc ?_ _)); refine blk_far ?_ NB111_110.out _; (with_reducible repeat (first | refine blk_drewN ?_ _ | refine blk_drew ?_ | refine blk_alloc ?_ _)); exact BK111.out) Try.underlying23 rfl (by kernel_rfl)) rfl ?_
              exact ⟨_, by first | rfl | (simp [errW_none, errW_some] <;> rfl) | (simp [*, errW_none, errW_some] <;> rfl), by first | exact Kd.R_nil _ _ _ _ _ | exact Kd.N_nil _ _ _ _ _ | exact Kd.V_nil _ _ _ _ _ | exact Kd.Q_nil _ _ _ _ _ | exact Kd.S_nil _ _ _ _ _, by repeat (first | (with_reducible first | exact HB.out | apply below_alloc | apply pw_below_drewN | apply below_drew1 | refine below_set ?_ GE110.out | refine below_set ?_ GE111.out) | exact HB.out)⟩
            · rw [if_neg c30] at H
              have c30b0 : decide (((a0_0 ++ (strOfNums y115)).size : Int) < 3) = false := decide_eq_false c30
              have c30b1 : decide ((a0_0 ++ (strOfNums y115)).size < 3) = false := decide_eq_false (by omega)
              clear c30
              by_cases c38 : 1 < ((a0_0 ++ (strOfNums y115)).size : Int)
              · rw [if_pos c38] at H
                have c38b0 : decide (1 < ((a0_0 ++ (strOfNums y115)).size : Int)) = true := decide_eq_true c38
                have c38b1 : decide (1 < (a0_0 ++ (strOfNums y115)).size) = true := decide_eq_true (by omega)
                clear c38
                by_cases c40 : 2 < ((a0_0 ++ (strOfNums y115)).size : Int)
                · rw [if_pos c40] at H
                  have c40b0 : decide (2 < ((a0_0 ++ (strOfNums y115)).size : Int)) = true := decide_eq_true c40
                  have c40b1 : decide (2 < (a0_0 ++ (strOfNums y115)).size) = true := decide_eq_true (by omega)
                  clear c40
                  have HC42 := Aside0.mk H
                  clear H
                  have hnb43 := NB110_111.out
                  have hnc43 := NB111_110.out
                  have hcz44_0 : wc.cell? ⟨gb110, 0, none⟩ = some (.string a0_0) := (blk_cell BK110.out 0).trans rfl
                  have hcz44_1 : wc.cell? ⟨gb110, 1, none⟩ = some (.bool a0_1) := (blk_cell BK110.out 1).trans rfl
                  have hcz44_2 : wc.cell? ⟨gb110, 2, none⟩ = some (.int .i64 a0_2) := (blk_cell BK110.out 2).trans rfl
                  have hfz44_0 := blk_frozen BK110.out 0
                  have hfz44_1 := blk_frozen BK110.out 1
                  have hfz44_2 := blk_frozen BK110.out 2
                  try go_wp2_with (first | ((with_reducible refine gate_dst (N := 33) rfl ?_); refine Kd.R_lit (Kd.int .u8) _ 5 ?hg (N := 33) ?hd (xs := ([a1] : List Int)) (inner := [.int .u8 a1]) (ok := fun _ => True) (okp := fun _ => True) ?hr ?hp (fun _ hk => hk) trivial (Below.refl _ _) (Nat.le_refl _) (by simp) ?_; (case hd => rfl); (case hg => rfl); (case hr => first | (go_simp; done) | (go_simp; rfl)); (case hp => exact (Reps.one (show Kd.M (Kd.int .u8) _ _ _ a1 [.int .u8 a1] from rfl) (Reps.none _ _))); intro v116 w45 ho46 hb hg_ hnew_; clear hg_ hnew_; (first | rw [← Ny115.out] at ho46 | (simp only [Int.reduceToNat] at ho46; rw [← Ny115.out] at ho46)); have n0_ := Aside0.mk (Kd.R_lower ho46 (below_size (by repeat (first | (with_reducible first | exact HB.out | apply below_alloc | apply pw_below_drewN | apply below_drew1 | refine below_set ?_ GE110.out | refine below_set ?_ GE111.out) | exact HB.out)))); have n1_ := Aside0.mk (blk_below (g := gb110) (o := .cells #[.string a0_0, .bool false, .int .i64 a0_2] 23 (0, 0)) (by (with_reducible repeat (first | refine blk_drewN ?_ _ | refine blk_drew ?_ | refine blk_alloc ?_ _)); refine blk_put (cs := #[.string a0_0, .bool a0_1, .int .i64 a0_2]) ?_ 1 _ rfl; (with_reducible repeat (first | refine blk_drewN ?_ _ | refine blk_drew ?_ | refine blk_alloc ?_ _)); exact BK110.out) hb); have n2_ := Aside0.mk (blk_below (g := gb111) (o := .cells #[.string (⟨#[]⟩ : ByteArray), .bool false, .int .i64 0] 23 (0, 0)) (by (with_reducible repeat (first | refine blk_drewN ?_ _ | refine blk_drew ?_ | refine blk_alloc ?_ _)); refine blk_far ?_ NB111_110.out _; (with_reducible repeat (first | refine blk_drewN ?_ _ | refine blk_drew ?_ | refine blk_alloc ?_ _)); exact BK111.out) hb); have n3_ := Aside0.mk (below_step (by repeat (first | (with_reducible first | exact HB.out | apply below_alloc | apply pw_below_drewN | apply below_drew1 | refine below_set ?_ GE110.out | refine below_set ?_ GE111.out) | exact HB.out)) hb); clear BK110; clear BK111; clear HB; have HO117 := n0_; have BK110 := n1_; have BK111 := n2_; have HB := n3_; clear n0_ n1_ n2_ n3_; clear hb ho46; have hcv47 := own_string (P := Try.prog) Try.underlying47 Try.underlying5 Try.underlying9 (Kd.own_of_R HO117.out); have hcz48_0 : w45.cell? ⟨gb110, 0, none⟩ = some (.string a0_0) := (blk_cell BK110.out 0).trans rfl; have hcz48_1 : w45.cell? ⟨gb110, 1, none⟩ = some (.bool false) := (blk_cell BK110.out 1).trans rfl; have hcz48_2 : w45.cell? ⟨gb110, 2, none⟩ = some (.int .i64 a0_2) := (blk_cell BK110.out 2).trans rfl; have hfz48_0 := blk_frozen BK110.out 0; have hfz48_1 := blk_frozen BK110.out 1; have hfz48_2 := blk_frozen BK110.out 2))
                  have n0_ : Aside0 (Kd.R (Kd.int .u8) 5 (w45.setCell ⟨gb110, 0, none⟩ (.string (a0_0 ++ (strOfNums y115)))) w.heap.size (fun _ => True) v116 y115) := ⟨by (with_reducible repeat (first | apply Kd.R_alloc | apply Kd.R_drewN | apply Kd.R_drew)); exact Kd.R_mono (Kd.R_far (p := ⟨gb110, 0, none⟩) (Kd.R_types HO117.out BK110.out (by decide)) (fun _ hk => hk.2) (.string (a0_0 ++ (strOfNums y115)))) (fun _ hk => trivial)⟩
                  have n1_ : Aside0 ((w45.setCell ⟨gb110, 0, none⟩ (.string (a0_0 ++ (strOfNums y115)))).heap[gb110]? = some (.cells #[.string (a0_0 ++ (strOfNums y115)), .bool false, .int .i64 a0_2] 23 (0, 0))) := ⟨by (with_reducible repeat (first | refine blk_drewN ?_ _ | refine blk_drew ?_ | refine blk_alloc ?_ _)); refine blk_put (cs := #[.string a0_0, .bool false, .int .i64 a0_2]) ?_ 0 _ rfl; (with_reducible repeat (first | refine blk_drewN ?_ _ | refine blk_drew ?_ | refine blk_alloc ?_ _)); exact BK110.out⟩
                  have n2_ : Aside0 ((w45.setCell ⟨gb110, 0, none⟩ (.string (a0_0 ++ (strOfNums y115)))).heap[gb111]? = some (.cells #[.string (⟨#[]⟩ : ByteArray), .bool false, .int .i64 0] 23 (0, 0))) := ⟨by (with_reducible repeat (first | refine blk_drewN ?_ _ | refine blk_drew ?_ | refine blk_alloc ?_ _)); refine blk_far ?_ NB111_110.out _; (with_reducible repeat (first | refine blk_drewN ?_ _ | refine blk_drew ?_ | refine blk_alloc ?_ _)); exact BK111.out⟩
                  have n3_ : Aside0 (Below w.heap.size w (w45.setCell ⟨gb110, 0, none⟩ (.string (a0_0 ++ (strOfNums y115))))) := ⟨by repeat (first | (with_reducible first | exact HB.out | apply below_alloc | apply pw_below_drewN | apply below_drew1 | refine below_set ?_ GE110.out | refine below_set ?_ GE111.out) | exact HB.out)⟩
                  (try clear HO117)
                  (try clear BK110)
                  (try clear BK111)
                  (try clear HB)
                  generalize (w45.setCell ⟨gb110, 0, none⟩ (.string (a0_0 ++ (strOfNums y115)))) = w49 at n0_ n1_ n2_ n3_ ⊢
                  have HO117 := n0_
                  have BK110 := n1_
                  have BK111 := n2_
                  have HB := n3_
                  clear n0_ n1_ n2_ n3_
                  have n0_ := Aside0.mk (Kd.R_drew HO117.out)
                  have n1_ := Aside0.mk (blk_drew BK110.out)
                  have n2_ := Aside0.mk (blk_drew BK111.out)
                  have n3_ := Aside0.mk (below_drew1 HB.out)
                  clear HO117
                  clear BK110
                  clear BK111
                  clear HB
                  have HO117 := n0_
                  have BK110 := n1_
                  have BK111 := n2_
                  have HB := n3_
                  clear n0_ n1_ n2_ n3_
                  have p39 : 0 ≤ (1 : Int) := (by omega)
                  have q39 : 1 < (a0_0 ++ (strOfNums y115)).size := (by have : (1 : Int) < ((a0_0 ++ (strOfNums y115)).size : Int) := of_decide_eq_true (by first | (with_reducible assumption) | assumption); first | omega | (simp only [ByteArray.size_append]; omega))
                  have hx39 : ∀ h : 1 < (a0_0 ++ (strOfNums y115)).size, (((a0_0 ++ (strOfNums y115))[1]'h).toNat : Int) = bt (a0_0 ++ (strOfNums y115)) 1 := bt_at (a0_0 ++ (strOfNums y115)) 1
                  clear p39
                  have qi39 : (1 < ((a0_0 ++ (strOfNums y115)).size : Int)) = True := eq_true (of_decide_eq_true (by first | (with_reducible assumption) | assumption))
                  replace q39 := eq_true q39
                  have p41 : 0 ≤ (2 : Int) := (by omega)
                  have q41 : 2 < (a0_0 ++ (strOfNums y115)).size := (by have : (2 : Int) < ((a0_0 ++ (strOfNums y115)).size : Int) := of_decide_eq_true (by first | (with_reducible assumption) | assumption); first | omega | (simp only [ByteArray.size_append]; omega))
                  have hx41 : ∀ h : 2 < (a0_0 ++ (strOfNums y115)).size, (((a0_0 ++ (strOfNums y115))[2]'h).toNat : Int) = bt (a0_0 ++ (strOfNums y115)) 2 := bt_at (a0_0 ++ (strOfNums y115)) 2
                  clear p41
                  have qi41 : (2 < ((a0_0 ++ (strOfNums y115)).size : Int)) = True := eq_true (of_decide_eq_true (by first | (with_reducible assumption) | assumption))
                  replace q41 := eq_true q41
                  refine start_ (n := 11) (S := fun w' => w'.cell? ⟨gb110, 0, none⟩ = some (.string (a0_0 ++ (strOfNums y115))) ∧ w'.cell? ⟨gb110, 1, none⟩ = some (.bool false) ∧ w'.cell? ⟨gb110, 2, none⟩ = some (.int .i64 a0_2)) (ds := []) #[false, false, false, false, false, false, false, false, false, false, false] (by kernel_rfl) rfl rfl ⟨(blk_cell BK110.out 0).trans rfl, (blk_cell BK110.out 1).trans rfl, (blk_cell BK110.out 2).trans rfl⟩ (fun hHeld => ?_); refine with_tabW spoorref12_comes.tab13 spoorref12_comes.bits13 (fun HT_ HW_ => ?_)
                  generalize w49.drew = w50 at HO117 BK110 BK111 HB hHeld ⊢
                  refine pure_ (i := 0) (N := some 42) (v := ?_) (a' := ?_) #[true, false, false, false, false, false, false, false, false, false, false] rfl rfl (any_of HT_.out (by kernel_rfl)) (fun _ _ _ h => h) (Or.inl ⟨by rfl, ?_⟩) ?_ ?_
                  rotate_left
                  · intro w'
                    go_simp
                    with_reducible rfl
                  rotate_left
                  · simp only [Act.put, List.setIfInBounds_toArray, List.set_cons_zero, List.set_cons_succ, i64_w, i32_w]
                    rfl
                  refine pure_ (i := 5) (N := some 47) (v := ?_) (a' := ?_) #[true, false, false, false, false, true, false, false, false, false, false] rfl rfl (any_of HT_.out (by kernel_rfl)) (fun _ _ _ h => h) (Or.inl ⟨by rfl, ?_⟩) ?_ ?_
                  rotate_left
                  · intro w'
                    go_simp
                    with_reducible rfl
                  rotate_left
                  · simp only [Act.put, List.setIfInBounds_toArray, List.set_cons_zero, List.set_cons_succ, i64_w, i32_w]
                    rfl
                  refine take_ (i := 1) (N := some 43) (v := ?_) (a' := ?_) #[true, true, false, false, false, true, false, false, false, false, false] rfl rfl (take_ofW HT_.out HW_.out (by kernel_rfl)) (fun _ _ _ h => h) (Or.inl ⟨by rfl, ?_⟩) hHeld ?_ ?_
                  rotate_left
                  · rintro w' ⟨s0, s1, s2⟩
                    go_simp
                    with_reducible rfl
                  rotate_left
                  · simp only [Act.put, List.setIfInBounds_toArray, List.set_cons_zero, List.set_cons_succ, i64_w, i32_w]
                    rfl
                  refine take_ (i := 2) (N := some 44) (v := ?_) (a' := ?_) #[true, true, true, false, false, true, false, false, false, false, false] rfl rfl (take_ofW HT_.out HW_.out (by kernel_rfl)) (fun _ _ _ h => h) (Or.inl ⟨by rfl, ?_⟩) hHeld ?_ ?_
                  rotate_left
                  · rintro w' ⟨s0, s1, s2⟩
                    go_simp
                    with_reducible rfl
                  rotate_left
                  · simp only [Act.put, List.setIfInBounds_toArray, List.set_cons_zero, List.set_cons_succ, i64_w, i32_w]
                    rfl
                  refine pure_ (i := 3) (N := some 45) (v := ?_) (a' := ?_) #[true, true, true, true, false, true, false, false, false, false, false] rfl rfl (any_of HT_.out (by kernel_rfl)) (fun _ _ _ h => h) (Or.inl ⟨by rfl, ?_⟩) ?_ ?_
                  rotate_left
                  · intro w'
                    go_simp
                    with_reducible rfl
                  rotate_left
                  · simp only [Act.put, List.setIfInBounds_toArray, List.set_cons_zero, List.set_cons_succ, i64_w, i32_w]
                    rfl
                  refine pure_ (i := 4) (N := some 46) (v := ?_) (a' := ?_) #[true, true, true, true, true, true, false, false, false, false, false] rfl rfl (any_of HT_.out (by kernel_rfl)) (fun _ _ _ h => h) (Or.inl ⟨by rfl, ?_⟩) ?_ ?_
                  rotate_left
                  · intro w'
                    go_simp
                    with_reducible rfl
                  rotate_left
                  · simp only [Act.put, List.setIfInBounds_toArray, List.set_cons_zero, List.set_cons_succ, i64_w, i32_w]
                    rfl
                  refine take_ (i := 6) (N := some 48) (v := ?_) (a' := ?_) #[true, true, true, true, true, true, true, false, false, false, false] rfl rfl (take_ofW HT_.out HW_.out (by kernel_rfl)) (fun _ _ _ h => h) (Or.inl ⟨by rfl, ?_⟩) hHeld ?_ ?_
                  rotate_left
                  · rintro w' ⟨s0, s1, s2⟩
                    go_simp
                    with_reducible rfl
                  rotate_left
                  · simp only [Act.put, List.setIfInBounds_toArray, List.set_cons_zero, List.set_cons_succ, i64_w, i32_w]
                    rfl
                  refine take_ (i := 7) (N := some 49) (v := ?_) (a' := ?_) #[true, true, true, true, true, true, true, true, false, false, false] rfl rfl (take_ofW HT_.out HW_.out (by kernel_rfl)) (fun _ _ _ h => h) (Or.inl ⟨by rfl, ?_⟩) hHeld ?_ ?_
                  rotate_left
                  · rintro w' ⟨s0, s1, s2⟩
                    go_simp
                    with_reducible rfl
                  rotate_left
                  · simp only [Act.put, List.setIfInBounds_toArray, List.set_cons_zero, List.set_cons_succ, i64_w, i32_w]
                    rfl
                  refine pure_ (i := 8) (N := some 50) (v := ?_) (a' := ?_) #[true, true, true, true, true, true, true, true, true, false, false] rfl rfl (any_of HT_.out (by kernel_rfl)) (fun _ _ _ h => h) (Or.inl ⟨by rfl, ?_⟩) ?_ ?_
                  rotate_left
                  · intro w'
                    go_simp
                    with_reducible rfl
                  rotate_left
                  · simp only [Act.put, List.setIfInBounds_toArray, List.set_cons_zero, List.set_cons_succ, i64_w, i32_w]
                    rfl
                  refine pure_ (i := 9) (N := some 51) (v := ?_) (a' := ?_) #[true, true, true, true, true, true, true, true, true, true, false] rfl rfl (any_of HT_.out (by kernel_rfl)) (fun _ _ _ h => h) (Or.inl ⟨by rfl, ?_⟩) ?_ ?_
                  rotate_left
                  · intro w'
                    go_simp
                    with_reducible rfl
                  rotate_left
                  · simp only [Act.put, List.setIfInBounds_toArray, List.set_cons_zero, List.set_cons_succ, i64_w, i32_w]
                    rfl
                  refine pure_ (i := 10) (N := some 6) (v := ?_) (a' := ?_) #[true, true, true, true, true, true, true, true, true, true, true] rfl rfl (any_of HT_.out (by kernel_rfl)) (fun _ _ _ h => h) (Or.inl ⟨by rfl, ?_⟩) ?_ ?_
                  rotate_left
                  · intro w'
                    go_simp
                    with_reducible rfl
                  rotate_left
                  · simp only [Act.put, List.setIfInBounds_toArray, List.set_cons_zero, List.set_cons_succ, i64_w, i32_w]
                    rfl
                  refine done_ (done_of HT_.out (by kernel_rfl)) ?_
                  go_upto_region 14 with (fail)
                  go_cut [57] (fun v57 wc => ∃ (kq : Nat) (x57_41 : Bool), v57 = .bool x57_41 ∧ Aside0 (spoorref12_comes.j1 kq (wrap64 ((wrap64 (256 * (wrap64 (bt (a0_0 ++ (strOfNums y115)) 1)))) + (wrap64 (bt (a0_0 ++ (strOfNums y115)) 2)))) x57_41 (a0_0 ++ (strOfNums y115)) false a0_2 = some (r1, r2, r3, r4)) ∧ Aside0 (kq ≤ kj8) ∧ Aside0 (wc.heap[gb110]? = some (.cells #[.string (a0_0 ++ (strOfNums y115)), .bool false, .int .i64 a0_2] 23 (0, 0))) ∧ Aside0 (wc.heap[gb111]? = some (.cells #[.string (⟨#[]⟩ : ByteArray), .bool false, .int .i64 0] 23 (0, 0))) ∧ Aside0 (Below w.heap.size w wc))
                  case first =>
                    have H := HC42.out
                    clear HC42
                    by_cases c51 : (wrap64 ((wrap64 (256 * (wrap64 (bt (a0_0 ++ (strOfNums y115)) 1)))) + (wrap64 (bt (a0_0 ++ (strOfNums y115)) 2)))) < 1
                    · rw [if_pos c51] at H
                      have c51b0 : decide ((wrap64 ((wrap64 (256 * (wrap64 (bt (a0_0 ++ (strOfNums y115)) 1)))) + (wrap64 (bt (a0_0 ++ (strOfNums y115)) 2)))) < 1) = true := decide_eq_true c51
                      clear c51
                      (first | rw [c51b0] | (simp only [i64_w, i32_w]; rw [c51b0]) | skip)
                      have H' := Aside0.mk H
                      clear H
                      go_wp2
                      go_meet
                      case rel => exact ⟨_, (true), (by first | rfl | (simp; done) | (simp [*]; done)), H', ⟨by have := HJ8.out; first | omega | exact Nat.le_refl _⟩, ⟨by (with_reducible repeat (first | refine blk_drewN ?_ _ | refine blk_drew ?_ | refine blk_alloc ?_ _)); exact BK110.out⟩, ⟨by (with_reducible repeat (first | refine blk_drewN ?_ _ | refine blk_drew ?_ | refine blk_alloc ?_ _)); exact BK111.out⟩, ⟨by repeat (first | (with_reducible first | exact HB.out | apply below_alloc | apply pw_below_drewN | apply below_drew1 | refine below_set ?_ GE110.out | refine below_set ?_ GE111.out) | exact HB.out)⟩⟩
                    · rw [if_neg c51] at H
                      have c51b0 : decide ((wrap64 ((wrap64 (256 * (wrap64 (bt (a0_0 ++ (strOfNums y115)) 1)))) + (wrap64 (bt (a0_0 ++ (strOfNums y115)) 2)))) < 1) = false := decide_eq_false c51
                      clear c51
                      (first | rw [c51b0] | (simp only [i64_w, i32_w]; rw [c51b0]) | skip)
                      have H' := Aside0.mk H
                      clear H
                      go_wp2
                      go_meet
                      case rel => exact ⟨_, (decide ((wrap64 ((wrap64 (256 * (wrap64 (bt (a0_0 ++ (strOfNums y115)) 1)))) + (wrap64 (bt (a0_0 ++ (strOfNums y115)) 2)))) > 64)), (by first | rfl | (simp; done) | (simp [*]; done)), H', ⟨by have := HJ8.out; first | omega | exact Nat.le_refl _⟩, ⟨by (with_reducible repeat (first | refine blk_drewN ?_ _ | refine blk_drew ?_ | refine blk_alloc ?_ _)); exact BK110.out⟩, ⟨by (with_reducible repeat (first | refine blk_drewN ?_ _ | refine blk_drew ?_ | refine blk_alloc ?_ _)); exact BK111.out⟩, ⟨by repeat (first | (with_reducible first | exact HB.out | apply below_alloc | apply pw_below_drewN | apply below_drew1 | refine below_set ?_ GE110.out | refine below_set ?_ GE111.out) | exact HB.out)⟩⟩
                  case rest =>
                    clear HC42
                    try clear c1
                    try clear c2
                    try clear p2
                    try clear c3
                    try clear c3b0
                    try clear p3
                    try clear q3
                    try clear hx3
                    try clear hcv3
                    try clear qi3
                    try clear c4
                    try clear p4
                    try clear q4
                    try clear hx4
                    try clear hcv4
                    try clear qi4
                    try clear c5
                    try clear c6
                    try clear p6
                    try clear c12
                    try clear c14
                    try clear c14b0
                    try clear c14b1
                    try clear c15
                    try clear c17
                    try clear c18
                    try clear c19
                    try clear c20
                    try clear c21
                    try clear c24
                    try clear c29
                    try clear c29b0
                    try clear c29b1
                    try clear c29b2
                    try clear c30
                    try clear c30b0
                    try clear c30b1
                    try clear c31
                    try clear hcv35
                    try clear c38
                    try clear c38b0
                    try clear c38b1
                    try clear p39
                    try clear q39
                    try clear hx39
                    try clear qi39
                    try clear c40
                    try clear c40b0
                    try clear c40b1
                    try clear p41
                    try clear q41
                    try clear hx41
                    try clear qi41
                    try clear c43
                    try clear hcv47
                    try clear c51
                    try clear c51b0
                    try clear hcz13_0
                    try clear hcz13_1
                    try clear hcz13_2
                    try clear hcz16_0
                    try clear hcz16_1
                    try clear hcz16_2
                    try clear hcz18_0
                    try clear hcz18_1
                    try clear hcz18_2
                    try clear hcz22_0
                    try clear hcz22_1
                    try clear hcz22_2
                    try clear hcz23_0
                    try clear hcz23_1
                    try clear hcz23_2
                    try clear hcz25_0
                    try clear hcz25_1
                    try clear hcz25_2
                    try clear hcz28_0
                    try clear hcz28_1
                    try clear hcz28_2
                    try clear hcz32_0
                    try clear hcz32_1
                    try clear hcz32_2
                    try clear hcz36_0
                    try clear hcz36_1
                    try clear hcz36_2
                    try clear hcz37_0
                    try clear hcz37_1
                    try clear hcz37_2
                    try clear hcz44_0
                    try clear hcz44_1
                    try clear hcz44_2
                    try clear hcz48_0
                    try clear hcz48_1
                    try clear hcz48_2
                    try clear hcz7_0
                    try clear hcz7_1
                    try clear hcz7_2
                    try clear hcz8_0
                    try clear hcz8_1
                    try clear hcz8_2
                    try clear hfz13_0
                    try clear hfz13_1
                    try clear hfz13_2
                    try clear hfz16_0
                    try clear hfz16_1
                    try clear hfz16_2
                    try clear hfz18_0
                    try clear hfz18_1
                    try clear hfz18_2
                    try clear hfz22_0
                    try clear hfz22_1
                    try clear hfz22_2
                    try clear hfz23_0
                    try clear hfz23_1
                    try clear hfz23_2
                    try clear hfz25_0
                    try clear hfz25_1
                    try clear hfz25_2
                    try clear hfz28_0
                    try clear hfz28_1
                    try clear hfz28_2
                    try clear hfz32_0
                    try clear hfz32_1
                    try clear hfz32_2
                    try clear hfz36_0
                    try clear hfz36_1
                    try clear hfz36_2
                    try clear hfz37_0
                    try clear hfz37_1
                    try clear hfz37_2
                    try clear hfz44_0
                    try clear hfz44_1
                    try clear hfz44_2
                    try clear hfz48_0
                    try clear hfz48_1
                    try clear hfz48_2
                    try clear hfz7_0
                    try clear hfz7_1
                    try clear hfz7_2
                    try clear hfz8_0
                    try clear hfz8_1
                    try clear hfz8_2
                    try clear p2
                    try clear p39
                    try clear p41
                    try clear p6
                    try clear q39
                    try clear q41
                    obtain ⟨kq, x57_41, rfl, HA, HJ41, BK110, BK111, HB⟩ := hcut
                    cases kq with
                    | zero => exact absurd HA.out (by simp [spoorref12_comes.j1])
                    | succ kj41 =>
                      have H := HA.out
                      clear HA
                      simp only [spoorref12_comes.j1] at H
                      by_cases c52 : x57_41 = true
                      · subst c52
                        have H1 : (some ((⟨#[]⟩ : ByteArray), false, (wrap64 ((wrap64 (256 * (wrap64 (bt (a0_0 ++ (strOfNums y115)) 1)))) + (wrap64 (bt (a0_0 ++ (strOfNums y115)) 2)))), (([(⟨3, (⟨#[]⟩ : ByteArray)⟩ : S38)] : List (S38))))) = some (r1, r2, r3, r4) := by rw [if_pos rfl] at H; exact H
                        clear H
                        have H := H1
                        clear H1
                        obtain ⟨y118, hy118⟩ : ∃ y_ : List (S38), y_ = (([(⟨3, (⟨#[]⟩ : ByteArray)⟩ : S38)] : List (S38))) := ⟨_, rfl⟩
                        replace H : (some ((⟨#[]⟩ : ByteArray), false, (wrap64 ((wrap64 (256 * (wrap64 (bt (a0_0 ++ (strOfNums y115)) 1)))) + (wrap64 (bt (a0_0 ++ (strOfNums y115)) 2)))), y118)) = some (r1, r2, r3, r4) := by first | (rw [hy118]; with_reducible exact H) | (have H2_ := (Option.bind_some _ _).symm.trans H; rw [hy118]; with_reducible exact H2_) | (have H2_ := (Option.bind_some _ _).symm.trans H; with_reducible exact H2_) | with_reducible exact H | (rw [hy118]; exact H) | exact H
                        have Ny118 := Aside0.mk hy118
                        clear hy118
                        simp only [Option.some.injEq, Prod.mk.injEq] at H
                        obtain ⟨rfl, rfl, rfl, rfl⟩ := H
                        go_wp2_with (first | ((with_reducible refine gate_dst (N := 61) rfl ?_); refine Kd.R_lit k38 _ 38 ?hg (N := 61) ?hd (xs := ([(⟨3, (⟨#[]⟩ : ByteArray)⟩ : S38)] : List (S38))) (inner := [.int .u8 3, .string (⟨#[]⟩ : ByteArray)]) (ok := fun _ => True) (okp := fun _ => True) ?hr ?hp (fun _ hk => hk) trivial (Below.refl _ _) (Nat.le_refl _) (by simp) ?_; (case hd => rfl); (case hg => rfl); (case hr => first | (go_simp; done) | (go_simp; rfl)); (case hp => exact (Reps.c2 (show Kd.M k38 _ _ _ (⟨3, (⟨#[]⟩ : ByteArray)⟩ : S38) [.int .u8 3, .string (⟨#[]⟩ : ByteArray)] from (k38_mkM _ _ _ (⟨3, (⟨#[]⟩ : ByteArray)⟩ : S38) )) (Reps.none _ _))); intro v119 w53 ho54 hb hg_ hnew_; clear hg_ hnew_; (first | rw [← Ny118.out] at ho54 | (simp only [Int.reduceToNat] at ho54; rw [← Ny118.out] at ho54)); have n0_ := Aside0.mk (Kd.R_lower ho54 (below_size (by repeat (first | (with_reducible first | exact HB.out | apply below_alloc | apply pw_below_drewN | apply below_drew1 | refine below_set ?_ GE110.out | refine below_set ?_ GE111.out) | exact HB.out)))); have n1_ := Aside0.mk (blk_below (g := gb110) (o := .cells #[.string (a0_0 ++ (strOfNums y115)), .bool false, .int .i64 a0_2] 23 (0, 0)) (by (with_reducible repeat (first | refine blk_drewN ?_ _ | refine blk_drew ?_ | refine blk_alloc ?_ _)); exact BK110.out) hb); have n2_ := Aside0.mk (blk_below (g := gb111) (o := .cells #[.string (⟨#[]⟩ : ByteArray), .bool false, .int .i64 0] 23 (0, 0)) (by (with_reducible repeat (first | refine blk_drewN ?_ _ | refine blk_drew ?_ | refine blk_alloc ?_ _)); exact BK111.out) hb); have n3_ := Aside0.mk (below_step (by repeat (first | (with_reducible first | exact HB.out | apply below_alloc | apply pw_below_drewN | apply below_drew1 | refine below_set ?_ GE110.out | refine below_set ?_ GE111.out) | exact HB.out)) hb); clear BK110; clear BK111; clear HB; have HO120 := n0_; have BK110 := n1_; have BK111 := n2_; have HB := n3_; clear n0_ n1_ n2_ n3_; clear hb ho54; have hnb55 := NB111_110.out; have hnc55 := NB110_111.out; have hcz56_0 : w53.cell? ⟨gb111, 0, none⟩ = some (.string (⟨#[]⟩ : ByteArray)) := (blk_cell BK111.out 0).trans rfl; have hcz56_1 : w53.cell? ⟨gb111, 1, none⟩ = some (.bool false) := (blk_cell BK111.out 1).trans rfl; have hcz56_2 : w53.cell? ⟨gb111, 2, none⟩ = some (.int .i64 0) := (blk_cell BK111.out 2).trans rfl; have hfz56_0 := blk_frozen BK111.out 0; have hfz56_1 := blk_frozen BK111.out 1; have hfz56_2 := blk_frozen BK111.out 2))
                        refine bodyPost_ret (results_ct rfl _ _ gb111 23 #[.string (⟨#[]⟩ : ByteArray), .bool false, .int .i64 (wrap64 ((wrap64 (256 * (wrap64 (bt (a0_0 ++ (strOfNums y115)) 1)))) + (wrap64 (bt (a0_0 ++ (strOfNums y115)) 2))))] (0, 0) _ rfl (by (with_reducible repeat (first | refine blk_drewN ?_ _ | refine blk_drew ?_ | refine blk_alloc ?_ _)); refine blk_put (cs := #[.string (⟨#[]⟩ : ByteArray), .bool false, .int .i64 0]) ?_ 2 _ rfl; (with_reducible repeat (first | refine blk_drewN ?_ _ | refine blk_drew ?_ | refine blk_alloc ?_ _)); refine blk_put (cs := #[.string (⟨#[]⟩ : ByteArray), .bool false, .int .i64 0]) ?_ 1 _ rfl; (with_reducible repeat (first | refine blk_drewN ?_ _ | refine blk_drew ?_ | refine blk_alloc ?_ _)); refine blk_put (cs := #[.string (⟨#[]⟩ : ByteArray), .bool false, .int .i64 0]) ?_ 0 _ rfl; (with_reducible repeat (first | refine blk_drewN ?_ _ | refine blk_drew ?_ | refine blk_alloc ?_ _)); exact BK111.out) Try.underlying23 rfl (by kernel_rfl)) rfl ?_
                        exact ⟨_, by first | rfl | (simp [errW_none, errW_some] <;> rfl) | (simp [*, errW_none, errW_some] <;> rfl), by (with_reducible repeat (first | apply Kd.R_alloc | apply Kd.R_drewN | apply Kd.R_drew)); exact Kd.R_mono (Kd.R_far (p := ⟨gb111, 2, none⟩) (Kd.R_far (p := ⟨gb111, 1, none⟩) (Kd.R_far (p := ⟨gb111, 0, none⟩) (Kd.R_types HO120.out BK111.out (by decide)) (fun _ hk => hk.2) (.string (⟨#[]⟩ : ByteArray))) (fun _ hk => hk.2) (.bool false)) (fun _ hk => hk.2) (.int .i64 (wrap64 ((wrap64 (256 * (wrap64 (bt (a0_0 ++ (strOfNums y115)) 1)))) + (wrap64 (bt (a0_0 ++ (strOfNums y115)) 2)))))) (fun _ hk => trivial), by repeat (first | (with_reducible first | exact HB.out | apply below_alloc | apply pw_below_drewN | apply below_drew1 | refine below_set ?_ GE110.out | refine below_set ?_ GE111.out) | exact HB.out)⟩
                      · replace c52 := Bool.eq_false_iff.mpr c52
                        subst c52
                        have H1 : (if ((a0_0 ++ (strOfNums y115)).size : Int) = (wrap64 (3 + (wrap64 ((wrap64 (256 * (wrap64 (bt (a0_0 ++ (strOfNums y115)) 1)))) + (wrap64 (bt (a0_0 ++ (strOfNums y115)) 2)))))) then (if 3 ≤ ((a0_0 ++ (strOfNums y115)).size : Int) then (some ((⟨#[]⟩ : ByteArray), false, 0, (([(⟨1, (a0_0 ++ (strOfNums y115)).extract 3 (a0_0 ++ (strOfNums y115)).size⟩ : S38)] : List (S38))))) else (none)) else (some ((a0_0 ++ (strOfNums y115)), false, a0_2, ([] : List (S38))))) = some (r1, r2, r3, r4) := by rw [if_neg (show ¬ (false = true) by decide)] at H; exact H
                        clear H
                        have H := H1
                        clear H1
                        by_cases c57 : ((a0_0 ++ (strOfNums y115)).size : Int) = (wrap64 (3 + (wrap64 ((wrap64 (256 * (wrap64 (bt (a0_0 ++ (strOfNums y115)) 1)))) + (wrap64 (bt (a0_0 ++ (strOfNums y115)) 2))))))
                        · rw [if_pos c57] at H
                          have c57b0 : (((a0_0 ++ (strOfNums y115)).size : Int) == (wrap64 (3 + (wrap64 ((wrap64 (256 * (wrap64 (bt (a0_0 ++ (strOfNums y115)) 1)))) + (wrap64 (bt (a0_0 ++ (strOfNums y115)) 2))))))) = true := beq_iff_eq.mpr c57
                          have c57b1 : (((a0_0 ++ (strOfNums y115)).size : Int) != (wrap64 (3 + (wrap64 ((wrap64 (256 * (wrap64 (bt (a0_0 ++ (strOfNums y115)) 1)))) + (wrap64 (bt (a0_0 ++ (strOfNums y115)) 2))))))) = false := bne_eq_false_iff_eq.mpr c57
                          clear c57
                          by_cases c58 : 3 ≤ ((a0_0 ++ (strOfNums y115)).size : Int)
                          · rw [if_pos c58] at H
                            have c58b0 := eq_true c58
                            have c58b1 : decide (3 ≤ ((a0_0 ++ (strOfNums y115)).size : Int)) = true := decide_eq_true c58
                            obtain ⟨y121, hy121⟩ : ∃ y_ : List (S38), y_ = (([(⟨1, (a0_0 ++ (strOfNums y115)).extract 3 (a0_0 ++ (strOfNums y115)).size⟩ : S38)] : List (S38))) := ⟨_, rfl⟩
                            replace H : (some ((⟨#[]⟩ : ByteArray), false, 0, y121)) = some (r1, r2, r3, r4) := by first | (rw [hy121]; with_reducible exact H) | (have H2_ := (Option.bind_some _ _).symm.trans H; rw [hy121]; with_reducible exact H2_) | (have H2_ := (Option.bind_some _ _).symm.trans H; with_reducible exact H2_) | with_reducible exact H | (rw [hy121]; exact H) | exact H
                            have Ny121 := Aside0.mk hy121
                            clear hy121
                            simp only [Option.some.injEq, Prod.mk.injEq] at H
                            obtain ⟨rfl, rfl, rfl, rfl⟩ := H
                            have hnb59 := NB110_111.out
                            have hnc59 := NB111_110.out
                            have hcz60_0 : wc.cell? ⟨gb110, 0, none⟩ = some (.string (a0_0 ++ (strOfNums y115))) := (blk_cell BK110.out 0).trans rfl
                            have hcz60_1 : wc.cell? ⟨gb110, 1, none⟩ = some (.bool false) := (blk_cell BK110.out 1).trans rfl
                            have hcz60_2 : wc.cell? ⟨gb110, 2, none⟩ = some (.int .i64 a0_2) := (blk_cell BK110.out 2).trans rfl
                            have hfz60_0 := blk_frozen BK110.out 0
                            have hfz60_1 := blk_frozen BK110.out 1
                            have hfz60_2 := blk_frozen BK110.out 2
                            try go_wp2
                            have n0_ := Aside0.mk (blk_drew BK110.out)
                            have n1_ := Aside0.mk (blk_drew BK111.out)
                            have n2_ := Aside0.mk (below_drew1 HB.out)
                            clear BK110
                            clear BK111
                            clear HB
                            have BK110 := n0_
                            have BK111 := n1_
                            have HB := n2_
                            clear n0_ n1_ n2_
                            refine start_ (n := 8) (S := fun w' => True) (ds := []) #[false, false, false, false, false, false, false, false] (by kernel_rfl) rfl rfl trivial (fun hHeld => ?_); refine with_tabW spoorref12_comes.tab17 spoorref12_comes.bits17 (fun HT_ HW_ => ?_)
                            generalize wc.drew = w61 at BK110 BK111 HB hHeld ⊢
                            refine pure_ (i := 1) (N := some 69) (v := ?_) (a' := ?_) #[false, true, false, false, false, false, false, false] rfl rfl (any_of HT_.out (by kernel_rfl)) (fun _ _ _ h => h) (Or.inl ⟨by rfl, ?_⟩) ?_ ?_
                            rotate_left
                            · intro w'
                              go_simp
                              with_reducible rfl
                            rotate_left
                            · simp only [Act.put, List.setIfInBounds_toArray, List.set_cons_zero, List.set_cons_succ, i64_w, i32_w]
                              rfl
                            refine inv_at [0, 2, 3, 4, 5, 6, 7] (fun a0_ b a w' => ∃ (v122 : Value) (m7_ : Value), a = putSel a0_ b [(0, 68, .agg #[.string (⟨#[]⟩ : ByteArray), .bool false, .int .i64 0]), (2, 70, .string (a0_0 ++ (strOfNums y115))), (3, 71, .string ((a0_0 ++ (strOfNums y115)).extract 3 (a0_0 ++ (strOfNums y115)).size)), (4, 72, .agg #[.int .u8 1, .string ((a0_0 ++ (strOfNums y115)).extract 3 (a0_0 ++ (strOfNums y115)).size)]), (5, 73, v122), (7, 5, m7_)] ∧ (w'.heap[gb110]? = some (.cells #[.string (a0_0 ++ (strOfNums y115)), .bool false, .int .i64 a0_2] 23 (0, 0))) ∧ (w'.heap[gb111]? = some (.cells #[.string (⟨#[]⟩ : ByteArray), .bool false, .int .i64 0] 23 (0, 0))) ∧ (Below w.heap.size w w') ∧ (b 5 = true → Kd.R k38 38 w' w.heap.size (fun _ => True) v122 y121) ∧ (b 7 = true → (m7_ : Value) = v122)) HT_.out HW_.out (by kernel_rfl) (by kernel_rfl) ?_ ?_ ?_
                            · exact ⟨.bool false, .bool false, by simp only [putSel, Bool.false_eq_true, if_false], BK110.out, BK111.out, HB.out, fun h_ => absurd h_ (by decide), fun h_ => absurd h_ (by decide)⟩
                            · skip
                              clear BK110 BK111 HB
                              refine steps_cons ?_ ?_
                              · rintro b a w' ⟨v122, m7_, ha, Q_BK110, Q_BK111, Q_HB, Q_HO123, Q_X7_⟩ hb_ hon hoff
                                refine ⟨_, rfl, fun K hK => ?_⟩
                                replace ha := Aside0.mk ha
                                have BK110 := Aside0.mk Q_BK110
                                have BK111 := Aside0.mk Q_BK111
                                have HB := Aside0.mk Q_HB
                                refine value_ (w1 := w') (v := .agg #[.string (⟨#[]⟩ : ByteArray), .bool false, .int .i64 0]) (by rfl) rfl ?_ ?_
                                · go_simp
                                  (try simp only [i64_w])
                                  try rfl
                                refine hK.out _ _ ⟨v122, m7_, (by rw [ha.out]; exact putSel_upk 0 hb_ rfl rfl rfl), Q_BK110, Q_BK111, Q_HB, Q_HO123, fun h0_ => absurd ((hoff 7 (by kernel_rfl)).symm.trans h0_) (by decide)⟩
                              refine steps_cons ?_ ?_
                              · rintro b a w' ⟨v122, m7_, ha, Q_BK110, Q_BK111, Q_HB, Q_HO123, Q_X7_⟩ hb_ hon hoff
                                refine ⟨_, rfl, fun K hK => ?_⟩
                                have e69 : a.tmps[69]? = some (.pointer (some ⟨gb110, 0, none⟩)) := by rw [ha]; exact (putSel_off rfl).trans rfl
                                replace ha := Aside0.mk ha
                                have BK110 := Aside0.mk Q_BK110
                                have BK111 := Aside0.mk Q_BK111
                                have HB := Aside0.mk Q_HB
                                have hc0_ : w'.cell? ⟨gb110, 0, none⟩ = some (.string (a0_0 ++ (strOfNums y115))) := (blk_cell BK110.out 0).trans rfl
                                have hc1_ : w'.cell? ⟨gb110, 1, none⟩ = some (.bool false) := (blk_cell BK110.out 1).trans rfl
                                have hc2_ : w'.cell? ⟨gb110, 2, none⟩ = some (.int .i64 a0_2) := (blk_cell BK110.out 2).trans rfl
                                refine value_ (w1 := w') (v := .string (a0_0 ++ (strOfNums y115))) (by rfl) rfl ?_ ?_
                                · go_simp
                                  (try simp only [i64_w])
                                  try rfl
                                refine hK.out _ _ ⟨v122, m7_, (by rw [ha.out]; exact putSel_upk 1 hb_ rfl rfl rfl), Q_BK110, Q_BK111, Q_HB, fun h0_ => absurd ((hoff 5 (by kernel_rfl)).symm.trans h0_) (by decide), fun h0_ => absurd ((hoff 7 (by kernel_rfl)).symm.trans h0_) (by decide)⟩
                              refine steps_cons ?_ ?_
                              · rintro b a w' ⟨v122, m7_, ha, Q_BK110, Q_BK111, Q_HB, Q_HO123, Q_X7_⟩ hb_ hon hoff
                                refine ⟨_, rfl, fun K hK => ?_⟩
                                have e70 : a.tmps[70]? = some (.string (a0_0 ++ (strOfNums y115))) := by rw [ha]; exact putSel_on (e := (2, 70, .string (a0_0 ++ (strOfNums y115)))) 1 rfl rfl (hon 2 (by kernel_rfl)) rfl
                                replace ha := Aside0.mk ha
                                have BK110 := Aside0.mk Q_BK110
                                have BK111 := Aside0.mk Q_BK111
                                have HB := Aside0.mk Q_HB
                                refine value_ (w1 := w') (v := .string ((a0_0 ++ (strOfNums y115)).extract 3 (a0_0 ++ (strOfNums y115)).size)) (by rfl) rfl ?_ ?_
                                · go_simp
                                  (try simp only [i64_w])
                                  try rfl
                                refine hK.out _ _ ⟨v122, m7_, (by rw [ha.out]; exact putSel_upk 2 hb_ rfl rfl rfl), Q_BK110, Q_BK111, Q_HB, fun h0_ => absurd ((hoff 5 (by kernel_rfl)).symm.trans h0_) (by decide), fun h0_ => absurd ((hoff 7 (by kernel_rfl)).symm.trans h0_) (by decide)⟩
                              refine steps_cons ?_ ?_
                              · rintro b a w' ⟨v122, m7_, ha, Q_BK110, Q_BK111, Q_HB, Q_HO123, Q_X7_⟩ hb_ hon hoff
                                refine ⟨_, rfl, fun K hK => ?_⟩
                                have e71 : a.tmps[71]? = some (.string ((a0_0 ++ (strOfNums y115)).extract 3 (a0_0 ++ (strOfNums y115)).size)) := by rw [ha]; exact putSel_on (e := (3, 71, .string ((a0_0 ++ (strOfNums y115)).extract 3 (a0_0 ++ (strOfNums y115)).size))) 2 rfl rfl (hon 3 (by kernel_rfl)) rfl
                                replace ha := Aside0.mk ha
                                have BK110 := Aside0.mk Q_BK110
                                have BK111 := Aside0.mk Q_BK111
                                have HB := Aside0.mk Q_HB
                                refine value_ (w1 := w') (v := .agg #[.int .u8 1, .string ((a0_0 ++ (strOfNums y115)).extract 3 (a0_0 ++ (strOfNums y115)).size)]) (by rfl) rfl ?_ ?_
                                · go_simp
                                  (try simp only [i64_w])
                                  try rfl
                                refine hK.out _ _ ⟨v122, m7_, (by rw [ha.out]; exact putSel_upk 3 hb_ rfl rfl rfl), Q_BK110, Q_BK111, Q_HB, fun h0_ => absurd ((hoff 5 (by kernel_rfl)).symm.trans h0_) (by decide), fun h0_ => absurd ((hoff 7 (by kernel_rfl)).symm.trans h0_) (by decide)⟩
                              refine steps_cons ?_ ?_
                              · rintro b a w' ⟨v122, m7_, ha, Q_BK110, Q_BK111, Q_HB, Q_HO123, Q_X7_⟩ hb_ hon hoff
                                refine ⟨_, rfl, fun K hK => ?_⟩
                                have e72 : a.tmps[72]? = some (.agg #[.int .u8 1, .string ((a0_0 ++ (strOfNums y115)).extract 3 (a0_0 ++ (strOfNums y115)).size)]) := by rw [ha]; exact putSel_on (e := (4, 72, .agg #[.int .u8 1, .string ((a0_0 ++ (strOfNums y115)).extract 3 (a0_0 ++ (strOfNums y115)).size)])) 3 rfl rfl (hon 4 (by kernel_rfl)) rfl
                                replace ha := Aside0.mk ha
                                have BK110 := Aside0.mk Q_BK110
                                have BK111 := Aside0.mk Q_BK111
                                have HB := Aside0.mk Q_HB
                                refine Kd.R_lit_step k38 _ 38 ?hg (N := 73) ?hd (xs := ([(⟨1, (a0_0 ++ (strOfNums y115)).extract 3 (a0_0 ++ (strOfNums y115)).size⟩ : S38)] : List (S38))) (inner := [.int .u8 1, .string ((a0_0 ++ (strOfNums y115)).extract 3 (a0_0 ++ (strOfNums y115)).size)]) (ok := fun _ => True) (okp := fun _ => True) ?hr ?hp (fun _ hk => hk) trivial (Below.refl _ _) (Nat.le_refl _) (by simp) ?_; (case hd => rfl); (case hg => rfl); (case hr => first | (go_simp; done) | (go_simp; rfl)); (case hp => exact (Reps.c2 (show Kd.M k38 _ _ _ (⟨1, (a0_0 ++ (strOfNums y115)).extract 3 (a0_0 ++ (strOfNums y115)).size⟩ : S38) [.int .u8 1, .string ((a0_0 ++ (strOfNums y115)).extract 3 (a0_0 ++ (strOfNums y115)).size)] from (k38_mkM _ _ _ (⟨1, (a0_0 ++ (strOfNums y115)).extract 3 (a0_0 ++ (strOfNums y115)).size⟩ : S38) )) (Reps.none _ _)))
                                intro v122 w62 ho63 hb hg_ hnew_
                                clear hg_ hnew_
                                (first | rw [← Ny121.out] at ho63 | (simp only [Int.reduceToNat] at ho63; rw [← Ny121.out] at ho63))
                                have n0_ := Aside0.mk (Kd.R_lower ho63 (below_size (by repeat (first | (with_reducible first | exact HB.out | apply below_alloc | apply pw_below_drewN | apply below_drew1 | refine below_set ?_ GE110.out | refine below_set ?_ GE111.out) | exact HB.out))))
                                have n1_ := Aside0.mk (blk_below (g := gb110) (o := .cells #[.string (a0_0 ++ (strOfNums y115)), .bool false, .int .i64 a0_2] 23 (0, 0)) (by (with_reducible repeat (first | refine blk_drewN ?_ _ | refine blk_drew ?_ | refine blk_alloc ?_ _)); exact BK110.out) hb)
                                have n2_ := Aside0.mk (blk_below (g := gb111) (o := .cells #[.string (⟨#[]⟩ : ByteArray), .bool false, .int .i64 0] 23 (0, 0)) (by (with_reducible repeat (first | refine blk_drewN ?_ _ | refine blk_drew ?_ | refine blk_alloc ?_ _)); exact BK111.out) hb)
                                have n3_ := Aside0.mk (below_step (by repeat (first | (with_reducible first | exact HB.out | apply below_alloc | apply pw_below_drewN | apply below_drew1 | refine below_set ?_ GE110.out | refine below_set ?_ GE111.out) | exact HB.out)) hb)
                                clear BK110
                                clear BK111
                                clear HB
                                have HO123 := n0_
                                have BK110 := n1_
                                have BK111 := n2_
                                have HB := n3_
                                clear n0_ n1_ n2_ n3_
                                clear hb ho63
                                refine hK.out _ _ ⟨v122, m7_, (by rw [ha.out]; exact putSel_upk 4 hb_ rfl rfl rfl), (by (with_reducible repeat (first | refine blk_drewN ?_ _ | refine blk_drew ?_ | refine blk_alloc ?_ _)); exact BK110.out), (by (with_reducible repeat (first | refine blk_drewN ?_ _ | refine blk_drew ?_ | refine blk_alloc ?_ _)); exact BK111.out), (by repeat (first | (with_reducible first | exact HB.out | apply below_alloc | apply pw_below_drewN | apply below_drew1 | refine below_set ?_ GE110.out | refine below_set ?_ GE111.out) | exact HB.out)), fun _ => (by (with_reducible repeat (first | apply Kd.R_alloc | apply Kd.R_drewN | apply Kd.R_drew)); exact HO123.out), fun h0_ => absurd ((hoff 7 (by kernel_rfl)).symm.trans h0_) (by decide)⟩
                              refine steps_cons ?_ ?_
                              · rintro b a w' ⟨v122, m7_, ha, Q_BK110, Q_BK111, Q_HB, Q_HO123, Q_X7_⟩ hb_ hon hoff
                                refine ⟨_, rfl, fun K hK => ?_⟩
                                have e4 : a.tmps[4]? = some (.pointer (some ⟨gb111, 0, none⟩)) := by rw [ha]; exact (putSel_off rfl).trans rfl
                                have e68 : a.tmps[68]? = some (.agg #[.string (⟨#[]⟩ : ByteArray), .bool false, .int .i64 0]) := by rw [ha]; exact putSel_on (e := (0, 68, .agg #[.string (⟨#[]⟩ : ByteArray), .bool false, .int .i64 0])) 0 rfl rfl (hon 0 (by kernel_rfl)) rfl
                                replace ha := Aside0.mk ha
                                have BK110 := Aside0.mk Q_BK110
                                have BK111 := Aside0.mk Q_BK111
                                have HB := Aside0.mk Q_HB
                                have hs62 : w'.cell? ⟨gb111, 0, none⟩ = some (.string (⟨#[]⟩ : ByteArray)) := (blk_cell BK111.out 0).trans rfl
                                have hfs62 := blk_frozen BK111.out 0
                                have hns62_0 := NB110_111.out
                                have hms62_0 := NB111_110.out
                                have hs63 : w'.cell? ⟨gb111, 1, none⟩ = some (.bool false) := (blk_cell BK111.out 1).trans rfl
                                have hfs63 := blk_frozen BK111.out 1
                                have hns63_0 := NB110_111.out
                                have hms63_0 := NB111_110.out
                                have hs64 : w'.cell? ⟨gb111, 2, none⟩ = some (.int .i64 0) := (blk_cell BK111.out 2).trans rfl
                                have hfs64 := blk_frozen BK111.out 2
                                have hns64_0 := NB110_111.out
                                have hms64_0 := NB111_110.out
                                refine skip_ (w1 := ?_) (by rfl) rfl ?_ ?_
                                rotate_left
                                · go_simp
                                  rfl
                                refine hK.out _ _ ⟨v122, m7_, (by rw [ha.out]; exact putSel_none (v := undef) rfl), (by (with_reducible repeat (first | refine blk_drewN ?_ _ | refine blk_drew ?_ | refine blk_alloc ?_ _)); refine blk_far ?_ NB110_111.out _; (with_reducible repeat (first | refine blk_drewN ?_ _ | refine blk_drew ?_ | refine blk_alloc ?_ _)); refine blk_far ?_ NB110_111.out _; (with_reducible repeat (first | refine blk_drewN ?_ _ | refine blk_drew ?_ | refine blk_alloc ?_ _)); refine blk_far ?_ NB110_111.out _; (with_reducible repeat (first | refine blk_drewN ?_ _ | refine blk_drew ?_ | refine blk_alloc ?_ _)); exact BK110.out), (by (with_reducible repeat (first | refine blk_drewN ?_ _ | refine blk_drew ?_ | refine blk_alloc ?_ _)); refine blk_put (cs := #[.string (⟨#[]⟩ : ByteArray), .bool false, .int .i64 0]) ?_ 2 _ rfl; (with_reducible repeat (first | refine blk_drewN ?_ _ | refine blk_drew ?_ | refine blk_alloc ?_ _)); refine blk_put (cs := #[.string (⟨#[]⟩ : ByteArray), .bool false, .int .i64 0]) ?_ 1 _ rfl; (with_reducible repeat (first | refine blk_drewN ?_ _ | refine blk_drew ?_ | refine blk_alloc ?_ _)); refine blk_put (cs := #[.string (⟨#[]⟩ : ByteArray), .bool false, .int .i64 0]) ?_ 0 _ rfl; (with_reducible repeat (first | refine blk_drewN ?_ _ | refine blk_drew ?_ | refine blk_alloc ?_ _)); exact BK111.out), (by repeat (first | (with_reducible first | exact HB.out | apply below_alloc | apply pw_below_drewN | apply below_drew1 | refine below_set ?_ GE110.out | refine below_set ?_ GE111.out) | exact HB.out)), fun h0_ => (by (with_reducible repeat (first | apply Kd.R_alloc | apply Kd.R_drewN | apply Kd.R_drew)); exact Kd.R_mono (Kd.R_far (p := ⟨gb111, 2, none⟩) (Kd.R_far (p := ⟨gb111, 1, none⟩) (Kd.R_far (p := ⟨gb111, 0, none⟩) (Kd.R_types (Q_HO123 h0_) BK111.out (by decide)) (fun _ hk => hk.2) (.string (⟨#[]⟩ : ByteArray))) (fun _ hk => hk.2) (.bool false)) (fun _ hk => hk.2) (.int .i64 0)) (fun _ hk => trivial)), fun h0_ => absurd ((hoff 7 (by kernel_rfl)).symm.trans h0_) (by decide)⟩
                              refine steps_cons ?_ ?_
                              · rintro b a w' ⟨v122, m7_, ha, Q_BK110, Q_BK111, Q_HB, Q_HO123, Q_X7_⟩ hb_ hon hoff
                                refine ⟨_, rfl, fun K hK => ?_⟩
                                have e73 : a.tmps[73]? = some (v122) := by rw [ha]; exact putSel_on (e := (5, 73, v122)) 4 rfl rfl (hon 5 (by kernel_rfl)) rfl
                                replace ha := Aside0.mk ha
                                have BK110 := Aside0.mk Q_BK110
                                have BK111 := Aside0.mk Q_BK111
                                have HB := Aside0.mk Q_HB
                                have HO123 := Aside0.mk (Q_HO123 (hon 5 (by kernel_rfl)))
                                refine value_ (w1 := w') (v := v122) (by rfl) rfl ?_ ?_
                                · go_simp
                                  (try simp only [i64_w])
                                  try rfl
                                refine hK.out _ _ ⟨v122, (v122), (by rw [ha.out]; exact putSel_upk 5 hb_ rfl rfl rfl), Q_BK110, Q_BK111, Q_HB, Q_HO123, fun _ => rfl⟩
                              exact steps_nil
                            rintro b a w67 hall ⟨v122, m7_, ha, Q_BK110, Q_BK111, Q_HB, Q_HO123, Q_X7_⟩
                            clear BK110 BK111 HB
                            have hb0_ := hall 0 (by kernel_rfl)
                            have hb2_ := hall 2 (by kernel_rfl)
                            have hb3_ := hall 3 (by kernel_rfl)
                            have hb4_ := hall 4 (by kernel_rfl)
                            have hb5_ := hall 5 (by kernel_rfl)
                            have hb6_ := hall 6 (by kernel_rfl)
                            have hb7_ := hall 7 (by kernel_rfl)
                            subst ha
                            obtain rfl := Q_X7_ hb7_
                            simp only [putSel, hb0_, hb2_, hb3_, hb4_, hb5_, hb6_, hb7_, if_true, Act.put, List.setIfInBounds_toArray, List.set_cons_zero, List.set_cons_succ]
                            have BK110 := Aside0.mk Q_BK110
                            clear Q_BK110
                            have BK111 := Aside0.mk Q_BK111
                            clear Q_BK111
                            have HB := Aside0.mk Q_HB
                            clear Q_HB
                            have HO123 := Aside0.mk (Q_HO123 hb5_)
                            clear Q_HO123
                            clear hall hb0_ hb2_ hb3_ hb4_ hb5_ hb6_ hb7_
                            try go_wp2
                            refine bodyPost_ret (results_ct rfl _ _ gb111 23 #[.string (⟨#[]⟩ : ByteArray), .bool false, .int .i64 0] (0, 0) _ rfl (by (with_reducible repeat (first | refine blk_drewN ?_ _ | refine blk_drew ?_ | refine blk_alloc ?_ _)); exact BK111.out) Try.underlying23 rfl (by kernel_rfl)) rfl ?_
                            exact ⟨_, by first | rfl | (simp [errW_none, errW_some] <;> rfl) | (simp [*, errW_none, errW_some] <;> rfl), by (with_reducible repeat (first | apply Kd.R_alloc | apply Kd.R_drewN | apply Kd.R_drew)); exact HO123.out, by repeat (first | (with_reducible first | exact HB.out | apply below_alloc | apply pw_below_drewN | apply below_drew1 | refine below_set ?_ GE110.out | refine below_set ?_ GE111.out) | exact HB.out)⟩
                          · rw [if_neg c58] at H
                            exact absurd H (by simp)
                        · rw [if_neg c57] at H
                          have c57b0 : (((a0_0 ++ (strOfNums y115)).size : Int) == (wrap64 (3 + (wrap64 ((wrap64 (256 * (wrap64 (bt (a0_0 ++ (strOfNums y115)) 1)))) + (wrap64 (bt (a0_0 ++ (strOfNums y115)) 2))))))) = false := beq_eq_false_iff_ne.mpr c57
                          have c57b1 : (((a0_0 ++ (strOfNums y115)).size : Int) != (wrap64 (3 + (wrap64 ((wrap64 (256 * (wrap64 (bt (a0_0 ++ (strOfNums y115)) 1)))) + (wrap64 (bt (a0_0 ++ (strOfNums y115)) 2))))))) = true := bne_iff_ne.mpr c57
                          simp only [Option.some.injEq, Prod.mk.injEq] at H
                          obtain ⟨rfl, rfl, rfl, rfl⟩ := H
                          have hnb68 := NB110_111.out
                          have hnc68 := NB111_110.out
                          have hcz69_0 : wc.cell? ⟨gb110, 0, none⟩ = some (.string (a0_0 ++ (strOfNums y115))) := (blk_cell BK110.out 0).trans rfl
                          have hcz69_1 : wc.cell? ⟨gb110, 1, none⟩ = some (.bool false) := (blk_cell BK110.out 1).trans rfl
                          have hcz69_2 : wc.cell? ⟨gb110, 2, none⟩ = some (.int .i64 a0_2) := (blk_cell BK110.out 2).trans rfl
                          have hfz69_0 := blk_frozen BK110.out 0
                          have hfz69_1 := blk_frozen BK110.out 1
                          have hfz69_2 := blk_frozen BK110.out 2
                          have hcz70_0 : wc.cell? ⟨gb111, 0, none⟩ = some (.string (⟨#[]⟩ : ByteArray)) := (blk_cell BK111.out 0).trans rfl
                          have hcz70_1 : wc.cell? ⟨gb111, 1, none⟩ = some (.bool false) := (blk_cell BK111.out 1).trans rfl
                          have hcz70_2 : wc.cell? ⟨gb111, 2, none⟩ = some (.int .i64 0) := (blk_cell BK111.out 2).trans rfl
                          have hfz70_0 := blk_frozen BK111.out 0
                          have hfz70_1 := blk_frozen BK111.out 1
                          have hfz70_2 := blk_frozen BK111.out 2
                          go_wp2
                          refine bodyPost_ret (results_ct rfl _ _ gb111 23 #[.string (a0_0 ++ (strOfNums y115)), .bool false, .int .i64 a0_2] (0, 0) _ rfl (by (with_reducible repeat (first | refine blk_drewN ?_ _ | refine blk_drew ?_ | refine blk_alloc ?_ _)); refine blk_put (cs := #[.string (a0_0 ++ (strOfNums y115)), .bool false, .int .i64 0]) ?_ 2 _ rfl; (with_reducible repeat (first | refine blk_drewN ?_ _ | refine blk_drew ?_ | refine blk_alloc ?_ _)); refine blk_put (cs := #[.string (a0_0 ++ (strOfNums y115)), .bool false, .int .i64 0]) ?_ 1 _ rfl; (with_reducible repeat (first | refine blk_drewN ?_ _ | refine blk_drew ?_ | refine blk_alloc ?_ _)); refine blk_put (cs := #[.string (⟨#[]⟩ : ByteArray), .bool false, .int .i64 0]) ?_ 0 _ rfl; (with_reducible repeat (first | refine blk_drewN ?_ _ | refine blk_drew ?_ | refine blk_alloc ?_ _)); exact BK111.out) Try.underlying23 rfl (by kernel_rfl)) rfl ?_
                          exact ⟨_, by first | rfl | (simp [errW_none, errW_some] <;> rfl) | (simp [*, errW_none, errW_some] <;> rfl), by first | exact Kd.R_nil _ _ _ _ _ | exact Kd.N_nil _ _ _ _ _ | exact Kd.V_nil _ _ _ _ _ | exact Kd.Q_nil _ _ _ _ _ | exact Kd.S_nil _ _ _ _ _, by repeat (first | (with_reducible first | exact HB.out | apply below_alloc | apply pw_below_drewN | apply below_drew1 | refine below_set ?_ GE110.out | refine below_set ?_ GE111.out) | exact HB.out)⟩
                · rw [if_neg c40] at H
                  exact absurd H (by simp)
              · rw [if_neg c38] at H
                exact absurd H (by simp)
          · rw [if_neg c29] at H
            exact absurd H (by simp)

end Go.Proofs.Ytnolpgphdnbfaaa.Q
