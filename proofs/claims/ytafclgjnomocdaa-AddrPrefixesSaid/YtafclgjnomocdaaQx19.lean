-- Printed by this session's program wip/tools/mp.sh out of the translation.
import Derived.Test.YtafclgjnomocdaaQx0
import Derived.Test.YtafclgjnomocdaaQx4
import Derived.Test.YtafclgjnomocdaaQx5
import Derived.Test.YtafclgjnomocdaaQx16
import Derived.Test.YtafclgjnomocdaaQx17
import Derived.Test.YtafclgjnomocdaaQx18
namespace Go.Proofs.Ytafclgjnomocdaa.Q
open Go.RowKit Go.Proofs.YtafclgjnomocdaaW.PrintWords Go.Proofs.YtafclgjnomocdaaW.PrintLast Go.Proofs.YtafclgjnomocdaaW.PrintMore
attribute [local go_sem] max2_int min2_int max_two min_two max_three min_three max_four min_four   -- for this text's walks alone
set_option linter.unusedVariables false
set_option linter.unusedSimpArgs false

/-! ### spoorref09_Halves: function 19 -/
set_option maxHeartbeats 8000000 in
set_option maxRecDepth 100000 in
theorem spoorref09_Halves.calls (k : Nat) (a0_0 : Bool) (a0_1 : Int) (a0_2 : Int) (a0_3 : Int) (r1 : Bool) (r2 : Int) (r3 : Int) (r4 : Int) (r5 : Bool) (r6 : Int) (r7 : Int) (r8 : Int) (r9 : Int) (w : World) (h : spoorref09_Halves.f k a0_0 a0_1 a0_2 a0_3 = some (r1, r2, r3, r4, r5, r6, r7, r8, r9)) :
  Calls Try.prog 19 #[.agg #[.bool a0_0, .int .u64 a0_1, .int .u64 a0_2, .int .i64 a0_3]] w fun e w' => e = .returned (.tuple #[.agg #[.bool r1, .int .u64 r2, .int .u64 r3, .int .i64 r4], .agg #[.bool r5, .int .u64 r6, .int .u64 r7, .int .i64 r8], .int .i64 r9]) ∧ Below w.heap.size w w' := by
 have hu33 := Try.underlying33
 have hu24 := Try.underlying24
 have HB := Ax (Below.refl w.heap.size w)
 have H : ((spoorref09_Check.f k a0_0 a0_1 a0_2 a0_3).bind fun t285 => (if t285 = 0 then ((spoorref09_Wide.f a0_0).bind fun t286 => (if a0_3 = t286 then (some (false, 0, 0, 0, false, 0, 0, 0, 3)) else ((spoorref09_bits.f k a0_0 a0_1 a0_2).bind fun t287 => (if 0 ≤ a0_3 then (if a0_3 < (t287.length : Int) then ((spoorref09_of.f k (t287.set (a0_3 : Int).toNat 1)).bind fun bt291 => (some (a0_0, a0_1, a0_2, wrap64 (a0_3 + 1), a0_0, bt291.1, bt291.2, wrap64 (a0_3 + 1), 0))) else (none)) else (none))))) else (some (false, 0, 0, 0, false, 0, 0, 0, 2)))) = some (r1, r2, r3, r4, r5, r6, r7, r8, r9) := h
 clear h
 replace H := Option.bind_eq_some_iff.mp H
 obtain ⟨t285, A20, H⟩ := H
 replace H : (if t285 = 0 then ((spoorref09_Wide.f a0_0).bind fun t286 => (if a0_3 = t286 then (some (false, 0, 0, 0, false, 0, 0, 0, 3)) else ((spoorref09_bits.f k a0_0 a0_1 a0_2).bind fun t287 => (if 0 ≤ a0_3 then (if a0_3 < (t287.length : Int) then ((spoorref09_of.f k (t287.set (a0_3 : Int).toNat 1)).bind fun bt291 => (some (a0_0, a0_1, a0_2, wrap64 (a0_3 + 1), a0_0, bt291.1, bt291.2, wrap64 (a0_3 + 1), 0))) else (none)) else (none))))) else (some (false, 0, 0, 0, false, 0, 0, 0, 2))) = some (r1, r2, r3, r4, r5, r6, r7, r8, r9) := H
 have A2 := Ax A20
 clear A20
 by_cases c3 : t285 = 0
 ·rw [if_pos c3] at H
  have c3b0 : (t285 == 0) = true := beq_iff_eq.mpr c3
  have c3b1 : (t285 != 0) = false := bne_eq_false_iff_eq.mpr c3
  clear c3
  replace H := Option.bind_eq_some_iff.mp H
  obtain ⟨t286, A40, H⟩ := H
  replace H : (if a0_3 = t286 then (some (false, 0, 0, 0, false, 0, 0, 0, 3)) else ((spoorref09_bits.f k a0_0 a0_1 a0_2).bind fun t287 => (if 0 ≤ a0_3 then (if a0_3 < (t287.length : Int) then ((spoorref09_of.f k (t287.set (a0_3 : Int).toNat 1)).bind fun bt291 => (some (a0_0, a0_1, a0_2, wrap64 (a0_3 + 1), a0_0, bt291.1, bt291.2, wrap64 (a0_3 + 1), 0))) else (none)) else (none)))) = some (r1, r2, r3, r4, r5, r6, r7, r8, r9) := H
  have A4 := Ax A40
  clear A40
  by_cases c5 : a0_3 = t286
  ·rw [if_pos c5] at H
   have c5b0 : (a0_3 == t286) = true := beq_iff_eq.mpr c5
   have c5b1 : (a0_3 != t286) = false := bne_eq_false_iff_eq.mpr c5
   clear c5
   simp only [Option.some.injEq, Prod.mk.injEq] at H
   obtain ⟨rfl, rfl, rfl, rfl, rfl, rfl, rfl, rfl, rfl⟩ := H
   go_enter Try.func19, Try.ntmps19
   try go_wp2_with (first | ((with_reducible refine gate_dst (N := 1) rfl ?_); refine box_event ?hg (N := 1) ?hd (cs := #[.bool a0_0, .int .u64 a0_1, .int .u64 a0_2, .int .i64 a0_3]) (t := 33) ?hr ?_; (case hd => rfl); (case hg => rfl); (case hr => first | (go_simp; done) | (go_simp; rfl)); intro gb282 hg w6 hbox hb; have n0_ := Ax (below_step (bw0 HB.out) hb); have n1_ := Ax (hbox); have n2_ := Ax ((by rw [hg]; exact (below_size (bw0 HB.out)) : w.heap.size ≤ gb282)); have n3_ := Ax ((by rw [hg]; exact (below_size (bw0 HB.out)) : w.heap.size ≤ gb282)); clear HB; have HB := n0_; have BK282 := n1_; have GW282 := n2_; have GE282 := n3_; clear n0_ n1_ n2_ n3_; clear hb hbox hg) | ((with_reducible refine gate_dst (N := 2) rfl ?_); refine box_event ?hg (N := 2) ?hd (cs := #[.bool false, .int .u64 0, .int .u64 0, .int .i64 0]) (t := 33) ?hr ?_; (case hd => rfl); (case hg => rfl); (case hr => first | (go_simp; done) | (go_simp; rfl)); intro gb283 hg w7 hbox hb; have n0_ := Ax (blk_below (g := gb282) (o := .cells #[.bool a0_0, .int .u64 a0_1, .int .u64 a0_2, .int .i64 a0_3] 33 (0, 0)) (bf0 BK282.out) hb); have n1_ := Ax (below_step (bw1 HB.out GE282.out) hb); have n2_ := Ax (hbox); have n3_ := Ax ((by rw [hg]; exact (below_size (bw1 HB.out GE282.out)) : w.heap.size ≤ gb283)); have n4_ := Ax ((by rw [hg]; exact (below_size (bw1 HB.out GE282.out)) : w.heap.size ≤ gb283)); have n5_ := Ax ((by rw [hg]; exact Nat.ne_of_lt (blk_lt (g := gb282) (o := .cells #[.bool a0_0, .int .u64 a0_1, .int .u64 a0_2, .int .i64 a0_3] 33 (0, 0)) (bf0 BK282.out)) : gb282 ≠ gb283)); have n6_ := Ax ((by rw [hg]; exact Nat.ne_of_gt (blk_lt (g := gb282) (o := .cells #[.bool a0_0, .int .u64 a0_1, .int .u64 a0_2, .int .i64 a0_3] 33 (0, 0)) (bf0 BK282.out)) : gb283 ≠ gb282)); clear BK282; clear HB; have BK282 := n0_; have HB := n1_; have BK283 := n2_; have GW283 := n3_; have GE283 := n4_; have NB282_283 := n5_; have NB283_282 := n6_; clear n0_ n1_ n2_ n3_ n4_ n5_ n6_; clear hb hbox hg) | ((with_reducible refine gate_dst (N := 3) rfl ?_); refine box_event ?hg (N := 3) ?hd (cs := #[.bool false, .int .u64 0, .int .u64 0, .int .i64 0]) (t := 33) ?hr ?_; (case hd => rfl); (case hg => rfl); (case hr => first | (go_simp; done) | (go_simp; rfl)); intro gb284 hg w8 hbox hb; have n0_ := Ax (blk_below (g := gb282) (o := .cells #[.bool a0_0, .int .u64 a0_1, .int .u64 a0_2, .int .i64 a0_3] 33 (0, 0)) (bf0 BK282.out) hb); have n1_ := Ax (blk_below (g := gb283) (o := .cells #[.bool false, .int .u64 0, .int .u64 0, .int .i64 0] 33 (0, 0)) (bf0 BK283.out) hb); have n2_ := Ax (below_step (bw2 HB.out GE282.out GE283.out) hb); have n3_ := Ax (hbox); have n4_ := Ax ((by rw [hg]; exact (below_size (bw2 HB.out GE282.out GE283.out)) : w.heap.size ≤ gb284)); have n5_ := Ax ((by rw [hg]; exact (below_size (bw2 HB.out GE282.out GE283.out)) : w.heap.size ≤ gb284)); have n6_ := Ax ((by rw [hg]; exact Nat.ne_of_lt (blk_lt (g := gb282) (o := .cells #[.bool a0_0, .int .u64 a0_1, .int .u64 a0_2, .int .i64 a0_3] 33 (0, 0)) (bf0 BK282.out)) : gb282 ≠ gb284)); have n7_ := Ax ((by rw [hg]; exact Nat.ne_of_gt (blk_lt (g := gb282) (o := .cells #[.bool a0_0, .int .u64 a0_1, .int .u64 a0_2, .int .i64 a0_3] 33 (0, 0)) (bf0 BK282.out)) : gb284 ≠ gb282)); have n8_ := Ax ((by rw [hg]; exact Nat.ne_of_lt (blk_lt (g := gb283) (o := .cells #[.bool false, .int .u64 0, .int .u64 0, .int .i64 0] 33 (0, 0)) (bf0 BK283.out)) : gb283 ≠ gb284)); have n9_ := Ax ((by rw [hg]; exact Nat.ne_of_gt (blk_lt (g := gb283) (o := .cells #[.bool false, .int .u64 0, .int .u64 0, .int .i64 0] 33 (0, 0)) (bf0 BK283.out)) : gb284 ≠ gb283)); clear BK282; clear BK283; clear HB; have BK282 := n0_; have BK283 := n1_; have HB := n2_; have BK284 := n3_; have GW284 := n4_; have GE284 := n5_; have NB282_284 := n6_; have NB284_282 := n7_; have NB283_284 := n8_; have NB284_283 := n9_; clear n0_ n1_ n2_ n3_ n4_ n5_ n6_ n7_ n8_ n9_; clear hb hbox hg; have hnb9 := NB282_283.out; have hnc9 := NB283_282.out; have hnb10 := NB282_284.out; have hnc10 := NB284_282.out; have hcz11_0 : w8.cell? ⟨gb282, 0, none⟩ = some (.bool a0_0) := (blk_cell BK282.out 0).trans rfl; have hcz11_1 : w8.cell? ⟨gb282, 1, none⟩ = some (.int .u64 a0_1) := (blk_cell BK282.out 1).trans rfl; have hcz11_2 : w8.cell? ⟨gb282, 2, none⟩ = some (.int .u64 a0_2) := (blk_cell BK282.out 2).trans rfl; have hcz11_3 : w8.cell? ⟨gb282, 3, none⟩ = some (.int .i64 a0_3) := (blk_cell BK282.out 3).trans rfl; have hfz11_0 := blk_frozen BK282.out 0; have hfz11_1 := blk_frozen BK282.out 1; have hfz11_2 := blk_frozen BK282.out 2; have hfz11_3 := blk_frozen BK282.out 3) | ((with_reducible refine gate_callee (f := 21) rfl ?_); refine goesL_ (some 7) rfl rfl Try.func21 (by kernel_rfl) rfl #[.agg #[.bool a0_0, .int .u64 a0_1, .int .u64 a0_2, .int .i64 a0_3]] rfl gS ?_; (with_reducible refine (spoorref09_Check.calls k a0_0 a0_1 a0_2 a0_3 t285 _ A2.out).mono ?_); rintro e w12 ⟨rfl, hb⟩; refine ⟨_, rfl, ?_⟩; have n0_ := Ax (blk_below (g := gb282) (o := .cells #[.bool a0_0, .int .u64 a0_1, .int .u64 a0_2, .int .i64 a0_3] 33 (0, 0)) (bf0 BK282.out) hb); have n1_ := Ax (blk_below (g := gb283) (o := .cells #[.bool false, .int .u64 0, .int .u64 0, .int .i64 0] 33 (0, 0)) (bf0 BK283.out) hb); have n2_ := Ax (blk_below (g := gb284) (o := .cells #[.bool false, .int .u64 0, .int .u64 0, .int .i64 0] 33 (0, 0)) (bf0 BK284.out) hb); have n3_ := Ax (below_step (bw3 HB.out GE282.out GE283.out GE284.out) hb); clear BK282; clear BK283; clear BK284; clear HB; have BK282 := n0_; have BK283 := n1_; have BK284 := n2_; have HB := n3_; clear n0_ n1_ n2_ n3_; (try clear hb); (try clear hb2); (try clear hk); (try clear hi)))
   have n0_ := Ax (blk_drew BK282.out)
   have n1_ := Ax (blk_drew BK283.out)
   have n2_ := Ax (blk_drew BK284.out)
   have n3_ := Ax (below_drew1 HB.out)
   clear BK282
   clear BK283
   clear BK284
   clear HB
   have BK282 := n0_
   have BK283 := n1_
   have BK284 := n2_
   have HB := n3_
   clear n0_ n1_ n2_ n3_
   refine start_ (n := 6) (S := fun w' => w'.cell? ⟨gb282, 0, none⟩ = some (.bool a0_0) ∧ w'.cell? ⟨gb282, 1, none⟩ = some (.int .u64 a0_1) ∧ w'.cell? ⟨gb282, 2, none⟩ = some (.int .u64 a0_2) ∧ w'.cell? ⟨gb282, 3, none⟩ = some (.int .i64 a0_3)) (ds := []) #[fa,fa,fa,fa,fa,fa] (by kernel_rfl) rfl rfl ⟨(blk_cell BK282.out 0).trans rfl, (blk_cell BK282.out 1).trans rfl, (blk_cell BK282.out 2).trans rfl, (blk_cell BK282.out 3).trans rfl⟩ (fun hHeld => ?_)
   generalize w12.drew = w13 at BK282 BK283 BK284 HB hHeld ⊢
   refine pure_ (i := 0) (N := some 11) (v := ?_) (a' := ?_) #[tr,fa,fa,fa,fa,fa] rfl rfl (by kernel_rfl) (fun _ _ _ h => h) (Or.inl ⟨by rfl, ?_⟩) ?_ ?_
   rotate_left
   ·intro w'
    go_simp
    with_reducible rfl
   rotate_left
   ·simp only [sP]
    rfl
   refine pure_ (i := 2) (N := some 13) (v := ?_) (a' := ?_) #[tr,fa,tr,fa,fa,fa] rfl rfl (by kernel_rfl) (fun _ _ _ h => h) (Or.inl ⟨by rfl, ?_⟩) ?_ ?_
   rotate_left
   ·intro w'
    go_simp
    with_reducible rfl
   rotate_left
   ·simp only [sP]
    rfl
   refine take_ (i := 1) (N := some 12) (v := ?_) (a' := ?_) #[tr,tr,tr,fa,fa,fa] rfl rfl (by kernel_rfl) (fun _ _ _ h => h) (Or.inl ⟨by rfl, ?_⟩) hHeld ?_ ?_
   rotate_left
   ·rintro w' ⟨s0, s1, s2, s3⟩
    go_simp
    with_reducible rfl
   rotate_left
   ·simp only [sP]
    rfl
   refine take_ (i := 3) (N := some 14) (v := ?_) (a' := ?_) #[tr,tr,tr,tr,fa,fa] rfl rfl (by kernel_rfl) (fun _ _ _ h => h) (Or.inl ⟨by rfl, ?_⟩) hHeld ?_ ?_
   rotate_left
   ·rintro w' ⟨s0, s1, s2, s3⟩
    go_simp
    with_reducible rfl
   rotate_left
   ·simp only [sP]
    rfl
   refine one_ (i := 4) (N := some 15) #[tr,tr,tr,tr,tr,fa] rfl rfl (by kernel_rfl) (by decide) (fun K hK => ?_)
   refine goes_ Try.func38 (by kernel_rfl) rfl #[.bool a0_0] (by rfl) rfl rfl gS ?_
   with_reducible refine (spoorref09_Wide.calls a0_0 t286 _ A4.out).mono ?_
   rintro e w' ⟨rfl, ⟨nd, rfl⟩⟩
   refine ⟨_, rfl, ?_⟩
   refine hK.out _ _ ⟨(blk_cell BK282.out 0).trans rfl, (blk_cell BK282.out 1).trans rfl, (blk_cell BK282.out 2).trans rfl, (blk_cell BK282.out 3).trans rfl⟩ (fun hHeld => ?_)
   clear hK K
   refine norm_ (a' := ?_) ?_ ?_
   rotate_left
   ·show Act.put _ (some 15) _ = _
    simp only [sP]
    rfl
   refine pure_ (i := 5) (N := some 16) (v := ?_) (a' := ?_) #[tr,tr,tr,tr,tr,tr] rfl rfl (by kernel_rfl) (fun _ _ _ h => h) (Or.inl ⟨by rfl, ?_⟩) ?_ ?_
   rotate_left
   ·intro w'
    go_simp
    with_reducible rfl
   rotate_left
   ·simp only [sP]
    rfl
   refine done_ (by kernel_rfl) ?_
   have hnb14 := NB283_284.out
   have hnc14 := NB284_283.out
   have hcz15_0 : w13.cell? ⟨gb283, 0, none⟩ = some (.bool false) := (blk_cell BK283.out 0).trans rfl
   have hcz15_1 : w13.cell? ⟨gb283, 1, none⟩ = some (.int .u64 0) := (blk_cell BK283.out 1).trans rfl
   have hcz15_2 : w13.cell? ⟨gb283, 2, none⟩ = some (.int .u64 0) := (blk_cell BK283.out 2).trans rfl
   have hcz15_3 : w13.cell? ⟨gb283, 3, none⟩ = some (.int .i64 0) := (blk_cell BK283.out 3).trans rfl
   have hfz15_0 := blk_frozen BK283.out 0
   have hfz15_1 := blk_frozen BK283.out 1
   have hfz15_2 := blk_frozen BK283.out 2
   have hfz15_3 := blk_frozen BK283.out 3
   have hcz16_0 : w13.cell? ⟨gb284, 0, none⟩ = some (.bool false) := (blk_cell BK284.out 0).trans rfl
   have hcz16_1 : w13.cell? ⟨gb284, 1, none⟩ = some (.int .u64 0) := (blk_cell BK284.out 1).trans rfl
   have hcz16_2 : w13.cell? ⟨gb284, 2, none⟩ = some (.int .u64 0) := (blk_cell BK284.out 2).trans rfl
   have hcz16_3 : w13.cell? ⟨gb284, 3, none⟩ = some (.int .i64 0) := (blk_cell BK284.out 3).trans rfl
   have hfz16_0 := blk_frozen BK284.out 0
   have hfz16_1 := blk_frozen BK284.out 1
   have hfz16_2 := blk_frozen BK284.out 2
   have hfz16_3 := blk_frozen BK284.out 3
   try go_wp2
   refine bodyPost_ret (results_list (rs := [.cell 2 33, .cell 3 33, .tmp 4]) rfl (by simp) (.cell gb283 33 #[.bool false, .int .u64 0, .int .u64 0, .int .i64 0] (0, 0) _ rfl (by (with_reducible repeat (first | refine blk_drewN ?_ _ | refine blk_drew ?_ | refine blk_alloc ?_ _)); refine blk_far ?_ NB283_284.out _; (with_reducible repeat (first | refine blk_drewN ?_ _ | refine blk_drew ?_ | refine blk_alloc ?_ _)); refine blk_far ?_ NB283_284.out _; (with_reducible repeat (first | refine blk_drewN ?_ _ | refine blk_drew ?_ | refine blk_alloc ?_ _)); refine blk_far ?_ NB283_284.out _; (with_reducible repeat (first | refine blk_drewN ?_ _ | refine blk_drew ?_ | refine blk_alloc ?_ _)); refine blk_far ?_ NB283_284.out _; (with_reducible repeat (first | refine blk_drewN ?_ _ | refine blk_drew ?_ | refine blk_alloc ?_ _)); refine blk_put (cs := #[.bool false, .int .u64 0, .int .u64 0, .int .i64 0]) ?_ 3 _ rfl; (with_reducible repeat (first | refine blk_drewN ?_ _ | refine blk_drew ?_ | refine blk_alloc ?_ _)); refine blk_put (cs := #[.bool false, .int .u64 0, .int .u64 0, .int .i64 0]) ?_ 2 _ rfl; (with_reducible repeat (first | refine blk_drewN ?_ _ | refine blk_drew ?_ | refine blk_alloc ?_ _)); refine blk_put (cs := #[.bool false, .int .u64 0, .int .u64 0, .int .i64 0]) ?_ 1 _ rfl; (with_reducible repeat (first | refine blk_drewN ?_ _ | refine blk_drew ?_ | refine blk_alloc ?_ _)); refine blk_put (cs := #[.bool false, .int .u64 0, .int .u64 0, .int .i64 0]) ?_ 0 _ rfl; (with_reducible repeat (first | refine blk_drewN ?_ _ | refine blk_drew ?_ | refine blk_alloc ?_ _)); exact BK283.out) Try.underlying33 rfl (by kernel_rfl) (.cell gb284 33 #[.bool false, .int .u64 0, .int .u64 0, .int .i64 0] (0, 0) _ rfl (by (with_reducible repeat (first | refine blk_drewN ?_ _ | refine blk_drew ?_ | refine blk_alloc ?_ _)); refine blk_put (cs := #[.bool false, .int .u64 0, .int .u64 0, .int .i64 0]) ?_ 3 _ rfl; (with_reducible repeat (first | refine blk_drewN ?_ _ | refine blk_drew ?_ | refine blk_alloc ?_ _)); refine blk_put (cs := #[.bool false, .int .u64 0, .int .u64 0, .int .i64 0]) ?_ 2 _ rfl; (with_reducible repeat (first | refine blk_drewN ?_ _ | refine blk_drew ?_ | refine blk_alloc ?_ _)); refine blk_put (cs := #[.bool false, .int .u64 0, .int .u64 0, .int .i64 0]) ?_ 1 _ rfl; (with_reducible repeat (first | refine blk_drewN ?_ _ | refine blk_drew ?_ | refine blk_alloc ?_ _)); refine blk_put (cs := #[.bool false, .int .u64 0, .int .u64 0, .int .i64 0]) ?_ 0 _ rfl; (with_reducible repeat (first | refine blk_drewN ?_ _ | refine blk_drew ?_ | refine blk_alloc ?_ _)); refine blk_far ?_ NB284_283.out _; (with_reducible repeat (first | refine blk_drewN ?_ _ | refine blk_drew ?_ | refine blk_alloc ?_ _)); refine blk_far ?_ NB284_283.out _; (with_reducible repeat (first | refine blk_drewN ?_ _ | refine blk_drew ?_ | refine blk_alloc ?_ _)); refine blk_far ?_ NB284_283.out _; (with_reducible repeat (first | refine blk_drewN ?_ _ | refine blk_drew ?_ | refine blk_alloc ?_ _)); refine blk_far ?_ NB284_283.out _; (with_reducible repeat (first | refine blk_drewN ?_ _ | refine blk_drew ?_ | refine blk_alloc ?_ _)); exact BK284.out) Try.underlying33 rfl (by kernel_rfl) (.tmp .nil)))) rfl ?_
   exact ⟨eS, bw3 HB.out GE282.out GE283.out GE284.out⟩
  ·rw [if_neg c5] at H
   have c5b0 : (a0_3 == t286) = false := beq_eq_false_iff_ne.mpr c5
   have c5b1 : (a0_3 != t286) = true := bne_iff_ne.mpr c5
   replace H := Option.bind_eq_some_iff.mp H
   obtain ⟨t287, A170, H⟩ := H
   replace H : (if 0 ≤ a0_3 then (if a0_3 < (t287.length : Int) then ((spoorref09_of.f k (t287.set (a0_3 : Int).toNat 1)).bind fun bt291 => (some (a0_0, a0_1, a0_2, wrap64 (a0_3 + 1), a0_0, bt291.1, bt291.2, wrap64 (a0_3 + 1), 0))) else (none)) else (none)) = some (r1, r2, r3, r4, r5, r6, r7, r8, r9) := H
   have A17 := Ax A170
   clear A170
   by_cases c18 : 0 ≤ a0_3
   ·rw [if_pos c18] at H
    have c18b0 : decide (0 ≤ a0_3) = true := decide_eq_true c18
    clear c18
    by_cases c19 : a0_3 < (t287.length : Int)
    ·rw [if_pos c19] at H
     have c19b0 : decide (a0_3 < (t287.length : Int)) = true := decide_eq_true c19
     clear c19
     obtain ⟨y290, hy290⟩ : ∃ y_ : List Int, y_ = (t287.set (a0_3 : Int).toNat 1) := ⟨_, rfl⟩
     replace H : ((spoorref09_of.f k y290).bind fun bt291 => (some (a0_0, a0_1, a0_2, wrap64 (a0_3 + 1), a0_0, bt291.1, bt291.2, wrap64 (a0_3 + 1), 0))) = some (r1, r2, r3, r4, r5, r6, r7, r8, r9) := by first | (rw [hy290]; with_reducible exact H) | (have H2_ := (Option.bind_some _ _).symm.trans H; rw [hy290]; with_reducible exact H2_) | (have H2_ := (Option.bind_some _ _).symm.trans H; with_reducible exact H2_) | with_reducible exact H | (rw [hy290]; exact H) | exact H
     have Ny290 := Ax hy290
     clear hy290
     replace H := Option.bind_eq_some_iff.mp H
     obtain ⟨⟨t291, t292⟩, A210, H⟩ := H
     replace H : (some (a0_0, a0_1, a0_2, wrap64 (a0_3 + 1), a0_0, t291, t292, wrap64 (a0_3 + 1), 0)) = some (r1, r2, r3, r4, r5, r6, r7, r8, r9) := H
     have A21 := Ax A210
     clear A210
     simp only [Option.some.injEq, Prod.mk.injEq] at H
     obtain ⟨rfl, rfl, rfl, rfl, rfl, rfl, rfl, rfl, rfl⟩ := H
     go_enter Try.func19, Try.ntmps19
     try go_wp2_with (first | ((with_reducible refine gate_dst (N := 1) rfl ?_); refine box_event ?hg (N := 1) ?hd (cs := #[.bool a0_0, .int .u64 a0_1, .int .u64 a0_2, .int .i64 a0_3]) (t := 33) ?hr ?_; (case hd => rfl); (case hg => rfl); (case hr => first | (go_simp; done) | (go_simp; rfl)); intro gb282 hg w22 hbox hb; have n0_ := Ax (below_step (bw0 HB.out) hb); have n1_ := Ax (hbox); have n2_ := Ax ((by rw [hg]; exact (below_size (bw0 HB.out)) : w.heap.size ≤ gb282)); have n3_ := Ax ((by rw [hg]; exact (below_size (bw0 HB.out)) : w.heap.size ≤ gb282)); clear HB; have HB := n0_; have BK282 := n1_; have GW282 := n2_; have GE282 := n3_; clear n0_ n1_ n2_ n3_; clear hb hbox hg) | ((with_reducible refine gate_dst (N := 2) rfl ?_); refine box_event ?hg (N := 2) ?hd (cs := #[.bool false, .int .u64 0, .int .u64 0, .int .i64 0]) (t := 33) ?hr ?_; (case hd => rfl); (case hg => rfl); (case hr => first | (go_simp; done) | (go_simp; rfl)); intro gb283 hg w23 hbox hb; have n0_ := Ax (blk_below (g := gb282) (o := .cells #[.bool a0_0, .int .u64 a0_1, .int .u64 a0_2, .int .i64 a0_3] 33 (0, 0)) (bf0 BK282.out) hb); have n1_ := Ax (below_step (bw1 HB.out GE282.out) hb); have n2_ := Ax (hbox); have n3_ := Ax ((by rw [hg]; exact (below_size (bw1 HB.out GE282.out)) : w.heap.size ≤ gb283)); have n4_ := Ax ((by rw [hg]; exact (below_size (bw1 HB.out GE282.out)) : w.heap.size ≤ gb283)); have n5_ := Ax ((by rw [hg]; exact Nat.ne_of_lt (blk_lt (g := gb282) (o := .cells #[.bool a0_0, .int .u64 a0_1, .int .u64 a0_2, .int .i64 a0_3] 33 (0, 0)) (bf0 BK282.out)) : gb282 ≠ gb283)); have n6_ := Ax ((by rw [hg]; exact Nat.ne_of_gt (blk_lt (g := gb282) (o := .cells #[.bool a0_0, .int .u64 a0_1, .int .u64 a0_2, .int .i64 a0_3] 33 (0, 0)) (bf0 BK282.out)) : gb283 ≠ gb282)); clear BK282; clear HB; have BK282 := n0_; have HB := n1_; have BK283 := n2_; have GW283 := n3_; have GE283 := n4_; have NB282_283 := n5_; have NB283_282 := n6_; clear n0_ n1_ n2_ n3_ n4_ n5_ n6_; clear hb hbox hg) | ((with_reducible refine gate_dst (N := 3) rfl ?_); refine box_event ?hg (N := 3) ?hd (cs := #[.bool false, .int .u64 0, .int .u64 0, .int .i64 0]) (t := 33) ?hr ?_; (case hd => rfl); (case hg => rfl); (case hr => first | (go_simp; done) | (go_simp; rfl)); intro gb284 hg w24 hbox hb; have n0_ := Ax (blk_below (g := gb282) (o := .cells #[.bool a0_0, .int .u64 a0_1, .int .u64 a0_2, .int .i64 a0_3] 33 (0, 0)) (bf0 BK282.out) hb); have n1_ := Ax (blk_below (g := gb283) (o := .cells #[.bool false, .int .u64 0, .int .u64 0, .int .i64 0] 33 (0, 0)) (bf0 BK283.out) hb); have n2_ := Ax (below_step (bw2 HB.out GE282.out GE283.out) hb); have n3_ := Ax (hbox); have n4_ := Ax ((by rw [hg]; exact (below_size (bw2 HB.out GE282.out GE283.out)) : w.heap.size ≤ gb284)); have n5_ := Ax ((by rw [hg]; exact (below_size (bw2 HB.out GE282.out GE283.out)) : w.heap.size ≤ gb284)); have n6_ := Ax ((by rw [hg]; exact Nat.ne_of_lt (blk_lt (g := gb282) (o := .cells #[.bool a0_0, .int .u64 a0_1, .int .u64 a0_2, .int .i64 a0_3] 33 (0, 0)) (bf0 BK282.out)) : gb282 ≠ gb284)); have n7_ := Ax ((by rw [hg]; exact Nat.ne_of_gt (blk_lt (g := gb282) (o := .cells #[.bool a0_0, .int .u64 a0_1, .int .u64 a0_2, .int .i64 a0_3] 33 (0, 0)) (bf0 BK282.out)) : gb284 ≠ gb282)); have n8_ := Ax ((by rw [hg]; exact Nat.ne_of_lt (blk_lt (g := gb283) (o := .cells #[.bool false, .int .u64 0, .int .u64 0, .int .i64 0] 33 (0, 0)) (bf0 BK283.out)) : gb283 ≠ gb284)); have n9_ := Ax ((by rw [hg]; exact Nat.ne_of_gt (blk_lt (g := gb283) (o := .cells #[.bool false, .int .u64 0, .int .u64 0, .int .i64 0] 33 (0, 0)) (bf0 BK283.out)) : gb284 ≠ gb283)); clear BK282; clear BK283; clear HB; have BK282 := n0_; have BK283 := n1_; have HB := n2_; have BK284 := n3_; have GW284 := n4_; have GE284 := n5_; have NB282_284 := n6_; have NB284_282 := n7_; have NB283_284 := n8_; have NB284_283 := n9_; clear n0_ n1_ n2_ n3_ n4_ n5_ n6_ n7_ n8_ n9_; clear hb hbox hg; have hnb25 := NB282_283.out; have hnc25 := NB283_282.out; have hnb26 := NB282_284.out; have hnc26 := NB284_282.out; have hcz27_0 : w24.cell? ⟨gb282, 0, none⟩ = some (.bool a0_0) := (blk_cell BK282.out 0).trans rfl; have hcz27_1 : w24.cell? ⟨gb282, 1, none⟩ = some (.int .u64 a0_1) := (blk_cell BK282.out 1).trans rfl; have hcz27_2 : w24.cell? ⟨gb282, 2, none⟩ = some (.int .u64 a0_2) := (blk_cell BK282.out 2).trans rfl; have hcz27_3 : w24.cell? ⟨gb282, 3, none⟩ = some (.int .i64 a0_3) := (blk_cell BK282.out 3).trans rfl; have hfz27_0 := blk_frozen BK282.out 0; have hfz27_1 := blk_frozen BK282.out 1; have hfz27_2 := blk_frozen BK282.out 2; have hfz27_3 := blk_frozen BK282.out 3) | ((with_reducible refine gate_callee (f := 21) rfl ?_); refine goesL_ (some 7) rfl rfl Try.func21 (by kernel_rfl) rfl #[.agg #[.bool a0_0, .int .u64 a0_1, .int .u64 a0_2, .int .i64 a0_3]] rfl gS ?_; (with_reducible refine (spoorref09_Check.calls k a0_0 a0_1 a0_2 a0_3 t285 _ A2.out).mono ?_); rintro e w28 ⟨rfl, hb⟩; refine ⟨_, rfl, ?_⟩; have n0_ := Ax (blk_below (g := gb282) (o := .cells #[.bool a0_0, .int .u64 a0_1, .int .u64 a0_2, .int .i64 a0_3] 33 (0, 0)) (bf0 BK282.out) hb); have n1_ := Ax (blk_below (g := gb283) (o := .cells #[.bool false, .int .u64 0, .int .u64 0, .int .i64 0] 33 (0, 0)) (bf0 BK283.out) hb); have n2_ := Ax (blk_below (g := gb284) (o := .cells #[.bool false, .int .u64 0, .int .u64 0, .int .i64 0] 33 (0, 0)) (bf0 BK284.out) hb); have n3_ := Ax (below_step (bw3 HB.out GE282.out GE283.out GE284.out) hb); clear BK282; clear BK283; clear BK284; clear HB; have BK282 := n0_; have BK283 := n1_; have BK284 := n2_; have HB := n3_; clear n0_ n1_ n2_ n3_; (try clear hb); (try clear hb2); (try clear hk); (try clear hi)))
     have n0_ := Ax (blk_drew BK282.out)
     have n1_ := Ax (blk_drew BK283.out)
     have n2_ := Ax (blk_drew BK284.out)
     have n3_ := Ax (below_drew1 HB.out)
     clear BK282
     clear BK283
     clear BK284
     clear HB
     have BK282 := n0_
     have BK283 := n1_
     have BK284 := n2_
     have HB := n3_
     clear n0_ n1_ n2_ n3_
     refine start_ (n := 6) (S := fun w' => w'.cell? ⟨gb282, 0, none⟩ = some (.bool a0_0) ∧ w'.cell? ⟨gb282, 1, none⟩ = some (.int .u64 a0_1) ∧ w'.cell? ⟨gb282, 2, none⟩ = some (.int .u64 a0_2) ∧ w'.cell? ⟨gb282, 3, none⟩ = some (.int .i64 a0_3)) (ds := []) #[fa,fa,fa,fa,fa,fa] (by kernel_rfl) rfl rfl ⟨(blk_cell BK282.out 0).trans rfl, (blk_cell BK282.out 1).trans rfl, (blk_cell BK282.out 2).trans rfl, (blk_cell BK282.out 3).trans rfl⟩ (fun hHeld => ?_)
     generalize w28.drew = w29 at BK282 BK283 BK284 HB hHeld ⊢
     refine pure_ (i := 0) (N := some 11) (v := ?_) (a' := ?_) #[tr,fa,fa,fa,fa,fa] rfl rfl (by kernel_rfl) (fun _ _ _ h => h) (Or.inl ⟨by rfl, ?_⟩) ?_ ?_
     rotate_left
     ·intro w'
      go_simp
      with_reducible rfl
     rotate_left
     ·simp only [sP]
      rfl
     refine pure_ (i := 2) (N := some 13) (v := ?_) (a' := ?_) #[tr,fa,tr,fa,fa,fa] rfl rfl (by kernel_rfl) (fun _ _ _ h => h) (Or.inl ⟨by rfl, ?_⟩) ?_ ?_
     rotate_left
     ·intro w'
      go_simp
      with_reducible rfl
     rotate_left
     ·simp only [sP]
      rfl
     refine take_ (i := 1) (N := some 12) (v := ?_) (a' := ?_) #[tr,tr,tr,fa,fa,fa] rfl rfl (by kernel_rfl) (fun _ _ _ h => h) (Or.inl ⟨by rfl, ?_⟩) hHeld ?_ ?_
     rotate_left
     ·rintro w' ⟨s0, s1, s2, s3⟩
      go_simp
      with_reducible rfl
     rotate_left
     ·simp only [sP]
      rfl
     refine take_ (i := 3) (N := some 14) (v := ?_) (a' := ?_) #[tr,tr,tr,tr,fa,fa] rfl rfl (by kernel_rfl) (fun _ _ _ h => h) (Or.inl ⟨by rfl, ?_⟩) hHeld ?_ ?_
     rotate_left
     ·rintro w' ⟨s0, s1, s2, s3⟩
      go_simp
      with_reducible rfl
     rotate_left
     ·simp only [sP]
      rfl
     refine one_ (i := 4) (N := some 15) #[tr,tr,tr,tr,tr,fa] rfl rfl (by kernel_rfl) (by decide) (fun K hK => ?_)
     refine goes_ Try.func38 (by kernel_rfl) rfl #[.bool a0_0] (by rfl) rfl rfl gS ?_
     with_reducible refine (spoorref09_Wide.calls a0_0 t286 _ A4.out).mono ?_
     rintro e w' ⟨rfl, ⟨nd, rfl⟩⟩
     refine ⟨_, rfl, ?_⟩
     refine hK.out _ _ ⟨(blk_cell BK282.out 0).trans rfl, (blk_cell BK282.out 1).trans rfl, (blk_cell BK282.out 2).trans rfl, (blk_cell BK282.out 3).trans rfl⟩ (fun hHeld => ?_)
     clear hK K
     refine norm_ (a' := ?_) ?_ ?_
     rotate_left
     ·show Act.put _ (some 15) _ = _
      simp only [sP]
      rfl
     refine pure_ (i := 5) (N := some 16) (v := ?_) (a' := ?_) #[tr,tr,tr,tr,tr,tr] rfl rfl (by kernel_rfl) (fun _ _ _ h => h) (Or.inl ⟨by rfl, ?_⟩) ?_ ?_
     rotate_left
     ·intro w'
      go_simp
      with_reducible rfl
     rotate_left
     ·simp only [sP]
      rfl
     refine done_ (by kernel_rfl) ?_
     have hcz30_0 : w29.cell? ⟨gb282, 0, none⟩ = some (.bool a0_0) := (blk_cell BK282.out 0).trans rfl
     have hcz30_1 : w29.cell? ⟨gb282, 1, none⟩ = some (.int .u64 a0_1) := (blk_cell BK282.out 1).trans rfl
     have hcz30_2 : w29.cell? ⟨gb282, 2, none⟩ = some (.int .u64 a0_2) := (blk_cell BK282.out 2).trans rfl
     have hcz30_3 : w29.cell? ⟨gb282, 3, none⟩ = some (.int .i64 a0_3) := (blk_cell BK282.out 3).trans rfl
     have hfz30_0 := blk_frozen BK282.out 0
     have hfz30_1 := blk_frozen BK282.out 1
     have hfz30_2 := blk_frozen BK282.out 2
     have hfz30_3 := blk_frozen BK282.out 3
     try go_wp2_with (first | ((with_reducible refine gate_callee (f := 35) rfl ?_); refine goesL_ (some 23) rfl rfl Try.func35 (by kernel_rfl) rfl #[.bool a0_0, .agg #[.int .u64 a0_1, .int .u64 a0_2]] rfl gS ?_; (with_reducible refine (spoorref09_bits.calls k a0_0 a0_1 a0_2 t287 _ A17.out).mono ?_); rintro e w31 ⟨v288, rfl, ho0, hb⟩; refine ⟨_, rfl, ?_⟩; have n0_ := Ax (Kd.R_lower ho0 (below_size (bw3 HB.out GE282.out GE283.out GE284.out))); have n1_ := Ax (blk_below (g := gb282) (o := .cells #[.bool a0_0, .int .u64 a0_1, .int .u64 a0_2, .int .i64 a0_3] 33 (0, 0)) (bf0 BK282.out) hb); have n2_ := Ax (blk_below (g := gb283) (o := .cells #[.bool false, .int .u64 0, .int .u64 0, .int .i64 0] 33 (0, 0)) (bf0 BK283.out) hb); have n3_ := Ax (blk_below (g := gb284) (o := .cells #[.bool false, .int .u64 0, .int .u64 0, .int .i64 0] 33 (0, 0)) (bf0 BK284.out) hb); have n4_ := Ax (below_step (bw3 HB.out GE282.out GE283.out GE284.out) hb); clear BK282; clear BK283; clear BK284; clear HB; have HO289 := n0_; have BK282 := n1_; have BK283 := n2_; have BK284 := n3_; have HB := n4_; clear n0_ n1_ n2_ n3_ n4_; (try clear hb); (try clear hb2); (try clear hk); (try clear hi); (try clear ho0); have hcz32_0 : w31.cell? ⟨gb282, 0, none⟩ = some (.bool a0_0) := (blk_cell BK282.out 0).trans rfl; have hcz32_1 : w31.cell? ⟨gb282, 1, none⟩ = some (.int .u64 a0_1) := (blk_cell BK282.out 1).trans rfl; have hcz32_2 : w31.cell? ⟨gb282, 2, none⟩ = some (.int .u64 a0_2) := (blk_cell BK282.out 2).trans rfl; have hcz32_3 : w31.cell? ⟨gb282, 3, none⟩ = some (.int .i64 a0_3) := (blk_cell BK282.out 3).trans rfl; have hfz32_0 := blk_frozen BK282.out 0; have hfz32_1 := blk_frozen BK282.out 1; have hfz32_2 := blk_frozen BK282.out 2; have hfz32_3 := blk_frozen BK282.out 3; have p20 : 0 ≤ (a0_3 : Int) := of_decide_eq_true (by first | (with_reducible assumption) | assumption); have q20 : (a0_3 : Int) < ((t287.length : Int) : Int) := of_decide_eq_true (by first | (with_reducible assumption) | assumption); obtain ⟨go20, co20, eo20, gb20, gl20, cl20, HG20⟩ := Kd.R_form HO289.out (by omega); (first | cases eo20 | (injection eo20 with ea_ en_ ec_; (first | subst ea_ | (injection ea_ with ea_; subst ea_)); subst ec_; clear en_)); have GB20 := Ax gb20; have GG20 := Ax HG20; clear gb20 gl20 HG20; obtain ⟨hx20_0, hf20_0⟩ := Kd.R_celln 0 HO289.out (a0_3 : Int) p20 q20; replace p20 := eq_true p20; replace q20 := eq_true q20; obtain ⟨hy33_, hz33_⟩ := Kd.R_celln 0 HO289.out (a0_3 : Int) (of_decide_eq_true (by first | (with_reducible assumption) | assumption)) (of_decide_eq_true (by first | (with_reducible assumption) | assumption)); have HP33 := Kd.R_putg HO289.out (a0_3 : Int) 1) | ((with_reducible refine gate_store (t := 3) (p := 27) rfl ?_); refine store_event (t := 3) (p := 27) (v := ?vo_w34) (w1 := (w31.setCell ⟨go20, (a0_3 : Int).toNat, none⟩ (.int .i64 1))) ?hg ?ho ?hn ?hr ?_; (case ho => rfl); (case hg => rfl); (case hn => rfl); (case hr => first | (go_simp; done) | (go_simp; rfl)); intro w34 hw; have hg : w31.grownBy w34 (some go20) := (by rw [hw]; exact HP33.2); have hp_ : Kd.R (Kd.int .i64) 3 w34 w.heap.size (fun _ => True) (.slice (some ⟨go20, 0, none⟩) t287.length co20) y290 := (by rw [hw, Ny290.out]; exact HP33.1); clear HP33; have n0_ := Ax (blk_grown (g := gb282) (o := .cells #[.bool a0_0, .int .u64 a0_1, .int .u64 a0_2, .int .i64 a0_3] 33 (0, 0)) (bf0 BK282.out) hg (Kd.R_ne HO289.out BK282.out (by decide))); have n1_ := Ax (blk_grown (g := gb283) (o := .cells #[.bool false, .int .u64 0, .int .u64 0, .int .i64 0] 33 (0, 0)) (bf0 BK283.out) hg (Kd.R_ne HO289.out BK283.out (by decide))); have n2_ := Ax (blk_grown (g := gb284) (o := .cells #[.bool false, .int .u64 0, .int .u64 0, .int .i64 0] 33 (0, 0)) (bf0 BK284.out) hg (Kd.R_ne HO289.out BK284.out (by decide))); have n3_ := Ax (hp_); have n4_ := Ax ((by rw [hw]; exact below_set (HB.out) GB20.out : Below w.heap.size w w34)); clear BK282; clear BK283; clear BK284; clear HO289; clear HB; have BK282 := n0_; have BK283 := n1_; have BK284 := n2_; have HO289 := n3_; have HB := n4_; clear n0_ n1_ n2_ n3_ n4_; clear hg hw hp_))
     have n0_ := Ax (Kd.R_drew HO289.out)
     have n1_ := Ax (blk_drew BK282.out)
     have n2_ := Ax (blk_drew BK283.out)
     have n3_ := Ax (blk_drew BK284.out)
     have n4_ := Ax (below_drew1 HB.out)
     clear HO289
     clear BK282
     clear BK283
     clear BK284
     clear HB
     have HO289 := n0_
     have BK282 := n1_
     have BK283 := n2_
     have BK284 := n3_
     have HB := n4_
     clear n0_ n1_ n2_ n3_ n4_
     refine start_ (n := 19) (S := fun w' => w'.cell? ⟨gb282, 0, none⟩ = some (.bool a0_0) ∧ w'.cell? ⟨gb282, 1, none⟩ = some (.int .u64 a0_1) ∧ w'.cell? ⟨gb282, 2, none⟩ = some (.int .u64 a0_2) ∧ w'.cell? ⟨gb282, 3, none⟩ = some (.int .i64 a0_3)) (ds := []) #[fa,fa,fa,fa,fa,fa,fa,fa,fa,fa,fa,fa,fa,fa,fa,fa,fa,fa,fa] (by kernel_rfl) rfl rfl ⟨(blk_cell BK282.out 0).trans rfl, (blk_cell BK282.out 1).trans rfl, (blk_cell BK282.out 2).trans rfl, (blk_cell BK282.out 3).trans rfl⟩ (fun hHeld => ?_); refine with_tabW spoorref09_Halves.tab7 spoorref09_Halves.bits7 (fun HT_ HW_ => ?_)
     generalize w34.drew = w35 at HO289 BK282 BK283 BK284 HB hHeld ⊢
     refine pure_ (i := 0) (N := some 28) (v := ?_) (a' := ?_) #[tr,fa,fa,fa,fa,fa,fa,fa,fa,fa,fa,fa,fa,fa,fa,fa,fa,fa,fa] rfl rfl (any_of HT_.out (by kernel_rfl)) (fun _ _ _ h => h) (Or.inl ⟨by rfl, ?_⟩) ?_ ?_
     rotate_left
     ·intro w'
      go_simp
      with_reducible rfl
     rotate_left
     ·simp only [sP]
      rfl
     refine pure_ (i := 2) (N := some 30) (v := ?_) (a' := ?_) #[tr,fa,tr,fa,fa,fa,fa,fa,fa,fa,fa,fa,fa,fa,fa,fa,fa,fa,fa] rfl rfl (any_of HT_.out (by kernel_rfl)) (fun _ _ _ h => h) (Or.inl ⟨by rfl, ?_⟩) ?_ ?_
     rotate_left
     ·intro w'
      go_simp
      with_reducible rfl
     rotate_left
     ·simp only [sP]
      rfl
     refine pure_ (i := 4) (N := some 32) (v := ?_) (a' := ?_) #[tr,fa,tr,fa,tr,fa,fa,fa,fa,fa,fa,fa,fa,fa,fa,fa,fa,fa,fa] rfl rfl (any_of HT_.out (by kernel_rfl)) (fun _ _ _ h => h) (Or.inl ⟨by rfl, ?_⟩) ?_ ?_
     rotate_left
     ·intro w'
      go_simp
      with_reducible rfl
     rotate_left
     ·simp only [sP]
      rfl
     refine pure_ (i := 8) (N := some 36) (v := ?_) (a' := ?_) #[tr,fa,tr,fa,tr,fa,fa,fa,tr,fa,fa,fa,fa,fa,fa,fa,fa,fa,fa] rfl rfl (any_of HT_.out (by kernel_rfl)) (fun _ _ _ h => h) (Or.inl ⟨by rfl, ?_⟩) ?_ ?_
     rotate_left
     ·intro w'
      go_simp
      with_reducible rfl
     rotate_left
     ·simp only [sP]
      rfl
     refine pure_ (i := 10) (N := some 38) (v := ?_) (a' := ?_) #[tr,fa,tr,fa,tr,fa,fa,fa,tr,fa,tr,fa,fa,fa,fa,fa,fa,fa,fa] rfl rfl (any_of HT_.out (by kernel_rfl)) (fun _ _ _ h => h) (Or.inl ⟨by rfl, ?_⟩) ?_ ?_
     rotate_left
     ·intro w'
      go_simp
      with_reducible rfl
     rotate_left
     ·simp only [sP]
      rfl
     refine pure_ (i := 12) (N := some 40) (v := ?_) (a' := ?_) #[tr,fa,tr,fa,tr,fa,fa,fa,tr,fa,tr,fa,tr,fa,fa,fa,fa,fa,fa] rfl rfl (any_of HT_.out (by kernel_rfl)) (fun _ _ _ h => h) (Or.inl ⟨by rfl, ?_⟩) ?_ ?_
     rotate_left
     ·intro w'
      go_simp
      with_reducible rfl
     rotate_left
     ·simp only [sP]
      rfl
     refine take_ (i := 1) (N := some 29) (v := ?_) (a' := ?_) #[tr,tr,tr,fa,tr,fa,fa,fa,tr,fa,tr,fa,tr,fa,fa,fa,fa,fa,fa] rfl rfl (take_ofW HT_.out HW_.out (by kernel_rfl)) (fun _ _ _ h => h) (Or.inl ⟨by rfl, ?_⟩) hHeld ?_ ?_
     rotate_left
     ·rintro w' ⟨s0, s1, s2, s3⟩
      go_simp
      with_reducible rfl
     rotate_left
     ·simp only [sP]
      rfl
     refine take_ (i := 3) (N := some 31) (v := ?_) (a' := ?_) #[tr,tr,tr,tr,tr,fa,fa,fa,tr,fa,tr,fa,tr,fa,fa,fa,fa,fa,fa] rfl rfl (take_ofW HT_.out HW_.out (by kernel_rfl)) (fun _ _ _ h => h) (Or.inl ⟨by rfl, ?_⟩) hHeld ?_ ?_
     rotate_left
     ·rintro w' ⟨s0, s1, s2, s3⟩
      go_simp
      with_reducible rfl
     rotate_left
     ·simp only [sP]
      rfl
     refine take_ (i := 5) (N := some 33) (v := ?_) (a' := ?_) #[tr,tr,tr,tr,tr,tr,fa,fa,tr,fa,tr,fa,tr,fa,fa,fa,fa,fa,fa] rfl rfl (take_ofW HT_.out HW_.out (by kernel_rfl)) (fun _ _ _ h => h) (Or.inl ⟨by rfl, ?_⟩) hHeld ?_ ?_
     rotate_left
     ·rintro w' ⟨s0, s1, s2, s3⟩
      go_simp
      with_reducible rfl
     rotate_left
     ·simp only [sP]
      rfl
     refine pure_ (i := 6) (N := some 34) (v := ?_) (a' := ?_) #[tr,tr,tr,tr,tr,tr,tr,fa,tr,fa,tr,fa,tr,fa,fa,fa,fa,fa,fa] rfl rfl (any_of HT_.out (by kernel_rfl)) (fun _ _ _ h => h) (Or.inl ⟨by rfl, ?_⟩) ?_ ?_
     rotate_left
     ·intro w'
      go_simp
      with_reducible rfl
     rotate_left
     ·simp only [sP]
      rfl
     refine pure_ (i := 7) (N := some 35) (v := ?_) (a' := ?_) #[tr,tr,tr,tr,tr,tr,tr,tr,tr,fa,tr,fa,tr,fa,fa,fa,fa,fa,fa] rfl rfl (any_of HT_.out (by kernel_rfl)) (fun _ _ _ h => h) (Or.inl ⟨by rfl, ?_⟩) ?_ ?_
     rotate_left
     ·intro w'
      go_simp
      with_reducible rfl
     rotate_left
     ·simp only [sP]
      rfl
     refine take_ (i := 9) (N := some 37) (v := ?_) (a' := ?_) #[tr,tr,tr,tr,tr,tr,tr,tr,tr,tr,tr,fa,tr,fa,fa,fa,fa,fa,fa] rfl rfl (take_ofW HT_.out HW_.out (by kernel_rfl)) (fun _ _ _ h => h) (Or.inl ⟨by rfl, ?_⟩) hHeld ?_ ?_
     rotate_left
     ·rintro w' ⟨s0, s1, s2, s3⟩
      go_simp
      with_reducible rfl
     rotate_left
     ·simp only [sP]
      rfl
     refine take_ (i := 13) (N := some 41) (v := ?_) (a' := ?_) #[tr,tr,tr,tr,tr,tr,tr,tr,tr,tr,tr,fa,tr,tr,fa,fa,fa,fa,fa] rfl rfl (take_ofW HT_.out HW_.out (by kernel_rfl)) (fun _ _ _ h => h) (Or.inl ⟨by rfl, ?_⟩) hHeld ?_ ?_
     rotate_left
     ·rintro w' ⟨s0, s1, s2, s3⟩
      go_simp
      with_reducible rfl
     rotate_left
     ·simp only [sP]
      rfl
     refine pure_ (i := 14) (N := some 42) (v := ?_) (a' := ?_) #[tr,tr,tr,tr,tr,tr,tr,tr,tr,tr,tr,fa,tr,tr,tr,fa,fa,fa,fa] rfl rfl (any_of HT_.out (by kernel_rfl)) (fun _ _ _ h => h) (Or.inl ⟨by rfl, ?_⟩) ?_ ?_
     rotate_left
     ·intro w'
      go_simp
      with_reducible rfl
     rotate_left
     ·simp only [sP]
      rfl
     refine one_ (i := 11) (N := some 39) #[tr,tr,tr,tr,tr,tr,tr,tr,tr,tr,tr,tr,tr,tr,tr,fa,fa,fa,fa] rfl rfl (one_of HT_.out (by kernel_rfl)) (by decide) (fun K hK => ?_)
     refine goes_ Try.func36 (by kernel_rfl) rfl #[.slice (some ⟨go20, 0, none⟩) y290.length co20] (by rfl) rfl rfl (by (try simp only [List.map_toArray, List.map_cons, List.map_nil]); first | done | (rw [show y290.length = t287.length from (Kd.R_reads' HO289.out).1.symm] <;> rfl) | rfl | (simp only [List.length_drop, List.length_take]; rfl)) ?_
     with_reducible refine (spoorref09_of.calls k _ _ y290 t291 t292 _ ?side1 ?side2 A21.out).mono ?_
     (case side1 => repeat (first | exact (Kd.R_reads' HO289.out).2.2 | (with_reducible refine Kd.C_alloc ?_ _) | (with_reducible refine Kd.C_drewN ?_ _) | (with_reducible refine Kd.C_drew ?_)))
     (case side2 => rw [show y290.length = t287.length from (Kd.R_reads' HO289.out).1.symm]; exact (Kd.R_reads' HO289.out).2.1)
     rintro e w36 ⟨rfl, hb⟩
     refine ⟨_, rfl, ?_⟩
     have n0_ := Ax (Kd.R_below (by (with_reducible repeat (first | apply Kd.R_alloc | apply Kd.R_drewN | apply Kd.R_drew)); exact HO289.out) hb)
     have n1_ := Ax (blk_below (g := gb282) (o := .cells #[.bool a0_0, .int .u64 a0_1, .int .u64 a0_2, .int .i64 a0_3] 33 (0, 0)) (bf0 BK282.out) hb)
     have n2_ := Ax (blk_below (g := gb283) (o := .cells #[.bool false, .int .u64 0, .int .u64 0, .int .i64 0] 33 (0, 0)) (bf0 BK283.out) hb)
     have n3_ := Ax (blk_below (g := gb284) (o := .cells #[.bool false, .int .u64 0, .int .u64 0, .int .i64 0] 33 (0, 0)) (bf0 BK284.out) hb)
     have n4_ := Ax (below_step (bw3 HB.out GE282.out GE283.out GE284.out) hb)
     clear HO289
     clear BK282
     clear BK283
     clear BK284
     clear HB
     have HO289 := n0_
     have BK282 := n1_
     have BK283 := n2_
     have BK284 := n3_
     have HB := n4_
     clear n0_ n1_ n2_ n3_ n4_
     (try clear hb)
     (try clear hb2)
     (try clear hk)
     (try clear hi)
     refine hK.out _ _ ⟨(blk_cell BK282.out 0).trans rfl, (blk_cell BK282.out 1).trans rfl, (blk_cell BK282.out 2).trans rfl, (blk_cell BK282.out 3).trans rfl⟩ (fun hHeld => ?_)
     clear hK K
     refine norm_ (a' := ?_) ?_ ?_
     rotate_left
     ·show Act.put _ (some 39) _ = _
      simp only [sP]
      rfl
     refine pure_ (i := 15) (N := some 43) (v := ?_) (a' := ?_) #[tr,tr,tr,tr,tr,tr,tr,tr,tr,tr,tr,tr,tr,tr,tr,tr,fa,fa,fa] rfl rfl (any_of HT_.out (by kernel_rfl)) (fun _ _ _ h => h) (Or.inl ⟨by rfl, ?_⟩) ?_ ?_
     rotate_left
     ·intro w'
      go_simp
      with_reducible rfl
     rotate_left
     ·simp only [sP]
      rfl
     refine one_ (i := 16) (N := none) #[tr,tr,tr,tr,tr,tr,tr,tr,tr,tr,tr,tr,tr,tr,tr,tr,tr,fa,fa] rfl rfl (one_of HT_.out (by kernel_rfl)) (by decide) (fun K hK => ?_)
     have hs37 : w36.cell? ⟨gb283, 0, none⟩ = some (.bool false) := (blk_cell BK283.out 0).trans rfl
     have hfs37 := blk_frozen BK283.out 0
     have hns37_0 := NB282_283.out
     have hns37_2 := NB284_283.out
     have hms37_0 := NB283_282.out
     have hms37_2 := NB283_284.out
     have hs38 : w36.cell? ⟨gb283, 1, none⟩ = some (.int .u64 0) := (blk_cell BK283.out 1).trans rfl
     have hfs38 := blk_frozen BK283.out 1
     have hns38_0 := NB282_283.out
     have hns38_2 := NB284_283.out
     have hms38_0 := NB283_282.out
     have hms38_2 := NB283_284.out
     have hs39 : w36.cell? ⟨gb283, 2, none⟩ = some (.int .u64 0) := (blk_cell BK283.out 2).trans rfl
     have hfs39 := blk_frozen BK283.out 2
     have hns39_0 := NB282_283.out
     have hns39_2 := NB284_283.out
     have hms39_0 := NB283_282.out
     have hms39_2 := NB283_284.out
     have hs40 : w36.cell? ⟨gb283, 3, none⟩ = some (.int .i64 0) := (blk_cell BK283.out 3).trans rfl
     have hfs40 := blk_frozen BK283.out 3
     have hns40_0 := NB282_283.out
     have hns40_2 := NB284_283.out
     have hms40_0 := NB283_282.out
     have hms40_2 := NB283_284.out
     refine skip_ (w1 := ?_) (by rfl) rfl ?_ ?_
     rotate_left
     ·go_simp
      rfl
     refine hK.out _ _ ⟨((cell_far (p := ⟨gb283, _, none⟩) NB282_283.out _).trans (((cell_far (p := ⟨gb283, _, none⟩) NB282_283.out _).trans (((cell_far (p := ⟨gb283, _, none⟩) NB282_283.out _).trans (((cell_far (p := ⟨gb283, _, none⟩) NB282_283.out _).trans (hHeld.1)))))))), ((cell_far (p := ⟨gb283, _, none⟩) NB282_283.out _).trans (((cell_far (p := ⟨gb283, _, none⟩) NB282_283.out _).trans (((cell_far (p := ⟨gb283, _, none⟩) NB282_283.out _).trans (((cell_far (p := ⟨gb283, _, none⟩) NB282_283.out _).trans (hHeld.2.1)))))))), ((cell_far (p := ⟨gb283, _, none⟩) NB282_283.out _).trans (((cell_far (p := ⟨gb283, _, none⟩) NB282_283.out _).trans (((cell_far (p := ⟨gb283, _, none⟩) NB282_283.out _).trans (((cell_far (p := ⟨gb283, _, none⟩) NB282_283.out _).trans (hHeld.2.2.1)))))))), ((cell_far (p := ⟨gb283, _, none⟩) NB282_283.out _).trans (((cell_far (p := ⟨gb283, _, none⟩) NB282_283.out _).trans (((cell_far (p := ⟨gb283, _, none⟩) NB282_283.out _).trans (((cell_far (p := ⟨gb283, _, none⟩) NB282_283.out _).trans (hHeld.2.2.2))))))))⟩ (fun hHeld => ?_)
     clear hK K
     refine one_ (i := 17) (N := none) #[tr,tr,tr,tr,tr,tr,tr,tr,tr,tr,tr,tr,tr,tr,tr,tr,tr,tr,fa] rfl rfl (one_of HT_.out (by kernel_rfl)) (by decide) (fun K hK => ?_)
     have hs41 : w36.cell? ⟨gb284, 0, none⟩ = some (.bool false) := (blk_cell BK284.out 0).trans rfl
     have hfs41 := blk_frozen BK284.out 0
     have hns41_0 := NB282_284.out
     have hns41_1 := NB283_284.out
     have hms41_0 := NB284_282.out
     have hms41_1 := NB284_283.out
     have hs42 : w36.cell? ⟨gb284, 1, none⟩ = some (.int .u64 0) := (blk_cell BK284.out 1).trans rfl
     have hfs42 := blk_frozen BK284.out 1
     have hns42_0 := NB282_284.out
     have hns42_1 := NB283_284.out
     have hms42_0 := NB284_282.out
     have hms42_1 := NB284_283.out
     have hs43 : w36.cell? ⟨gb284, 2, none⟩ = some (.int .u64 0) := (blk_cell BK284.out 2).trans rfl
     have hfs43 := blk_frozen BK284.out 2
     have hns43_0 := NB282_284.out
     have hns43_1 := NB283_284.out
     have hms43_0 := NB284_282.out
     have hms43_1 := NB284_283.out
     have hs44 : w36.cell? ⟨gb284, 3, none⟩ = some (.int .i64 0) := (blk_cell BK284.out 3).trans rfl
     have hfs44 := blk_frozen BK284.out 3
     have hns44_0 := NB282_284.out
     have hns44_1 := NB283_284.out
     have hms44_0 := NB284_282.out
     have hms44_1 := NB284_283.out
     refine skip_ (w1 := ?_) (by rfl) rfl ?_ ?_
     rotate_left
     ·go_simp
      rfl
     refine hK.out _ _ ⟨((cell_far (p := ⟨gb284, _, none⟩) NB282_284.out _).trans (((cell_far (p := ⟨gb284, _, none⟩) NB282_284.out _).trans (((cell_far (p := ⟨gb284, _, none⟩) NB282_284.out _).trans (((cell_far (p := ⟨gb284, _, none⟩) NB282_284.out _).trans (hHeld.1)))))))), ((cell_far (p := ⟨gb284, _, none⟩) NB282_284.out _).trans (((cell_far (p := ⟨gb284, _, none⟩) NB282_284.out _).trans (((cell_far (p := ⟨gb284, _, none⟩) NB282_284.out _).trans (((cell_far (p := ⟨gb284, _, none⟩) NB282_284.out _).trans (hHeld.2.1)))))))), ((cell_far (p := ⟨gb284, _, none⟩) NB282_284.out _).trans (((cell_far (p := ⟨gb284, _, none⟩) NB282_284.out _).trans (((cell_far (p := ⟨gb284, _, none⟩) NB282_284.out _).trans (((cell_far (p := ⟨gb284, _, none⟩) NB282_284.out _).trans (hHeld.2.2.1)))))))), ((cell_far (p := ⟨gb284, _, none⟩) NB282_284.out _).trans (((cell_far (p := ⟨gb284, _, none⟩) NB282_284.out _).trans (((cell_far (p := ⟨gb284, _, none⟩) NB282_284.out _).trans (((cell_far (p := ⟨gb284, _, none⟩) NB282_284.out _).trans (hHeld.2.2.2))))))))⟩ (fun hHeld => ?_)
     clear hK K
     refine pure_ (i := 18) (N := some 4) (v := ?_) (a' := ?_) #[tr,tr,tr,tr,tr,tr,tr,tr,tr,tr,tr,tr,tr,tr,tr,tr,tr,tr,tr] rfl rfl (any_of HT_.out (by kernel_rfl)) (fun _ _ _ h => h) (Or.inl ⟨by rfl, ?_⟩) ?_ ?_
     rotate_left
     ·intro w'
      go_simp
      with_reducible rfl
     rotate_left
     ·simp only [sP]
      rfl
     refine done_ (done_of HT_.out (by kernel_rfl)) ?_
     try go_wp2
     refine bodyPost_ret (results_list (rs := [.cell 2 33, .cell 3 33, .tmp 4]) rfl (by simp) (.cell gb283 33 #[.bool a0_0, .int .u64 a0_1, .int .u64 a0_2, .int .i64 (wrap64 (a0_3 + 1))] (0, 0) _ rfl (by (with_reducible repeat (first | refine blk_drewN ?_ _ | refine blk_drew ?_ | refine blk_alloc ?_ _)); refine blk_far ?_ NB283_284.out _; (with_reducible repeat (first | refine blk_drewN ?_ _ | refine blk_drew ?_ | refine blk_alloc ?_ _)); refine blk_far ?_ NB283_284.out _; (with_reducible repeat (first | refine blk_drewN ?_ _ | refine blk_drew ?_ | refine blk_alloc ?_ _)); refine blk_far ?_ NB283_284.out _; (with_reducible repeat (first | refine blk_drewN ?_ _ | refine blk_drew ?_ | refine blk_alloc ?_ _)); refine blk_far ?_ NB283_284.out _; (with_reducible repeat (first | refine blk_drewN ?_ _ | refine blk_drew ?_ | refine blk_alloc ?_ _)); refine blk_put (cs := #[.bool a0_0, .int .u64 a0_1, .int .u64 a0_2, .int .i64 0]) ?_ 3 _ rfl; (with_reducible repeat (first | refine blk_drewN ?_ _ | refine blk_drew ?_ | refine blk_alloc ?_ _)); refine blk_put (cs := #[.bool a0_0, .int .u64 a0_1, .int .u64 0, .int .i64 0]) ?_ 2 _ rfl; (with_reducible repeat (first | refine blk_drewN ?_ _ | refine blk_drew ?_ | refine blk_alloc ?_ _)); refine blk_put (cs := #[.bool a0_0, .int .u64 0, .int .u64 0, .int .i64 0]) ?_ 1 _ rfl; (with_reducible repeat (first | refine blk_drewN ?_ _ | refine blk_drew ?_ | refine blk_alloc ?_ _)); refine blk_put (cs := #[.bool false, .int .u64 0, .int .u64 0, .int .i64 0]) ?_ 0 _ rfl; (with_reducible repeat (first | refine blk_drewN ?_ _ | refine blk_drew ?_ | refine blk_alloc ?_ _)); exact BK283.out) Try.underlying33 rfl (by kernel_rfl) (.cell gb284 33 #[.bool a0_0, .int .u64 t291, .int .u64 t292, .int .i64 (wrap64 (a0_3 + 1))] (0, 0) _ rfl (by (with_reducible repeat (first | refine blk_drewN ?_ _ | refine blk_drew ?_ | refine blk_alloc ?_ _)); refine blk_put (cs := #[.bool a0_0, .int .u64 t291, .int .u64 t292, .int .i64 0]) ?_ 3 _ rfl; (with_reducible repeat (first | refine blk_drewN ?_ _ | refine blk_drew ?_ | refine blk_alloc ?_ _)); refine blk_put (cs := #[.bool a0_0, .int .u64 t291, .int .u64 0, .int .i64 0]) ?_ 2 _ rfl; (with_reducible repeat (first | refine blk_drewN ?_ _ | refine blk_drew ?_ | refine blk_alloc ?_ _)); refine blk_put (cs := #[.bool a0_0, .int .u64 0, .int .u64 0, .int .i64 0]) ?_ 1 _ rfl; (with_reducible repeat (first | refine blk_drewN ?_ _ | refine blk_drew ?_ | refine blk_alloc ?_ _)); refine blk_put (cs := #[.bool false, .int .u64 0, .int .u64 0, .int .i64 0]) ?_ 0 _ rfl; (with_reducible repeat (first | refine blk_drewN ?_ _ | refine blk_drew ?_ | refine blk_alloc ?_ _)); refine blk_far ?_ NB284_283.out _; (with_reducible repeat (first | refine blk_drewN ?_ _ | refine blk_drew ?_ | refine blk_alloc ?_ _)); refine blk_far ?_ NB284_283.out _; (with_reducible repeat (first | refine blk_drewN ?_ _ | refine blk_drew ?_ | refine blk_alloc ?_ _)); refine blk_far ?_ NB284_283.out _; (with_reducible repeat (first | refine blk_drewN ?_ _ | refine blk_drew ?_ | refine blk_alloc ?_ _)); refine blk_far ?_ NB284_283.out _; (with_reducible repeat (first | refine blk_drewN ?_ _ | refine blk_drew ?_ | refine blk_alloc ?_ _)); exact BK284.out) Try.underlying33 rfl (by kernel_rfl) (.tmp .nil)))) rfl ?_
     exact ⟨eS, bw3 HB.out GE282.out GE283.out GE284.out⟩
    ·rw [if_neg c19] at H
     exact absurd H (by simp)
   ·rw [if_neg c18] at H
    exact absurd H (by simp)
 ·rw [if_neg c3] at H
  have c3b0 : (t285 == 0) = false := beq_eq_false_iff_ne.mpr c3
  have c3b1 : (t285 != 0) = true := bne_iff_ne.mpr c3
  simp only [Option.some.injEq, Prod.mk.injEq] at H
  obtain ⟨rfl, rfl, rfl, rfl, rfl, rfl, rfl, rfl, rfl⟩ := H
  go_enter Try.func19, Try.ntmps19
  go_wp2_with (first | ((with_reducible refine gate_dst (N := 1) rfl ?_); refine box_event ?hg (N := 1) ?hd (cs := #[.bool a0_0, .int .u64 a0_1, .int .u64 a0_2, .int .i64 a0_3]) (t := 33) ?hr ?_; (case hd => rfl); (case hg => rfl); (case hr => first | (go_simp; done) | (go_simp; rfl)); intro gb282 hg w45 hbox hb; have n0_ := Ax (below_step (bw0 HB.out) hb); have n1_ := Ax (hbox); have n2_ := Ax ((by rw [hg]; exact (below_size (bw0 HB.out)) : w.heap.size ≤ gb282)); have n3_ := Ax ((by rw [hg]; exact (below_size (bw0 HB.out)) : w.heap.size ≤ gb282)); clear HB; have HB := n0_; have BK282 := n1_; have GW282 := n2_; have GE282 := n3_; clear n0_ n1_ n2_ n3_; clear hb hbox hg) | ((with_reducible refine gate_dst (N := 2) rfl ?_); refine box_event ?hg (N := 2) ?hd (cs := #[.bool false, .int .u64 0, .int .u64 0, .int .i64 0]) (t := 33) ?hr ?_; (case hd => rfl); (case hg => rfl); (case hr => first | (go_simp; done) | (go_simp; rfl)); intro gb283 hg w46 hbox hb; have n0_ := Ax (blk_below (g := gb282) (o := .cells #[.bool a0_0, .int .u64 a0_1, .int .u64 a0_2, .int .i64 a0_3] 33 (0, 0)) (bf0 BK282.out) hb); have n1_ := Ax (below_step (bw1 HB.out GE282.out) hb); have n2_ := Ax (hbox); have n3_ := Ax ((by rw [hg]; exact (below_size (bw1 HB.out GE282.out)) : w.heap.size ≤ gb283)); have n4_ := Ax ((by rw [hg]; exact (below_size (bw1 HB.out GE282.out)) : w.heap.size ≤ gb283)); have n5_ := Ax ((by rw [hg]; exact Nat.ne_of_lt (blk_lt (g := gb282) (o := .cells #[.bool a0_0, .int .u64 a0_1, .int .u64 a0_2, .int .i64 a0_3] 33 (0, 0)) (bf0 BK282.out)) : gb282 ≠ gb283)); have n6_ := Ax ((by rw [hg]; exact Nat.ne_of_gt (blk_lt (g := gb282) (o := .cells #[.bool a0_0, .int .u64 a0_1, .int .u64 a0_2, .int .i64 a0_3] 33 (0, 0)) (bf0 BK282.out)) : gb283 ≠ gb282)); clear BK282; clear HB; have BK282 := n0_; have HB := n1_; have BK283 := n2_; have GW283 := n3_; have GE283 := n4_; have NB282_283 := n5_; have NB283_282 := n6_; clear n0_ n1_ n2_ n3_ n4_ n5_ n6_; clear hb hbox hg) | ((with_reducible refine gate_dst (N := 3) rfl ?_); refine box_event ?hg (N := 3) ?hd (cs := #[.bool false, .int .u64 0, .int .u64 0, .int .i64 0]) (t := 33) ?hr ?_; (case hd => rfl); (case hg => rfl); (case hr => first | (go_simp; done) | (go_simp; rfl)); intro gb284 hg w47 hbox hb; have n0_ := Ax (blk_below (g := gb282) (o := .cells #[.bool a0_0, .int .u64 a0_1, .int .u64 a0_2, .int .i64 a0_3] 33 (0, 0)) (bf0 BK282.out) hb); have n1_ := Ax (blk_below (g := gb283) (o := .cells #[.bool false, .int .u64 0, .int .u64 0, .int .i64 0] 33 (0, 0)) (bf0 BK283.out) hb); have n2_ := Ax (below_step (bw2 HB.out GE282.out GE283.out) hb); have n3_ := Ax (hbox); have n4_ := Ax ((by rw [hg]; exact (below_size (bw2 HB.out GE282.out GE283.out)) : w.heap.size ≤ gb284)); have n5_ := Ax ((by rw [hg]; exact (below_size (bw2 HB.out GE282.out GE283.out)) : w.heap.size ≤ gb284)); have n6_ := Ax ((by rw [hg]; exact Nat.ne_of_lt (blk_lt (g := gb282) (o := .cells #[.bool a0_0, .int .u64 a0_1, .int .u64 a0_2, .int .i64 a0_3] 33 (0, 0)) (bf0 BK282.out)) : gb282 ≠ gb284)); have n7_ := Ax ((by rw [hg]; exact Nat.ne_of_gt (blk_lt (g := gb282) (o := .cells #[.bool a0_0, .int .u64 a0_1, .int .u64 a0_2, .int .i64 a0_3] 33 (0, 0)) (bf0 BK282.out)) : gb284 ≠ gb282)); have n8_ := Ax ((by rw [hg]; exact Nat.ne_of_lt (blk_lt (g := gb283) (o := .cells #[.bool false, .int .u64 0, .int .u64 0, .int .i64 0] 33 (0, 0)) (bf0 BK283.out)) : gb283 ≠ gb284)); have n9_ := Ax ((by rw [hg]; exact Nat.ne_of_gt (blk_lt (g := gb283) (o := .cells #[.bool false, .int .u64 0, .int .u64 0, .int .i64 0] 33 (0, 0)) (bf0 BK283.out)) : gb284 ≠ gb283)); clear BK282; clear BK283; clear HB; have BK282 := n0_; have BK283 := n1_; have HB := n2_; have BK284 := n3_; have GW284 := n4_; have GE284 := n5_; have NB282_284 := n6_; have NB284_282 := n7_; have NB283_284 := n8_; have NB284_283 := n9_; clear n0_ n1_ n2_ n3_ n4_ n5_ n6_ n7_ n8_ n9_; clear hb hbox hg; have hnb48 := NB282_283.out; have hnc48 := NB283_282.out; have hnb49 := NB282_284.out; have hnc49 := NB284_282.out; have hcz50_0 : w47.cell? ⟨gb282, 0, none⟩ = some (.bool a0_0) := (blk_cell BK282.out 0).trans rfl; have hcz50_1 : w47.cell? ⟨gb282, 1, none⟩ = some (.int .u64 a0_1) := (blk_cell BK282.out 1).trans rfl; have hcz50_2 : w47.cell? ⟨gb282, 2, none⟩ = some (.int .u64 a0_2) := (blk_cell BK282.out 2).trans rfl; have hcz50_3 : w47.cell? ⟨gb282, 3, none⟩ = some (.int .i64 a0_3) := (blk_cell BK282.out 3).trans rfl; have hfz50_0 := blk_frozen BK282.out 0; have hfz50_1 := blk_frozen BK282.out 1; have hfz50_2 := blk_frozen BK282.out 2; have hfz50_3 := blk_frozen BK282.out 3) | ((with_reducible refine gate_callee (f := 21) rfl ?_); refine goesL_ (some 7) rfl rfl Try.func21 (by kernel_rfl) rfl #[.agg #[.bool a0_0, .int .u64 a0_1, .int .u64 a0_2, .int .i64 a0_3]] rfl gS ?_; (with_reducible refine (spoorref09_Check.calls k a0_0 a0_1 a0_2 a0_3 t285 _ A2.out).mono ?_); rintro e w51 ⟨rfl, hb⟩; refine ⟨_, rfl, ?_⟩; have n0_ := Ax (blk_below (g := gb282) (o := .cells #[.bool a0_0, .int .u64 a0_1, .int .u64 a0_2, .int .i64 a0_3] 33 (0, 0)) (bf0 BK282.out) hb); have n1_ := Ax (blk_below (g := gb283) (o := .cells #[.bool false, .int .u64 0, .int .u64 0, .int .i64 0] 33 (0, 0)) (bf0 BK283.out) hb); have n2_ := Ax (blk_below (g := gb284) (o := .cells #[.bool false, .int .u64 0, .int .u64 0, .int .i64 0] 33 (0, 0)) (bf0 BK284.out) hb); have n3_ := Ax (below_step (bw3 HB.out GE282.out GE283.out GE284.out) hb); clear BK282; clear BK283; clear BK284; clear HB; have BK282 := n0_; have BK283 := n1_; have BK284 := n2_; have HB := n3_; clear n0_ n1_ n2_ n3_; (try clear hb); (try clear hb2); (try clear hk); (try clear hi); have hnb52 := NB283_284.out; have hnc52 := NB284_283.out; have hcz53_0 : w51.cell? ⟨gb283, 0, none⟩ = some (.bool false) := (blk_cell BK283.out 0).trans rfl; have hcz53_1 : w51.cell? ⟨gb283, 1, none⟩ = some (.int .u64 0) := (blk_cell BK283.out 1).trans rfl; have hcz53_2 : w51.cell? ⟨gb283, 2, none⟩ = some (.int .u64 0) := (blk_cell BK283.out 2).trans rfl; have hcz53_3 : w51.cell? ⟨gb283, 3, none⟩ = some (.int .i64 0) := (blk_cell BK283.out 3).trans rfl; have hfz53_0 := blk_frozen BK283.out 0; have hfz53_1 := blk_frozen BK283.out 1; have hfz53_2 := blk_frozen BK283.out 2; have hfz53_3 := blk_frozen BK283.out 3; have hcz54_0 : w51.cell? ⟨gb284, 0, none⟩ = some (.bool false) := (blk_cell BK284.out 0).trans rfl; have hcz54_1 : w51.cell? ⟨gb284, 1, none⟩ = some (.int .u64 0) := (blk_cell BK284.out 1).trans rfl; have hcz54_2 : w51.cell? ⟨gb284, 2, none⟩ = some (.int .u64 0) := (blk_cell BK284.out 2).trans rfl; have hcz54_3 : w51.cell? ⟨gb284, 3, none⟩ = some (.int .i64 0) := (blk_cell BK284.out 3).trans rfl; have hfz54_0 := blk_frozen BK284.out 0; have hfz54_1 := blk_frozen BK284.out 1; have hfz54_2 := blk_frozen BK284.out 2; have hfz54_3 := blk_frozen BK284.out 3))
  refine bodyPost_ret (results_list (rs := [.cell 2 33, .cell 3 33, .tmp 4]) rfl (by simp) (.cell gb283 33 #[.bool false, .int .u64 0, .int .u64 0, .int .i64 0] (0, 0) _ rfl (by (with_reducible repeat (first | refine blk_drewN ?_ _ | refine blk_drew ?_ | refine blk_alloc ?_ _)); refine blk_far ?_ NB283_284.out _; (with_reducible repeat (first | refine blk_drewN ?_ _ | refine blk_drew ?_ | refine blk_alloc ?_ _)); refine blk_far ?_ NB283_284.out _; (with_reducible repeat (first | refine blk_drewN ?_ _ | refine blk_drew ?_ | refine blk_alloc ?_ _)); refine blk_far ?_ NB283_284.out _; (with_reducible repeat (first | refine blk_drewN ?_ _ | refine blk_drew ?_ | refine blk_alloc ?_ _)); refine blk_far ?_ NB283_284.out _; (with_reducible repeat (first | refine blk_drewN ?_ _ | refine blk_drew ?_ | refine blk_alloc ?_ _)); refine blk_put (cs := #[.bool false, .int .u64 0, .int .u64 0, .int .i64 0]) ?_ 3 _ rfl; (with_reducible repeat (first | refine blk_drewN ?_ _ | refine blk_drew ?_ | refine blk_alloc ?_ _)); refine blk_put (cs := #[.bool false, .int .u64 0, .int .u64 0, .int .i64 0]) ?_ 2 _ rfl; (with_reducible repeat (first | refine blk_drewN ?_ _ | refine blk_drew ?_ | refine blk_alloc ?_ _)); refine blk_put (cs := #[.bool false, .int .u64 0, .int .u64 0, .int .i64 0]) ?_ 1 _ rfl; (with_reducible repeat (first | refine blk_drewN ?_ _ | refine blk_drew ?_ | refine blk_alloc ?_ _)); refine blk_put (cs := #[.bool false, .int .u64 0, .int .u64 0, .int .i64 0]) ?_ 0 _ rfl; (with_reducible repeat (first | refine blk_drewN ?_ _ | refine blk_drew ?_ | refine blk_alloc ?_ _)); exact BK283.out) Try.underlying33 rfl (by kernel_rfl) (.cell gb284 33 #[.bool false, .int .u64 0, .int .u64 0, .int .i64 0] (0, 0) _ rfl (by (with_reducible repeat (first | refine blk_drewN ?_ _ | refine blk_drew ?_ | refine blk_alloc ?_ _)); refine blk_put (cs := #[.bool false, .int .u64 0, .int .u64 0, .int .i64 0]) ?_ 3 _ rfl; (with_reducible repeat (first | refine blk_drewN ?_ _ | refine blk_drew ?_ | refine blk_alloc ?_ _)); refine blk_put (cs := #[.bool false, .int .u64 0, .int .u64 0, .int .i64 0]) ?_ 2 _ rfl; (with_reducible repeat (first | refine blk_drewN ?_ _ | refine blk_drew ?_ | refine blk_alloc ?_ _)); refine blk_put (cs := #[.bool false, .int .u64 0, .int .u64 0, .int .i64 0]) ?_ 1 _ rfl; (with_reducible repeat (first | refine blk_drewN ?_ _ | refine blk_drew ?_ | refine blk_alloc ?_ _)); refine blk_put (cs := #[.bool false, .int .u64 0, .int .u64 0, .int .i64 0]) ?_ 0 _ rfl; (with_reducible repeat (first | refine blk_drewN ?_ _ | refine blk_drew ?_ | refine blk_alloc ?_ _)); refine blk_far ?_ NB284_283.out _; (with_reducible repeat (first | refine blk_drewN ?_ _ | refine blk_drew ?_ | refine blk_alloc ?_ _)); refine blk_far ?_ NB284_283.out _; (with_reducible repeat (first | refine blk_drewN ?_ _ | refine blk_drew ?_ | refine blk_alloc ?_ _)); refine blk_far ?_ NB284_283.out _; (with_reducible repeat (first | refine blk_drewN ?_ _ | refine blk_drew ?_ | refine blk_alloc ?_ _)); refine blk_far ?_ NB284_283.out _; (with_reducible repeat (first | refine blk_drewN ?_ _ | refine blk_drew ?_ | refine blk_alloc ?_ _)); exact BK284.out) Try.underlying33 rfl (by kernel_rfl) (.tmp .nil)))) rfl ?_
  exact ⟨eS, bw3 HB.out GE282.out GE283.out GE284.out⟩

end Go.Proofs.Ytafclgjnomocdaa.Q
