-- Printed by this session's program wip/tools/mp.sh out of the translation.
import Derived.Test.YtafclgjnomocdaaQx0
import Derived.Test.YtafclgjnomocdaaQx3
import Derived.Test.YtafclgjnomocdaaQx8
import Derived.Test.YtafclgjnomocdaaQx9
import Derived.Test.YtafclgjnomocdaaQx10
namespace Go.Proofs.Ytafclgjnomocdaa.Q
open Go.RowKit Go.Proofs.YtafclgjnomocdaaW.PrintWords Go.Proofs.YtafclgjnomocdaaW.PrintLast Go.Proofs.YtafclgjnomocdaaW.PrintMore
attribute [local go_sem] max2_int min2_int max_two min_two max_three min_three max_four min_four   -- for this text's walks alone
set_option linter.unusedVariables false
set_option linter.unusedSimpArgs false

/-! ### addr_Halves: function 18 -/
set_option maxHeartbeats 8000000 in
set_option maxRecDepth 100000 in
theorem addr_Halves.calls (k : Nat) (a0_0 : Bool) (a0_1 : Int) (a0_2 : Int) (a0_3 : Int) (r1 : Bool) (r2 : Int) (r3 : Int) (r4 : Int) (r5 : Bool) (r6 : Int) (r7 : Int) (r8 : Int) (r9 : Int) (w : World) (h : addr_Halves.f k a0_0 a0_1 a0_2 a0_3 = some (r1, r2, r3, r4, r5, r6, r7, r8, r9)) :
  Calls Try.prog 18 #[.agg #[.bool a0_0, .int .u64 a0_1, .int .u64 a0_2, .int .i64 a0_3]] w fun e w' => e = .returned (.tuple #[.agg #[.bool r1, .int .u64 r2, .int .u64 r3, .int .i64 r4], .agg #[.bool r5, .int .u64 r6, .int .u64 r7, .int .i64 r8], .int .i64 r9]) ∧ Below w.heap.size w w' := by
 have hu33 := Try.underlying33
 have hu24 := Try.underlying24
 have HB := Ax (Below.refl w.heap.size w)
 have H : ((addr_Wide.f a0_0).bind fun t182 => ((addr_Check.f k a0_0 a0_1 a0_2 a0_3).bind fun t183 => (if t183 = 0 then (if (wrap64 (t182 - a0_3)) = 0 then (some (false, 0, 0, 0, false, 0, 0, 0, 3)) else ((addr_bit.f (wrap64 ((wrap64 (t182 - a0_3)) - 1))).bind fun bt185 => ((addr_both.f a0_1 a0_2 bt185.1 bt185.2).bind fun bt187 => (some (a0_0, a0_1, a0_2, wrap64 (a0_3 + 1), a0_0, bt187.1, bt187.2, wrap64 (a0_3 + 1), 0))))) else (some (false, 0, 0, 0, false, 0, 0, 0, t183))))) = some (r1, r2, r3, r4, r5, r6, r7, r8, r9) := h
 clear h
 replace H := Option.bind_eq_some_iff.mp H
 obtain ⟨t182, A20, H⟩ := H
 replace H : ((addr_Check.f k a0_0 a0_1 a0_2 a0_3).bind fun t183 => (if t183 = 0 then (if (wrap64 (t182 - a0_3)) = 0 then (some (false, 0, 0, 0, false, 0, 0, 0, 3)) else ((addr_bit.f (wrap64 ((wrap64 (t182 - a0_3)) - 1))).bind fun bt185 => ((addr_both.f a0_1 a0_2 bt185.1 bt185.2).bind fun bt187 => (some (a0_0, a0_1, a0_2, wrap64 (a0_3 + 1), a0_0, bt187.1, bt187.2, wrap64 (a0_3 + 1), 0))))) else (some (false, 0, 0, 0, false, 0, 0, 0, t183)))) = some (r1, r2, r3, r4, r5, r6, r7, r8, r9) := H
 have A2 := Ax A20
 clear A20
 replace H := Option.bind_eq_some_iff.mp H
 obtain ⟨t183, A30, H⟩ := H
 replace H : (if t183 = 0 then (if (wrap64 (t182 - a0_3)) = 0 then (some (false, 0, 0, 0, false, 0, 0, 0, 3)) else ((addr_bit.f (wrap64 ((wrap64 (t182 - a0_3)) - 1))).bind fun bt185 => ((addr_both.f a0_1 a0_2 bt185.1 bt185.2).bind fun bt187 => (some (a0_0, a0_1, a0_2, wrap64 (a0_3 + 1), a0_0, bt187.1, bt187.2, wrap64 (a0_3 + 1), 0))))) else (some (false, 0, 0, 0, false, 0, 0, 0, t183))) = some (r1, r2, r3, r4, r5, r6, r7, r8, r9) := H
 have A3 := Ax A30
 clear A30
 by_cases c4 : t183 = 0
 ·rw [if_pos c4] at H
  have c4b0 : (t183 == 0) = true := beq_iff_eq.mpr c4
  have c4b1 : (t183 != 0) = false := bne_eq_false_iff_eq.mpr c4
  clear c4
  by_cases c5 : (wrap64 (t182 - a0_3)) = 0
  ·rw [if_pos c5] at H
   have c5b0 : ((wrap64 (t182 - a0_3)) == 0) = true := beq_iff_eq.mpr c5
   have c5b1 : ((wrap64 (t182 - a0_3)) != 0) = false := bne_eq_false_iff_eq.mpr c5
   clear c5
   simp only [Option.some.injEq, Prod.mk.injEq] at H
   obtain ⟨rfl, rfl, rfl, rfl, rfl, rfl, rfl, rfl, rfl⟩ := H
   go_enter Try.func18, Try.ntmps18
   try go_wp2_with (first | ((with_reducible refine gate_dst (N := 1) rfl ?_); refine box_event ?hg (N := 1) ?hd (cs := #[.bool a0_0, .int .u64 a0_1, .int .u64 a0_2, .int .i64 a0_3]) (t := 33) ?hr ?_; (case hd => rfl); (case hg => rfl); (case hr => first | (go_simp; done) | (go_simp; rfl)); intro gb179 hg w6 hbox hb; have n0_ := Ax (below_step (bw0 HB.out) hb); have n1_ := Ax (hbox); have n2_ := Ax ((by rw [hg]; exact (below_size (bw0 HB.out)) : w.heap.size ≤ gb179)); have n3_ := Ax ((by rw [hg]; exact (below_size (bw0 HB.out)) : w.heap.size ≤ gb179)); clear HB; have HB := n0_; have BK179 := n1_; have GW179 := n2_; have GE179 := n3_; clear n0_ n1_ n2_ n3_; clear hb hbox hg) | ((with_reducible refine gate_dst (N := 2) rfl ?_); refine box_event ?hg (N := 2) ?hd (cs := #[.bool false, .int .u64 0, .int .u64 0, .int .i64 0]) (t := 33) ?hr ?_; (case hd => rfl); (case hg => rfl); (case hr => first | (go_simp; done) | (go_simp; rfl)); intro gb180 hg w7 hbox hb; have n0_ := Ax (blk_below (g := gb179) (o := .cells #[.bool a0_0, .int .u64 a0_1, .int .u64 a0_2, .int .i64 a0_3] 33 (0, 0)) (bf0 BK179.out) hb); have n1_ := Ax (below_step (bw1 HB.out GE179.out) hb); have n2_ := Ax (hbox); have n3_ := Ax ((by rw [hg]; exact (below_size (bw1 HB.out GE179.out)) : w.heap.size ≤ gb180)); have n4_ := Ax ((by rw [hg]; exact (below_size (bw1 HB.out GE179.out)) : w.heap.size ≤ gb180)); have n5_ := Ax ((by rw [hg]; exact Nat.ne_of_lt (blk_lt (g := gb179) (o := .cells #[.bool a0_0, .int .u64 a0_1, .int .u64 a0_2, .int .i64 a0_3] 33 (0, 0)) (bf0 BK179.out)) : gb179 ≠ gb180)); have n6_ := Ax ((by rw [hg]; exact Nat.ne_of_gt (blk_lt (g := gb179) (o := .cells #[.bool a0_0, .int .u64 a0_1, .int .u64 a0_2, .int .i64 a0_3] 33 (0, 0)) (bf0 BK179.out)) : gb180 ≠ gb179)); clear BK179; clear HB; have BK179 := n0_; have HB := n1_; have BK180 := n2_; have GW180 := n3_; have GE180 := n4_; have NB179_180 := n5_; have NB180_179 := n6_; clear n0_ n1_ n2_ n3_ n4_ n5_ n6_; clear hb hbox hg) | ((with_reducible refine gate_dst (N := 3) rfl ?_); refine box_event ?hg (N := 3) ?hd (cs := #[.bool false, .int .u64 0, .int .u64 0, .int .i64 0]) (t := 33) ?hr ?_; (case hd => rfl); (case hg => rfl); (case hr => first | (go_simp; done) | (go_simp; rfl)); intro gb181 hg w8 hbox hb; have n0_ := Ax (blk_below (g := gb179) (o := .cells #[.bool a0_0, .int .u64 a0_1, .int .u64 a0_2, .int .i64 a0_3] 33 (0, 0)) (bf0 BK179.out) hb); have n1_ := Ax (blk_below (g := gb180) (o := .cells #[.bool false, .int .u64 0, .int .u64 0, .int .i64 0] 33 (0, 0)) (bf0 BK180.out) hb); have n2_ := Ax (below_step (bw2 HB.out GE179.out GE180.out) hb); have n3_ := Ax (hbox); have n4_ := Ax ((by rw [hg]; exact (below_size (bw2 HB.out GE179.out GE180.out)) : w.heap.size ≤ gb181)); have n5_ := Ax ((by rw [hg]; exact (below_size (bw2 HB.out GE179.out GE180.out)) : w.heap.size ≤ gb181)); have n6_ := Ax ((by rw [hg]; exact Nat.ne_of_lt (blk_lt (g := gb179) (o := .cells #[.bool a0_0, .int .u64 a0_1, .int .u64 a0_2, .int .i64 a0_3] 33 (0, 0)) (bf0 BK179.out)) : gb179 ≠ gb181)); have n7_ := Ax ((by rw [hg]; exact Nat.ne_of_gt (blk_lt (g := gb179) (o := .cells #[.bool a0_0, .int .u64 a0_1, .int .u64 a0_2, .int .i64 a0_3] 33 (0, 0)) (bf0 BK179.out)) : gb181 ≠ gb179)); have n8_ := Ax ((by rw [hg]; exact Nat.ne_of_lt (blk_lt (g := gb180) (o := .cells #[.bool false, .int .u64 0, .int .u64 0, .int .i64 0] 33 (0, 0)) (bf0 BK180.out)) : gb180 ≠ gb181)); have n9_ := Ax ((by rw [hg]; exact Nat.ne_of_gt (blk_lt (g := gb180) (o := .cells #[.bool false, .int .u64 0, .int .u64 0, .int .i64 0] 33 (0, 0)) (bf0 BK180.out)) : gb181 ≠ gb180)); clear BK179; clear BK180; clear HB; have BK179 := n0_; have BK180 := n1_; have HB := n2_; have BK181 := n3_; have GW181 := n4_; have GE181 := n5_; have NB179_181 := n6_; have NB181_179 := n7_; have NB180_181 := n8_; have NB181_180 := n9_; clear n0_ n1_ n2_ n3_ n4_ n5_ n6_ n7_ n8_ n9_; clear hb hbox hg))
   have n0_ := Ax (blk_drew BK179.out)
   have n1_ := Ax (blk_drew BK180.out)
   have n2_ := Ax (blk_drew BK181.out)
   have n3_ := Ax (below_drew1 HB.out)
   clear BK179
   clear BK180
   clear BK181
   clear HB
   have BK179 := n0_
   have BK180 := n1_
   have BK181 := n2_
   have HB := n3_
   clear n0_ n1_ n2_ n3_
   refine start_ (n := 7) (S := fun w' => w'.cell? ⟨gb179, 0, none⟩ = some (.bool a0_0) ∧ w'.cell? ⟨gb179, 1, none⟩ = some (.int .u64 a0_1) ∧ w'.cell? ⟨gb179, 2, none⟩ = some (.int .u64 a0_2) ∧ w'.cell? ⟨gb179, 3, none⟩ = some (.int .i64 a0_3)) (ds := []) #[fa,fa,fa,fa,fa,fa,fa] (by kernel_rfl) rfl rfl ⟨(blk_cell BK179.out 0).trans rfl, (blk_cell BK179.out 1).trans rfl, (blk_cell BK179.out 2).trans rfl, (blk_cell BK179.out 3).trans rfl⟩ (fun hHeld => ?_)
   generalize w8.drew = w9 at BK179 BK180 BK181 HB hHeld ⊢
   refine pure_ (i := 0) (N := some 8) (v := ?_) (a' := ?_) #[tr,fa,fa,fa,fa,fa,fa] rfl rfl (by kernel_rfl) (fun _ _ _ h => h) (Or.inl ⟨by rfl, ?_⟩) ?_ ?_
   rotate_left
   ·intro w'
    go_simp
    with_reducible rfl
   rotate_left
   ·simp only [sP]
    rfl
   refine pure_ (i := 3) (N := some 11) (v := ?_) (a' := ?_) #[tr,fa,fa,tr,fa,fa,fa] rfl rfl (by kernel_rfl) (fun _ _ _ h => h) (Or.inl ⟨by rfl, ?_⟩) ?_ ?_
   rotate_left
   ·intro w'
    go_simp
    with_reducible rfl
   rotate_left
   ·simp only [sP]
    rfl
   refine take_ (i := 1) (N := some 9) (v := ?_) (a' := ?_) #[tr,tr,fa,tr,fa,fa,fa] rfl rfl (by kernel_rfl) (fun _ _ _ h => h) (Or.inl ⟨by rfl, ?_⟩) hHeld ?_ ?_
   rotate_left
   ·rintro w' ⟨s0, s1, s2, s3⟩
    go_simp
    with_reducible rfl
   rotate_left
   ·simp only [sP]
    rfl
   refine take_ (i := 4) (N := some 12) (v := ?_) (a' := ?_) #[tr,tr,fa,tr,tr,fa,fa] rfl rfl (by kernel_rfl) (fun _ _ _ h => h) (Or.inl ⟨by rfl, ?_⟩) hHeld ?_ ?_
   rotate_left
   ·rintro w' ⟨s0, s1, s2, s3⟩
    go_simp
    with_reducible rfl
   rotate_left
   ·simp only [sP]
    rfl
   refine one_ (i := 2) (N := some 10) #[tr,tr,tr,tr,tr,fa,fa] rfl rfl (by kernel_rfl) (by decide) (fun K hK => ?_)
   refine goes_ Try.func27 (by kernel_rfl) rfl #[.bool a0_0] (by rfl) rfl rfl gS ?_
   with_reducible refine (addr_Wide.calls a0_0 t182 _ A2.out).mono ?_
   rintro e w' ⟨rfl, ⟨nd, rfl⟩⟩
   refine ⟨_, rfl, ?_⟩
   refine hK.out _ _ ⟨(blk_cell BK179.out 0).trans rfl, (blk_cell BK179.out 1).trans rfl, (blk_cell BK179.out 2).trans rfl, (blk_cell BK179.out 3).trans rfl⟩ (fun hHeld => ?_)
   clear hK K
   refine norm_ (a' := ?_) ?_ ?_
   rotate_left
   ·show Act.put _ (some 10) _ = _
    simp only [sP]
    rfl
   refine pure_ (i := 5) (N := some 13) (v := ?_) (a' := ?_) #[tr,tr,tr,tr,tr,tr,fa] rfl rfl (by kernel_rfl) (fun _ _ _ h => h) (Or.inl ⟨by rfl, ?_⟩) ?_ ?_
   rotate_left
   ·intro w'
    go_simp
    with_reducible rfl
   rotate_left
   ·simp only [sP]
    rfl
   refine pure_ (i := 6) (N := some 5) (v := ?_) (a' := ?_) #[tr,tr,tr,tr,tr,tr,tr] rfl rfl (by kernel_rfl) (fun _ _ _ h => h) (Or.inl ⟨by rfl, ?_⟩) ?_ ?_
   rotate_left
   ·intro w'
    go_simp
    with_reducible rfl
   rotate_left
   ·simp only [sP]
    rfl
   refine done_ (by kernel_rfl) ?_
   have hnb10 := NB179_180.out
   have hnc10 := NB180_179.out
   have hnb11 := NB179_181.out
   have hnc11 := NB181_179.out
   have hcz12_0 : w9.cell? ⟨gb179, 0, none⟩ = some (.bool a0_0) := (blk_cell BK179.out 0).trans rfl
   have hcz12_1 : w9.cell? ⟨gb179, 1, none⟩ = some (.int .u64 a0_1) := (blk_cell BK179.out 1).trans rfl
   have hcz12_2 : w9.cell? ⟨gb179, 2, none⟩ = some (.int .u64 a0_2) := (blk_cell BK179.out 2).trans rfl
   have hcz12_3 : w9.cell? ⟨gb179, 3, none⟩ = some (.int .i64 a0_3) := (blk_cell BK179.out 3).trans rfl
   have hfz12_0 := blk_frozen BK179.out 0
   have hfz12_1 := blk_frozen BK179.out 1
   have hfz12_2 := blk_frozen BK179.out 2
   have hfz12_3 := blk_frozen BK179.out 3
   try go_wp2_with (first | ((with_reducible refine gate_callee (f := 20) rfl ?_); refine goesL_ (some 15) rfl rfl Try.func20 (by kernel_rfl) rfl #[.agg #[.bool a0_0, .int .u64 a0_1, .int .u64 a0_2, .int .i64 a0_3]] rfl gS ?_; (with_reducible refine (addr_Check.calls k a0_0 a0_1 a0_2 a0_3 t183 _ A3.out).mono ?_); rintro e w13 ⟨rfl, hb⟩; refine ⟨_, rfl, ?_⟩; have n0_ := Ax (blk_below (g := gb179) (o := .cells #[.bool a0_0, .int .u64 a0_1, .int .u64 a0_2, .int .i64 a0_3] 33 (0, 0)) (bf0 BK179.out) hb); have n1_ := Ax (blk_below (g := gb180) (o := .cells #[.bool false, .int .u64 0, .int .u64 0, .int .i64 0] 33 (0, 0)) (bf0 BK180.out) hb); have n2_ := Ax (blk_below (g := gb181) (o := .cells #[.bool false, .int .u64 0, .int .u64 0, .int .i64 0] 33 (0, 0)) (bf0 BK181.out) hb); have n3_ := Ax (below_step (bw3 HB.out GE179.out GE180.out GE181.out) hb); clear BK179; clear BK180; clear BK181; clear HB; have BK179 := n0_; have BK180 := n1_; have BK181 := n2_; have HB := n3_; clear n0_ n1_ n2_ n3_; (try clear hb); (try clear hb2); (try clear hk); (try clear hi); have hnb14 := NB180_181.out; have hnc14 := NB181_180.out; have hcz15_0 : w13.cell? ⟨gb180, 0, none⟩ = some (.bool false) := (blk_cell BK180.out 0).trans rfl; have hcz15_1 : w13.cell? ⟨gb180, 1, none⟩ = some (.int .u64 0) := (blk_cell BK180.out 1).trans rfl; have hcz15_2 : w13.cell? ⟨gb180, 2, none⟩ = some (.int .u64 0) := (blk_cell BK180.out 2).trans rfl; have hcz15_3 : w13.cell? ⟨gb180, 3, none⟩ = some (.int .i64 0) := (blk_cell BK180.out 3).trans rfl; have hfz15_0 := blk_frozen BK180.out 0; have hfz15_1 := blk_frozen BK180.out 1; have hfz15_2 := blk_frozen BK180.out 2; have hfz15_3 := blk_frozen BK180.out 3; have hcz16_0 : w13.cell? ⟨gb181, 0, none⟩ = some (.bool false) := (blk_cell BK181.out 0).trans rfl; have hcz16_1 : w13.cell? ⟨gb181, 1, none⟩ = some (.int .u64 0) := (blk_cell BK181.out 1).trans rfl; have hcz16_2 : w13.cell? ⟨gb181, 2, none⟩ = some (.int .u64 0) := (blk_cell BK181.out 2).trans rfl; have hcz16_3 : w13.cell? ⟨gb181, 3, none⟩ = some (.int .i64 0) := (blk_cell BK181.out 3).trans rfl; have hfz16_0 := blk_frozen BK181.out 0; have hfz16_1 := blk_frozen BK181.out 1; have hfz16_2 := blk_frozen BK181.out 2; have hfz16_3 := blk_frozen BK181.out 3))
   refine bodyPost_ret (results_list (rs := [.cell 2 33, .cell 3 33, .tmp 4]) rfl (by simp) (.cell gb180 33 #[.bool false, .int .u64 0, .int .u64 0, .int .i64 0] (0, 0) _ rfl (by (with_reducible repeat (first | refine blk_drewN ?_ _ | refine blk_drew ?_ | refine blk_alloc ?_ _)); refine blk_far ?_ NB180_181.out _; (with_reducible repeat (first | refine blk_drewN ?_ _ | refine blk_drew ?_ | refine blk_alloc ?_ _)); refine blk_far ?_ NB180_181.out _; (with_reducible repeat (first | refine blk_drewN ?_ _ | refine blk_drew ?_ | refine blk_alloc ?_ _)); refine blk_far ?_ NB180_181.out _; (with_reducible repeat (first | refine blk_drewN ?_ _ | refine blk_drew ?_ | refine blk_alloc ?_ _)); refine blk_far ?_ NB180_181.out _; (with_reducible repeat (first | refine blk_drewN ?_ _ | refine blk_drew ?_ | refine blk_alloc ?_ _)); refine blk_put (cs := #[.bool false, .int .u64 0, .int .u64 0, .int .i64 0]) ?_ 3 _ rfl; (with_reducible repeat (first | refine blk_drewN ?_ _ | refine blk_drew ?_ | refine blk_alloc ?_ _)); refine blk_put (cs := #[.bool false, .int .u64 0, .int .u64 0, .int .i64 0]) ?_ 2 _ rfl; (with_reducible repeat (first | refine blk_drewN ?_ _ | refine blk_drew ?_ | refine blk_alloc ?_ _)); refine blk_put (cs := #[.bool false, .int .u64 0, .int .u64 0, .int .i64 0]) ?_ 1 _ rfl; (with_reducible repeat (first | refine blk_drewN ?_ _ | refine blk_drew ?_ | refine blk_alloc ?_ _)); refine blk_put (cs := #[.bool false, .int .u64 0, .int .u64 0, .int .i64 0]) ?_ 0 _ rfl; (with_reducible repeat (first | refine blk_drewN ?_ _ | refine blk_drew ?_ | refine blk_alloc ?_ _)); exact BK180.out) Try.underlying33 rfl (by kernel_rfl) (.cell gb181 33 #[.bool false, .int .u64 0, .int .u64 0, .int .i64 0] (0, 0) _ rfl (by (with_reducible repeat (first | refine blk_drewN ?_ _ | refine blk_drew ?_ | refine blk_alloc ?_ _)); refine blk_put (cs := #[.bool false, .int .u64 0, .int .u64 0, .int .i64 0]) ?_ 3 _ rfl; (with_reducible repeat (first | refine blk_drewN ?_ _ | refine blk_drew ?_ | refine blk_alloc ?_ _)); refine blk_put (cs := #[.bool false, .int .u64 0, .int .u64 0, .int .i64 0]) ?_ 2 _ rfl; (with_reducible repeat (first | refine blk_drewN ?_ _ | refine blk_drew ?_ | refine blk_alloc ?_ _)); refine blk_put (cs := #[.bool false, .int .u64 0, .int .u64 0, .int .i64 0]) ?_ 1 _ rfl; (with_reducible repeat (first | refine blk_drewN ?_ _ | refine blk_drew ?_ | refine blk_alloc ?_ _)); refine blk_put (cs := #[.bool false, .int .u64 0, .int .u64 0, .int .i64 0]) ?_ 0 _ rfl; (with_reducible repeat (first | refine blk_drewN ?_ _ | refine blk_drew ?_ | refine blk_alloc ?_ _)); refine blk_far ?_ NB181_180.out _; (with_reducible repeat (first | refine blk_drewN ?_ _ | refine blk_drew ?_ | refine blk_alloc ?_ _)); refine blk_far ?_ NB181_180.out _; (with_reducible repeat (first | refine blk_drewN ?_ _ | refine blk_drew ?_ | refine blk_alloc ?_ _)); refine blk_far ?_ NB181_180.out _; (with_reducible repeat (first | refine blk_drewN ?_ _ | refine blk_drew ?_ | refine blk_alloc ?_ _)); refine blk_far ?_ NB181_180.out _; (with_reducible repeat (first | refine blk_drewN ?_ _ | refine blk_drew ?_ | refine blk_alloc ?_ _)); exact BK181.out) Try.underlying33 rfl (by kernel_rfl) (.tmp .nil)))) rfl ?_
   exact ⟨eS, bw3 HB.out GE179.out GE180.out GE181.out⟩
  ·rw [if_neg c5] at H
   have c5b0 : ((wrap64 (t182 - a0_3)) == 0) = false := beq_eq_false_iff_ne.mpr c5
   have c5b1 : ((wrap64 (t182 - a0_3)) != 0) = true := bne_iff_ne.mpr c5
   replace H := Option.bind_eq_some_iff.mp H
   obtain ⟨⟨t185, t186⟩, A170, H⟩ := H
   replace H : ((addr_both.f a0_1 a0_2 t185 t186).bind fun bt187 => (some (a0_0, a0_1, a0_2, wrap64 (a0_3 + 1), a0_0, bt187.1, bt187.2, wrap64 (a0_3 + 1), 0))) = some (r1, r2, r3, r4, r5, r6, r7, r8, r9) := H
   have A17 := Ax A170
   clear A170
   replace H := Option.bind_eq_some_iff.mp H
   obtain ⟨⟨t187, t188⟩, A180, H⟩ := H
   replace H : (some (a0_0, a0_1, a0_2, wrap64 (a0_3 + 1), a0_0, t187, t188, wrap64 (a0_3 + 1), 0)) = some (r1, r2, r3, r4, r5, r6, r7, r8, r9) := H
   have A18 := Ax A180
   clear A180
   simp only [Option.some.injEq, Prod.mk.injEq] at H
   obtain ⟨rfl, rfl, rfl, rfl, rfl, rfl, rfl, rfl, rfl⟩ := H
   go_enter Try.func18, Try.ntmps18
   try go_wp2_with (first | ((with_reducible refine gate_dst (N := 1) rfl ?_); refine box_event ?hg (N := 1) ?hd (cs := #[.bool a0_0, .int .u64 a0_1, .int .u64 a0_2, .int .i64 a0_3]) (t := 33) ?hr ?_; (case hd => rfl); (case hg => rfl); (case hr => first | (go_simp; done) | (go_simp; rfl)); intro gb179 hg w19 hbox hb; have n0_ := Ax (below_step (bw0 HB.out) hb); have n1_ := Ax (hbox); have n2_ := Ax ((by rw [hg]; exact (below_size (bw0 HB.out)) : w.heap.size ≤ gb179)); have n3_ := Ax ((by rw [hg]; exact (below_size (bw0 HB.out)) : w.heap.size ≤ gb179)); clear HB; have HB := n0_; have BK179 := n1_; have GW179 := n2_; have GE179 := n3_; clear n0_ n1_ n2_ n3_; clear hb hbox hg) | ((with_reducible refine gate_dst (N := 2) rfl ?_); refine box_event ?hg (N := 2) ?hd (cs := #[.bool false, .int .u64 0, .int .u64 0, .int .i64 0]) (t := 33) ?hr ?_; (case hd => rfl); (case hg => rfl); (case hr => first | (go_simp; done) | (go_simp; rfl)); intro gb180 hg w20 hbox hb; have n0_ := Ax (blk_below (g := gb179) (o := .cells #[.bool a0_0, .int .u64 a0_1, .int .u64 a0_2, .int .i64 a0_3] 33 (0, 0)) (bf0 BK179.out) hb); have n1_ := Ax (below_step (bw1 HB.out GE179.out) hb); have n2_ := Ax (hbox); have n3_ := Ax ((by rw [hg]; exact (below_size (bw1 HB.out GE179.out)) : w.heap.size ≤ gb180)); have n4_ := Ax ((by rw [hg]; exact (below_size (bw1 HB.out GE179.out)) : w.heap.size ≤ gb180)); have n5_ := Ax ((by rw [hg]; exact Nat.ne_of_lt (blk_lt (g := gb179) (o := .cells #[.bool a0_0, .int .u64 a0_1, .int .u64 a0_2, .int .i64 a0_3] 33 (0, 0)) (bf0 BK179.out)) : gb179 ≠ gb180)); have n6_ := Ax ((by rw [hg]; exact Nat.ne_of_gt (blk_lt (g := gb179) (o := .cells #[.bool a0_0, .int .u64 a0_1, .int .u64 a0_2, .int .i64 a0_3] 33 (0, 0)) (bf0 BK179.out)) : gb180 ≠ gb179)); clear BK179; clear HB; have BK179 := n0_; have HB := n1_; have BK180 := n2_; have GW180 := n3_; have GE180 := n4_; have NB179_180 := n5_; have NB180_179 := n6_; clear n0_ n1_ n2_ n3_ n4_ n5_ n6_; clear hb hbox hg) | ((with_reducible refine gate_dst (N := 3) rfl ?_); refine box_event ?hg (N := 3) ?hd (cs := #[.bool false, .int .u64 0, .int .u64 0, .int .i64 0]) (t := 33) ?hr ?_; (case hd => rfl); (case hg => rfl); (case hr => first | (go_simp; done) | (go_simp; rfl)); intro gb181 hg w21 hbox hb; have n0_ := Ax (blk_below (g := gb179) (o := .cells #[.bool a0_0, .int .u64 a0_1, .int .u64 a0_2, .int .i64 a0_3] 33 (0, 0)) (bf0 BK179.out) hb); have n1_ := Ax (blk_below (g := gb180) (o := .cells #[.bool false, .int .u64 0, .int .u64 0, .int .i64 0] 33 (0, 0)) (bf0 BK180.out) hb); have n2_ := Ax (below_step (bw2 HB.out GE179.out GE180.out) hb); have n3_ := Ax (hbox); have n4_ := Ax ((by rw [hg]; exact (below_size (bw2 HB.out GE179.out GE180.out)) : w.heap.size ≤ gb181)); have n5_ := Ax ((by rw [hg]; exact (below_size (bw2 HB.out GE179.out GE180.out)) : w.heap.size ≤ gb181)); have n6_ := Ax ((by rw [hg]; exact Nat.ne_of_lt (blk_lt (g := gb179) (o := .cells #[.bool a0_0, .int .u64 a0_1, .int .u64 a0_2, .int .i64 a0_3] 33 (0, 0)) (bf0 BK179.out)) : gb179 ≠ gb181)); have n7_ := Ax ((by rw [hg]; exact Nat.ne_of_gt (blk_lt (g := gb179) (o := .cells #[.bool a0_0, .int .u64 a0_1, .int .u64 a0_2, .int .i64 a0_3] 33 (0, 0)) (bf0 BK179.out)) : gb181 ≠ gb179)); have n8_ := Ax ((by rw [hg]; exact Nat.ne_of_lt (blk_lt (g := gb180) (o := .cells #[.bool false, .int .u64 0, .int .u64 0, .int .i64 0] 33 (0, 0)) (bf0 BK180.out)) : gb180 ≠ gb181)); have n9_ := Ax ((by rw [hg]; exact Nat.ne_of_gt (blk_lt (g := gb180) (o := .cells #[.bool false, .int .u64 0, .int .u64 0, .int .i64 0] 33 (0, 0)) (bf0 BK180.out)) : gb181 ≠ gb180)); clear BK179; clear BK180; clear HB; have BK179 := n0_; have BK180 := n1_; have HB := n2_; have BK181 := n3_; have GW181 := n4_; have GE181 := n5_; have NB179_181 := n6_; have NB181_179 := n7_; have NB180_181 := n8_; have NB181_180 := n9_; clear n0_ n1_ n2_ n3_ n4_ n5_ n6_ n7_ n8_ n9_; clear hb hbox hg))
   have n0_ := Ax (blk_drew BK179.out)
   have n1_ := Ax (blk_drew BK180.out)
   have n2_ := Ax (blk_drew BK181.out)
   have n3_ := Ax (below_drew1 HB.out)
   clear BK179
   clear BK180
   clear BK181
   clear HB
   have BK179 := n0_
   have BK180 := n1_
   have BK181 := n2_
   have HB := n3_
   clear n0_ n1_ n2_ n3_
   refine start_ (n := 7) (S := fun w' => w'.cell? ⟨gb179, 0, none⟩ = some (.bool a0_0) ∧ w'.cell? ⟨gb179, 1, none⟩ = some (.int .u64 a0_1) ∧ w'.cell? ⟨gb179, 2, none⟩ = some (.int .u64 a0_2) ∧ w'.cell? ⟨gb179, 3, none⟩ = some (.int .i64 a0_3)) (ds := []) #[fa,fa,fa,fa,fa,fa,fa] (by kernel_rfl) rfl rfl ⟨(blk_cell BK179.out 0).trans rfl, (blk_cell BK179.out 1).trans rfl, (blk_cell BK179.out 2).trans rfl, (blk_cell BK179.out 3).trans rfl⟩ (fun hHeld => ?_)
   generalize w21.drew = w22 at BK179 BK180 BK181 HB hHeld ⊢
   refine pure_ (i := 0) (N := some 8) (v := ?_) (a' := ?_) #[tr,fa,fa,fa,fa,fa,fa] rfl rfl (by kernel_rfl) (fun _ _ _ h => h) (Or.inl ⟨by rfl, ?_⟩) ?_ ?_
   rotate_left
   ·intro w'
    go_simp
    with_reducible rfl
   rotate_left
   ·simp only [sP]
    rfl
   refine pure_ (i := 3) (N := some 11) (v := ?_) (a' := ?_) #[tr,fa,fa,tr,fa,fa,fa] rfl rfl (by kernel_rfl) (fun _ _ _ h => h) (Or.inl ⟨by rfl, ?_⟩) ?_ ?_
   rotate_left
   ·intro w'
    go_simp
    with_reducible rfl
   rotate_left
   ·simp only [sP]
    rfl
   refine take_ (i := 1) (N := some 9) (v := ?_) (a' := ?_) #[tr,tr,fa,tr,fa,fa,fa] rfl rfl (by kernel_rfl) (fun _ _ _ h => h) (Or.inl ⟨by rfl, ?_⟩) hHeld ?_ ?_
   rotate_left
   ·rintro w' ⟨s0, s1, s2, s3⟩
    go_simp
    with_reducible rfl
   rotate_left
   ·simp only [sP]
    rfl
   refine take_ (i := 4) (N := some 12) (v := ?_) (a' := ?_) #[tr,tr,fa,tr,tr,fa,fa] rfl rfl (by kernel_rfl) (fun _ _ _ h => h) (Or.inl ⟨by rfl, ?_⟩) hHeld ?_ ?_
   rotate_left
   ·rintro w' ⟨s0, s1, s2, s3⟩
    go_simp
    with_reducible rfl
   rotate_left
   ·simp only [sP]
    rfl
   refine one_ (i := 2) (N := some 10) #[tr,tr,tr,tr,tr,fa,fa] rfl rfl (by kernel_rfl) (by decide) (fun K hK => ?_)
   refine goes_ Try.func27 (by kernel_rfl) rfl #[.bool a0_0] (by rfl) rfl rfl gS ?_
   with_reducible refine (addr_Wide.calls a0_0 t182 _ A2.out).mono ?_
   rintro e w' ⟨rfl, ⟨nd, rfl⟩⟩
   refine ⟨_, rfl, ?_⟩
   refine hK.out _ _ ⟨(blk_cell BK179.out 0).trans rfl, (blk_cell BK179.out 1).trans rfl, (blk_cell BK179.out 2).trans rfl, (blk_cell BK179.out 3).trans rfl⟩ (fun hHeld => ?_)
   clear hK K
   refine norm_ (a' := ?_) ?_ ?_
   rotate_left
   ·show Act.put _ (some 10) _ = _
    simp only [sP]
    rfl
   refine pure_ (i := 5) (N := some 13) (v := ?_) (a' := ?_) #[tr,tr,tr,tr,tr,tr,fa] rfl rfl (by kernel_rfl) (fun _ _ _ h => h) (Or.inl ⟨by rfl, ?_⟩) ?_ ?_
   rotate_left
   ·intro w'
    go_simp
    with_reducible rfl
   rotate_left
   ·simp only [sP]
    rfl
   refine pure_ (i := 6) (N := some 5) (v := ?_) (a' := ?_) #[tr,tr,tr,tr,tr,tr,tr] rfl rfl (by kernel_rfl) (fun _ _ _ h => h) (Or.inl ⟨by rfl, ?_⟩) ?_ ?_
   rotate_left
   ·intro w'
    go_simp
    with_reducible rfl
   rotate_left
   ·simp only [sP]
    rfl
   refine done_ (by kernel_rfl) ?_
   have hnb23 := NB179_180.out
   have hnc23 := NB180_179.out
   have hnb24 := NB179_181.out
   have hnc24 := NB181_179.out
   have hcz25_0 : w22.cell? ⟨gb179, 0, none⟩ = some (.bool a0_0) := (blk_cell BK179.out 0).trans rfl
   have hcz25_1 : w22.cell? ⟨gb179, 1, none⟩ = some (.int .u64 a0_1) := (blk_cell BK179.out 1).trans rfl
   have hcz25_2 : w22.cell? ⟨gb179, 2, none⟩ = some (.int .u64 a0_2) := (blk_cell BK179.out 2).trans rfl
   have hcz25_3 : w22.cell? ⟨gb179, 3, none⟩ = some (.int .i64 a0_3) := (blk_cell BK179.out 3).trans rfl
   have hfz25_0 := blk_frozen BK179.out 0
   have hfz25_1 := blk_frozen BK179.out 1
   have hfz25_2 := blk_frozen BK179.out 2
   have hfz25_3 := blk_frozen BK179.out 3
   try go_wp2_with (first | ((with_reducible refine gate_callee (f := 20) rfl ?_); refine goesL_ (some 15) rfl rfl Try.func20 (by kernel_rfl) rfl #[.agg #[.bool a0_0, .int .u64 a0_1, .int .u64 a0_2, .int .i64 a0_3]] rfl gS ?_; (with_reducible refine (addr_Check.calls k a0_0 a0_1 a0_2 a0_3 t183 _ A3.out).mono ?_); rintro e w26 ⟨rfl, hb⟩; refine ⟨_, rfl, ?_⟩; have n0_ := Ax (blk_below (g := gb179) (o := .cells #[.bool a0_0, .int .u64 a0_1, .int .u64 a0_2, .int .i64 a0_3] 33 (0, 0)) (bf0 BK179.out) hb); have n1_ := Ax (blk_below (g := gb180) (o := .cells #[.bool false, .int .u64 0, .int .u64 0, .int .i64 0] 33 (0, 0)) (bf0 BK180.out) hb); have n2_ := Ax (blk_below (g := gb181) (o := .cells #[.bool false, .int .u64 0, .int .u64 0, .int .i64 0] 33 (0, 0)) (bf0 BK181.out) hb); have n3_ := Ax (below_step (bw3 HB.out GE179.out GE180.out GE181.out) hb); clear BK179; clear BK180; clear BK181; clear HB; have BK179 := n0_; have BK180 := n1_; have BK181 := n2_; have HB := n3_; clear n0_ n1_ n2_ n3_; (try clear hb); (try clear hb2); (try clear hk); (try clear hi); have hcz27_0 : w26.cell? ⟨gb179, 0, none⟩ = some (.bool a0_0) := (blk_cell BK179.out 0).trans rfl; have hcz27_1 : w26.cell? ⟨gb179, 1, none⟩ = some (.int .u64 a0_1) := (blk_cell BK179.out 1).trans rfl; have hcz27_2 : w26.cell? ⟨gb179, 2, none⟩ = some (.int .u64 a0_2) := (blk_cell BK179.out 2).trans rfl; have hcz27_3 : w26.cell? ⟨gb179, 3, none⟩ = some (.int .i64 a0_3) := (blk_cell BK179.out 3).trans rfl; have hfz27_0 := blk_frozen BK179.out 0; have hfz27_1 := blk_frozen BK179.out 1; have hfz27_2 := blk_frozen BK179.out 2; have hfz27_3 := blk_frozen BK179.out 3) | ((with_reducible refine gate_dst (N := 7) rfl ?_); refine box_event ?hg (N := 7) ?hd (cs := #[.bool false, .int .u64 0, .int .u64 0, .int .i64 0]) (t := 33) ?hr ?_; (case hd => rfl); (case hg => rfl); (case hr => first | (go_simp; done) | (go_simp; rfl)); intro gb184 hg w28 hbox hb; have n0_ := Ax (blk_below (g := gb179) (o := .cells #[.bool a0_0, .int .u64 a0_1, .int .u64 a0_2, .int .i64 (wrap64 (a0_3 + 1))] 33 (0, 0)) (by (with_reducible repeat (first | refine blk_drewN ?_ _ | refine blk_drew ?_ | refine blk_alloc ?_ _)); refine blk_put (cs := #[.bool a0_0, .int .u64 a0_1, .int .u64 a0_2, .int .i64 a0_3]) ?_ 3 _ rfl; (with_reducible repeat (first | refine blk_drewN ?_ _ | refine blk_drew ?_ | refine blk_alloc ?_ _)); exact BK179.out) hb); have n1_ := Ax (blk_below (g := gb180) (o := .cells #[.bool false, .int .u64 0, .int .u64 0, .int .i64 0] 33 (0, 0)) (bf1 BK180.out NB180_179.out) hb); have n2_ := Ax (blk_below (g := gb181) (o := .cells #[.bool false, .int .u64 0, .int .u64 0, .int .i64 0] 33 (0, 0)) (bf1 BK181.out NB181_179.out) hb); have n3_ := Ax (below_step (bw3 HB.out GE179.out GE180.out GE181.out) hb); have n4_ := Ax (hbox); have n5_ := Ax ((by rw [hg]; exact (below_size (bw3 HB.out GE179.out GE180.out GE181.out)) : w.heap.size ≤ gb184)); have n6_ := Ax ((by rw [hg]; exact (below_size (bw3 HB.out GE179.out GE180.out GE181.out)) : w.heap.size ≤ gb184)); have n7_ := Ax ((by rw [hg]; exact Nat.ne_of_lt (blk_lt (g := gb179) (o := .cells #[.bool a0_0, .int .u64 a0_1, .int .u64 a0_2, .int .i64 (wrap64 (a0_3 + 1))] 33 (0, 0)) (by (with_reducible repeat (first | refine blk_drewN ?_ _ | refine blk_drew ?_ | refine blk_alloc ?_ _)); refine blk_put (cs := #[.bool a0_0, .int .u64 a0_1, .int .u64 a0_2, .int .i64 a0_3]) ?_ 3 _ rfl; (with_reducible repeat (first | refine blk_drewN ?_ _ | refine blk_drew ?_ | refine blk_alloc ?_ _)); exact BK179.out)) : gb179 ≠ gb184)); have n8_ := Ax ((by rw [hg]; exact Nat.ne_of_gt (blk_lt (g := gb179) (o := .cells #[.bool a0_0, .int .u64 a0_1, .int .u64 a0_2, .int .i64 (wrap64 (a0_3 + 1))] 33 (0, 0)) (by (with_reducible repeat (first | refine blk_drewN ?_ _ | refine blk_drew ?_ | refine blk_alloc ?_ _)); refine blk_put (cs := #[.bool a0_0, .int .u64 a0_1, .int .u64 a0_2, .int .i64 a0_3]) ?_ 3 _ rfl; (with_reducible repeat (first | refine blk_drewN ?_ _ | refine blk_drew ?_ | refine blk_alloc ?_ _)); exact BK179.out)) : gb184 ≠ gb179)); have n9_ := Ax ((by rw [hg]; exact Nat.ne_of_lt (blk_lt (g := gb180) (o := .cells #[.bool false, .int .u64 0, .int .u64 0, .int .i64 0] 33 (0, 0)) (bf1 BK180.out NB180_179.out)) : gb180 ≠ gb184)); have n10_ := Ax ((by rw [hg]; exact Nat.ne_of_gt (blk_lt (g := gb180) (o := .cells #[.bool false, .int .u64 0, .int .u64 0, .int .i64 0] 33 (0, 0)) (bf1 BK180.out NB180_179.out)) : gb184 ≠ gb180)); have n11_ := Ax ((by rw [hg]; exact Nat.ne_of_lt (blk_lt (g := gb181) (o := .cells #[.bool false, .int .u64 0, .int .u64 0, .int .i64 0] 33 (0, 0)) (bf1 BK181.out NB181_179.out)) : gb181 ≠ gb184)); have n12_ := Ax ((by rw [hg]; exact Nat.ne_of_gt (blk_lt (g := gb181) (o := .cells #[.bool false, .int .u64 0, .int .u64 0, .int .i64 0] 33 (0, 0)) (bf1 BK181.out NB181_179.out)) : gb184 ≠ gb181)); clear BK179; clear BK180; clear BK181; clear HB; have BK179 := n0_; have BK180 := n1_; have BK181 := n2_; have HB := n3_; have BK184 := n4_; have GW184 := n5_; have GE184 := n6_; have NB179_184 := n7_; have NB184_179 := n8_; have NB180_184 := n9_; have NB184_180 := n10_; have NB181_184 := n11_; have NB184_181 := n12_; clear n0_ n1_ n2_ n3_ n4_ n5_ n6_ n7_ n8_ n9_ n10_ n11_ n12_; clear hb hbox hg; have hnb29 := NB184_179.out; have hnc29 := NB179_184.out; have hnb30 := NB184_180.out; have hnc30 := NB180_184.out; have hnb31 := NB184_181.out; have hnc31 := NB181_184.out; have hcz32_0 : w28.cell? ⟨gb184, 0, none⟩ = some (.bool false) := (blk_cell BK184.out 0).trans rfl; have hcz32_1 : w28.cell? ⟨gb184, 1, none⟩ = some (.int .u64 0) := (blk_cell BK184.out 1).trans rfl; have hcz32_2 : w28.cell? ⟨gb184, 2, none⟩ = some (.int .u64 0) := (blk_cell BK184.out 2).trans rfl; have hcz32_3 : w28.cell? ⟨gb184, 3, none⟩ = some (.int .i64 0) := (blk_cell BK184.out 3).trans rfl; have hfz32_0 := blk_frozen BK184.out 0; have hfz32_1 := blk_frozen BK184.out 1; have hfz32_2 := blk_frozen BK184.out 2; have hfz32_3 := blk_frozen BK184.out 3))
   have n0_ : Aside0 (((((w28.setCell ⟨gb184, 0, none⟩ (.bool a0_0)).setCell ⟨gb184, 1, none⟩ (.int .u64 a0_1)).setCell ⟨gb184, 2, none⟩ (.int .u64 a0_2)).setCell ⟨gb184, 3, none⟩ (.int .i64 (wrap64 (a0_3 + 1)))).heap[gb179]? = some (.cells #[.bool a0_0, .int .u64 a0_1, .int .u64 a0_2, .int .i64 (wrap64 (a0_3 + 1))] 33 (0, 0))) := ⟨bf4 BK179.out NB179_184.out NB179_184.out NB179_184.out NB179_184.out⟩
   have n1_ : Aside0 (((((w28.setCell ⟨gb184, 0, none⟩ (.bool a0_0)).setCell ⟨gb184, 1, none⟩ (.int .u64 a0_1)).setCell ⟨gb184, 2, none⟩ (.int .u64 a0_2)).setCell ⟨gb184, 3, none⟩ (.int .i64 (wrap64 (a0_3 + 1)))).heap[gb180]? = some (.cells #[.bool false, .int .u64 0, .int .u64 0, .int .i64 0] 33 (0, 0))) := ⟨bf4 BK180.out NB180_184.out NB180_184.out NB180_184.out NB180_184.out⟩
   have n2_ : Aside0 (((((w28.setCell ⟨gb184, 0, none⟩ (.bool a0_0)).setCell ⟨gb184, 1, none⟩ (.int .u64 a0_1)).setCell ⟨gb184, 2, none⟩ (.int .u64 a0_2)).setCell ⟨gb184, 3, none⟩ (.int .i64 (wrap64 (a0_3 + 1)))).heap[gb181]? = some (.cells #[.bool false, .int .u64 0, .int .u64 0, .int .i64 0] 33 (0, 0))) := ⟨bf4 BK181.out NB181_184.out NB181_184.out NB181_184.out NB181_184.out⟩
   have n3_ : Aside0 (((((w28.setCell ⟨gb184, 0, none⟩ (.bool a0_0)).setCell ⟨gb184, 1, none⟩ (.int .u64 a0_1)).setCell ⟨gb184, 2, none⟩ (.int .u64 a0_2)).setCell ⟨gb184, 3, none⟩ (.int .i64 (wrap64 (a0_3 + 1)))).heap[gb184]? = some (.cells #[.bool a0_0, .int .u64 a0_1, .int .u64 a0_2, .int .i64 (wrap64 (a0_3 + 1))] 33 (0, 0))) := ⟨by (with_reducible repeat (first | refine blk_drewN ?_ _ | refine blk_drew ?_ | refine blk_alloc ?_ _)); refine blk_put (cs := #[.bool a0_0, .int .u64 a0_1, .int .u64 a0_2, .int .i64 0]) ?_ 3 _ rfl; (with_reducible repeat (first | refine blk_drewN ?_ _ | refine blk_drew ?_ | refine blk_alloc ?_ _)); refine blk_put (cs := #[.bool a0_0, .int .u64 a0_1, .int .u64 0, .int .i64 0]) ?_ 2 _ rfl; (with_reducible repeat (first | refine blk_drewN ?_ _ | refine blk_drew ?_ | refine blk_alloc ?_ _)); refine blk_put (cs := #[.bool a0_0, .int .u64 0, .int .u64 0, .int .i64 0]) ?_ 1 _ rfl; (with_reducible repeat (first | refine blk_drewN ?_ _ | refine blk_drew ?_ | refine blk_alloc ?_ _)); refine blk_put (cs := #[.bool false, .int .u64 0, .int .u64 0, .int .i64 0]) ?_ 0 _ rfl; (with_reducible repeat (first | refine blk_drewN ?_ _ | refine blk_drew ?_ | refine blk_alloc ?_ _)); exact BK184.out⟩
   have n4_ : Aside0 (Below w.heap.size w ((((w28.setCell ⟨gb184, 0, none⟩ (.bool a0_0)).setCell ⟨gb184, 1, none⟩ (.int .u64 a0_1)).setCell ⟨gb184, 2, none⟩ (.int .u64 a0_2)).setCell ⟨gb184, 3, none⟩ (.int .i64 (wrap64 (a0_3 + 1))))) := ⟨bw4 HB.out GE179.out GE180.out GE181.out GE184.out⟩
   (try clear BK179)
   (try clear BK180)
   (try clear BK181)
   (try clear BK184)
   (try clear HB)
   generalize ((((w28.setCell ⟨gb184, 0, none⟩ (.bool a0_0)).setCell ⟨gb184, 1, none⟩ (.int .u64 a0_1)).setCell ⟨gb184, 2, none⟩ (.int .u64 a0_2)).setCell ⟨gb184, 3, none⟩ (.int .i64 (wrap64 (a0_3 + 1)))) = w33 at n0_ n1_ n2_ n3_ n4_ ⊢
   have BK179 := n0_
   have BK180 := n1_
   have BK181 := n2_
   have BK184 := n3_
   have HB := n4_
   clear n0_ n1_ n2_ n3_ n4_
   have n0_ := Ax (blk_drew BK179.out)
   have n1_ := Ax (blk_drew BK180.out)
   have n2_ := Ax (blk_drew BK181.out)
   have n3_ := Ax (blk_drew BK184.out)
   have n4_ := Ax (below_drew1 HB.out)
   clear BK179
   clear BK180
   clear BK181
   clear BK184
   clear HB
   have BK179 := n0_
   have BK180 := n1_
   have BK181 := n2_
   have BK184 := n3_
   have HB := n4_
   clear n0_ n1_ n2_ n3_ n4_
   refine start_ (n := 8) (S := fun w' => w'.cell? ⟨gb179, 0, none⟩ = some (.bool a0_0) ∧ w'.cell? ⟨gb179, 1, none⟩ = some (.int .u64 a0_1) ∧ w'.cell? ⟨gb179, 2, none⟩ = some (.int .u64 a0_2) ∧ w'.cell? ⟨gb179, 3, none⟩ = some (.int .i64 (wrap64 (a0_3 + 1)))) (ds := []) #[fa,fa,fa,fa,fa,fa,fa,fa] (by kernel_rfl) rfl rfl ⟨(blk_cell BK179.out 0).trans rfl, (blk_cell BK179.out 1).trans rfl, (blk_cell BK179.out 2).trans rfl, (blk_cell BK179.out 3).trans rfl⟩ (fun hHeld => ?_); refine with_tabW addr_Halves.tab9 addr_Halves.bits9 (fun HT_ HW_ => ?_)
   generalize w33.drew = w34 at BK179 BK180 BK181 BK184 HB hHeld ⊢
   refine pure_ (i := 0) (N := some 32) (v := ?_) (a' := ?_) #[tr,fa,fa,fa,fa,fa,fa,fa] rfl rfl (any_of HT_.out (by kernel_rfl)) (fun _ _ _ h => h) (Or.inl ⟨by rfl, ?_⟩) ?_ ?_
   rotate_left
   ·intro w'
    go_simp
    with_reducible rfl
   rotate_left
   ·simp only [sP]
    rfl
   refine pure_ (i := 2) (N := some 34) (v := ?_) (a' := ?_) #[tr,fa,tr,fa,fa,fa,fa,fa] rfl rfl (any_of HT_.out (by kernel_rfl)) (fun _ _ _ h => h) (Or.inl ⟨by rfl, ?_⟩) ?_ ?_
   rotate_left
   ·intro w'
    go_simp
    with_reducible rfl
   rotate_left
   ·simp only [sP]
    rfl
   refine pure_ (i := 3) (N := some 35) (v := ?_) (a' := ?_) #[tr,fa,tr,tr,fa,fa,fa,fa] rfl rfl (any_of HT_.out (by kernel_rfl)) (fun _ _ _ h => h) (Or.inl ⟨by rfl, ?_⟩) ?_ ?_
   rotate_left
   ·intro w'
    go_simp
    with_reducible rfl
   rotate_left
   ·simp only [sP]
    rfl
   refine take_ (i := 1) (N := some 33) (v := ?_) (a' := ?_) #[tr,tr,tr,tr,fa,fa,fa,fa] rfl rfl (take_ofW HT_.out HW_.out (by kernel_rfl)) (fun _ _ _ h => h) (Or.inl ⟨by rfl, ?_⟩) hHeld ?_ ?_
   rotate_left
   ·rintro w' ⟨s0, s1, s2, s3⟩
    go_simp
    with_reducible rfl
   rotate_left
   ·simp only [sP]
    rfl
   refine one_ (i := 4) (N := some 36) #[tr,tr,tr,tr,tr,fa,fa,fa] rfl rfl (one_of HT_.out (by kernel_rfl)) (by decide) (fun K hK => ?_)
   refine goes_ Try.func37 (by kernel_rfl) rfl #[.int .i64 (wrap64 ((wrap64 (t182 - a0_3)) - 1))] (by rfl) rfl rfl gS ?_
   with_reducible refine (addr_bit.calls (wrap64 ((wrap64 (t182 - a0_3)) - 1)) t185 t186 _ A17.out).mono ?_
   rintro e w35 ⟨rfl, hb⟩
   refine ⟨_, rfl, ?_⟩
   have n0_ := Ax (blk_below (g := gb179) (o := .cells #[.bool a0_0, .int .u64 a0_1, .int .u64 a0_2, .int .i64 (wrap64 (a0_3 + 1))] 33 (0, 0)) (bf0 BK179.out) hb)
   have n1_ := Ax (blk_below (g := gb180) (o := .cells #[.bool false, .int .u64 0, .int .u64 0, .int .i64 0] 33 (0, 0)) (bf0 BK180.out) hb)
   have n2_ := Ax (blk_below (g := gb181) (o := .cells #[.bool false, .int .u64 0, .int .u64 0, .int .i64 0] 33 (0, 0)) (bf0 BK181.out) hb)
   have n3_ := Ax (blk_below (g := gb184) (o := .cells #[.bool a0_0, .int .u64 a0_1, .int .u64 a0_2, .int .i64 (wrap64 (a0_3 + 1))] 33 (0, 0)) (bf0 BK184.out) hb)
   have n4_ := Ax (below_step (bw4 HB.out GE179.out GE180.out GE181.out GE184.out) hb)
   clear BK179
   clear BK180
   clear BK181
   clear BK184
   clear HB
   have BK179 := n0_
   have BK180 := n1_
   have BK181 := n2_
   have BK184 := n3_
   have HB := n4_
   clear n0_ n1_ n2_ n3_ n4_
   (try clear hb)
   (try clear hb2)
   (try clear hk)
   (try clear hi)
   refine hK.out _ _ ⟨(blk_cell BK179.out 0).trans rfl, (blk_cell BK179.out 1).trans rfl, (blk_cell BK179.out 2).trans rfl, (blk_cell BK179.out 3).trans rfl⟩ (fun hHeld => ?_)
   clear hK K
   refine norm_ (a' := ?_) ?_ ?_
   rotate_left
   ·show Act.put _ (some 36) _ = _
    simp only [sP]
    rfl
   refine one_ (i := 5) (N := some 37) #[tr,tr,tr,tr,tr,tr,fa,fa] rfl rfl (one_of HT_.out (by kernel_rfl)) (by decide) (fun K hK => ?_)
   refine goes_ Try.func33 (by kernel_rfl) rfl #[.agg #[.int .u64 a0_1, .int .u64 a0_2], .agg #[.int .u64 t185, .int .u64 t186]] (by rfl) rfl rfl gS ?_
   with_reducible refine (addr_both.calls a0_1 a0_2 t185 t186 t187 t188 _ A18.out).mono ?_
   rintro e w36 ⟨rfl, hb⟩
   refine ⟨_, rfl, ?_⟩
   have n0_ := Ax (blk_below (g := gb179) (o := .cells #[.bool a0_0, .int .u64 a0_1, .int .u64 a0_2, .int .i64 (wrap64 (a0_3 + 1))] 33 (0, 0)) (bf0 BK179.out) hb)
   have n1_ := Ax (blk_below (g := gb180) (o := .cells #[.bool false, .int .u64 0, .int .u64 0, .int .i64 0] 33 (0, 0)) (bf0 BK180.out) hb)
   have n2_ := Ax (blk_below (g := gb181) (o := .cells #[.bool false, .int .u64 0, .int .u64 0, .int .i64 0] 33 (0, 0)) (bf0 BK181.out) hb)
   have n3_ := Ax (blk_below (g := gb184) (o := .cells #[.bool a0_0, .int .u64 a0_1, .int .u64 a0_2, .int .i64 (wrap64 (a0_3 + 1))] 33 (0, 0)) (bf0 BK184.out) hb)
   have n4_ := Ax (below_step (bw4 HB.out GE179.out GE180.out GE181.out GE184.out) hb)
   clear BK179
   clear BK180
   clear BK181
   clear BK184
   clear HB
   have BK179 := n0_
   have BK180 := n1_
   have BK181 := n2_
   have BK184 := n3_
   have HB := n4_
   clear n0_ n1_ n2_ n3_ n4_
   (try clear hb)
   (try clear hb2)
   (try clear hk)
   (try clear hi)
   refine hK.out _ _ ⟨(blk_cell BK179.out 0).trans rfl, (blk_cell BK179.out 1).trans rfl, (blk_cell BK179.out 2).trans rfl, (blk_cell BK179.out 3).trans rfl⟩ (fun hHeld => ?_)
   clear hK K
   refine norm_ (a' := ?_) ?_ ?_
   rotate_left
   ·show Act.put _ (some 37) _ = _
    simp only [sP]
    rfl
   refine pure_ (i := 6) (N := some 38) (v := ?_) (a' := ?_) #[tr,tr,tr,tr,tr,tr,tr,fa] rfl rfl (any_of HT_.out (by kernel_rfl)) (fun _ _ _ h => h) (Or.inl ⟨by rfl, ?_⟩) ?_ ?_
   rotate_left
   ·intro w'
    go_simp
    with_reducible rfl
   rotate_left
   ·simp only [sP]
    rfl
   refine one_ (i := 7) (N := none) #[tr,tr,tr,tr,tr,tr,tr,tr] rfl rfl (one_of HT_.out (by kernel_rfl)) (by decide) (fun K hK => ?_)
   have hs37 : w36.cell? ⟨gb184, 1, none⟩ = some (.int .u64 a0_1) := (blk_cell BK184.out 1).trans rfl
   have hfs37 := blk_frozen BK184.out 1
   have hns37_0 := NB179_184.out
   have hns37_1 := NB180_184.out
   have hns37_2 := NB181_184.out
   have hms37_0 := NB184_179.out
   have hms37_1 := NB184_180.out
   have hms37_2 := NB184_181.out
   have hs38 : w36.cell? ⟨gb184, 2, none⟩ = some (.int .u64 a0_2) := (blk_cell BK184.out 2).trans rfl
   have hfs38 := blk_frozen BK184.out 2
   have hns38_0 := NB179_184.out
   have hns38_1 := NB180_184.out
   have hns38_2 := NB181_184.out
   have hms38_0 := NB184_179.out
   have hms38_1 := NB184_180.out
   have hms38_2 := NB184_181.out
   refine skip_ (w1 := ?_) (by rfl) rfl ?_ ?_
   rotate_left
   ·go_simp
    rfl
   refine hK.out _ _ ⟨((cell_far (p := ⟨gb184, _, none⟩) NB179_184.out _).trans (((cell_far (p := ⟨gb184, _, none⟩) NB179_184.out _).trans (hHeld.1)))), ((cell_far (p := ⟨gb184, _, none⟩) NB179_184.out _).trans (((cell_far (p := ⟨gb184, _, none⟩) NB179_184.out _).trans (hHeld.2.1)))), ((cell_far (p := ⟨gb184, _, none⟩) NB179_184.out _).trans (((cell_far (p := ⟨gb184, _, none⟩) NB179_184.out _).trans (hHeld.2.2.1)))), ((cell_far (p := ⟨gb184, _, none⟩) NB179_184.out _).trans (((cell_far (p := ⟨gb184, _, none⟩) NB179_184.out _).trans (hHeld.2.2.2))))⟩ (fun hHeld => ?_)
   clear hK K
   refine done_ (done_of HT_.out (by kernel_rfl)) ?_
   try go_wp2
   have n0_ : Aside0 (((w36.setCell ⟨gb184, 1, none⟩ (.int .u64 t187)).setCell ⟨gb184, 2, none⟩ (.int .u64 t188)).heap[gb179]? = some (.cells #[.bool a0_0, .int .u64 a0_1, .int .u64 a0_2, .int .i64 (wrap64 (a0_3 + 1))] 33 (0, 0))) := ⟨bf2 BK179.out NB179_184.out NB179_184.out⟩
   have n1_ : Aside0 (((w36.setCell ⟨gb184, 1, none⟩ (.int .u64 t187)).setCell ⟨gb184, 2, none⟩ (.int .u64 t188)).heap[gb180]? = some (.cells #[.bool false, .int .u64 0, .int .u64 0, .int .i64 0] 33 (0, 0))) := ⟨bf2 BK180.out NB180_184.out NB180_184.out⟩
   have n2_ : Aside0 (((w36.setCell ⟨gb184, 1, none⟩ (.int .u64 t187)).setCell ⟨gb184, 2, none⟩ (.int .u64 t188)).heap[gb181]? = some (.cells #[.bool false, .int .u64 0, .int .u64 0, .int .i64 0] 33 (0, 0))) := ⟨bf2 BK181.out NB181_184.out NB181_184.out⟩
   have n3_ : Aside0 (((w36.setCell ⟨gb184, 1, none⟩ (.int .u64 t187)).setCell ⟨gb184, 2, none⟩ (.int .u64 t188)).heap[gb184]? = some (.cells #[.bool a0_0, .int .u64 t187, .int .u64 t188, .int .i64 (wrap64 (a0_3 + 1))] 33 (0, 0))) := ⟨by (with_reducible repeat (first | refine blk_drewN ?_ _ | refine blk_drew ?_ | refine blk_alloc ?_ _)); refine blk_put (cs := #[.bool a0_0, .int .u64 t187, .int .u64 a0_2, .int .i64 (wrap64 (a0_3 + 1))]) ?_ 2 _ rfl; (with_reducible repeat (first | refine blk_drewN ?_ _ | refine blk_drew ?_ | refine blk_alloc ?_ _)); refine blk_put (cs := #[.bool a0_0, .int .u64 a0_1, .int .u64 a0_2, .int .i64 (wrap64 (a0_3 + 1))]) ?_ 1 _ rfl; (with_reducible repeat (first | refine blk_drewN ?_ _ | refine blk_drew ?_ | refine blk_alloc ?_ _)); exact BK184.out⟩
   have n4_ : Aside0 (Below w.heap.size w ((w36.setCell ⟨gb184, 1, none⟩ (.int .u64 t187)).setCell ⟨gb184, 2, none⟩ (.int .u64 t188))) := ⟨bw4 HB.out GE179.out GE180.out GE181.out GE184.out⟩
   (try clear BK179)
   (try clear BK180)
   (try clear BK181)
   (try clear BK184)
   (try clear HB)
   generalize ((w36.setCell ⟨gb184, 1, none⟩ (.int .u64 t187)).setCell ⟨gb184, 2, none⟩ (.int .u64 t188)) = w39 at n0_ n1_ n2_ n3_ n4_ ⊢
   have BK179 := n0_
   have BK180 := n1_
   have BK181 := n2_
   have BK184 := n3_
   have HB := n4_
   clear n0_ n1_ n2_ n3_ n4_
   have n0_ := Ax (blk_drew BK179.out)
   have n1_ := Ax (blk_drew BK180.out)
   have n2_ := Ax (blk_drew BK181.out)
   have n3_ := Ax (blk_drew BK184.out)
   have n4_ := Ax (below_drew1 HB.out)
   clear BK179
   clear BK180
   clear BK181
   clear BK184
   clear HB
   have BK179 := n0_
   have BK180 := n1_
   have BK181 := n2_
   have BK184 := n3_
   have HB := n4_
   clear n0_ n1_ n2_ n3_ n4_
   refine start_ (n := 5) (S := fun w' => w'.cell? ⟨gb179, 0, none⟩ = some (.bool a0_0) ∧ w'.cell? ⟨gb179, 1, none⟩ = some (.int .u64 a0_1) ∧ w'.cell? ⟨gb179, 2, none⟩ = some (.int .u64 a0_2) ∧ w'.cell? ⟨gb179, 3, none⟩ = some (.int .i64 (wrap64 (a0_3 + 1))) ∧ w'.cell? ⟨gb184, 0, none⟩ = some (.bool a0_0) ∧ w'.cell? ⟨gb184, 1, none⟩ = some (.int .u64 t187) ∧ w'.cell? ⟨gb184, 2, none⟩ = some (.int .u64 t188) ∧ w'.cell? ⟨gb184, 3, none⟩ = some (.int .i64 (wrap64 (a0_3 + 1)))) (ds := []) #[fa,fa,fa,fa,fa] (by kernel_rfl) rfl rfl ⟨(blk_cell BK179.out 0).trans rfl, (blk_cell BK179.out 1).trans rfl, (blk_cell BK179.out 2).trans rfl, (blk_cell BK179.out 3).trans rfl, (blk_cell BK184.out 0).trans rfl, (blk_cell BK184.out 1).trans rfl, (blk_cell BK184.out 2).trans rfl, (blk_cell BK184.out 3).trans rfl⟩ (fun hHeld => ?_)
   generalize w39.drew = w40 at BK179 BK180 BK181 BK184 HB hHeld ⊢
   refine take_ (i := 0) (N := some 39) (v := ?_) (a' := ?_) #[tr,fa,fa,fa,fa] rfl rfl (by kernel_rfl) (fun _ _ _ h => h) (Or.inl ⟨by rfl, ?_⟩) hHeld ?_ ?_
   rotate_left
   ·rintro w' ⟨s0, s1, s2, s3, s4, s5, s6, s7⟩
    go_simp
    with_reducible rfl
   rotate_left
   ·simp only [sP]
    rfl
   refine take_ (i := 1) (N := some 40) (v := ?_) (a' := ?_) #[tr,tr,fa,fa,fa] rfl rfl (by kernel_rfl) (fun _ _ _ h => h) (Or.inl ⟨by rfl, ?_⟩) hHeld ?_ ?_
   rotate_left
   ·rintro w' ⟨s0, s1, s2, s3, s4, s5, s6, s7⟩
    go_simp
    with_reducible rfl
   rotate_left
   ·simp only [sP]
    rfl
   refine one_ (i := 2) (N := none) #[tr,tr,tr,fa,fa] rfl rfl (by kernel_rfl) (by decide) (fun K hK => ?_)
   have hs41 : w40.cell? ⟨gb180, 0, none⟩ = some (.bool false) := (blk_cell BK180.out 0).trans rfl
   have hfs41 := blk_frozen BK180.out 0
   have hns41_0 := NB179_180.out
   have hns41_2 := NB181_180.out
   have hns41_3 := NB184_180.out
   have hms41_0 := NB180_179.out
   have hms41_2 := NB180_181.out
   have hms41_3 := NB180_184.out
   have hs42 : w40.cell? ⟨gb180, 1, none⟩ = some (.int .u64 0) := (blk_cell BK180.out 1).trans rfl
   have hfs42 := blk_frozen BK180.out 1
   have hns42_0 := NB179_180.out
   have hns42_2 := NB181_180.out
   have hns42_3 := NB184_180.out
   have hms42_0 := NB180_179.out
   have hms42_2 := NB180_181.out
   have hms42_3 := NB180_184.out
   have hs43 : w40.cell? ⟨gb180, 2, none⟩ = some (.int .u64 0) := (blk_cell BK180.out 2).trans rfl
   have hfs43 := blk_frozen BK180.out 2
   have hns43_0 := NB179_180.out
   have hns43_2 := NB181_180.out
   have hns43_3 := NB184_180.out
   have hms43_0 := NB180_179.out
   have hms43_2 := NB180_181.out
   have hms43_3 := NB180_184.out
   have hs44 : w40.cell? ⟨gb180, 3, none⟩ = some (.int .i64 0) := (blk_cell BK180.out 3).trans rfl
   have hfs44 := blk_frozen BK180.out 3
   have hns44_0 := NB179_180.out
   have hns44_2 := NB181_180.out
   have hns44_3 := NB184_180.out
   have hms44_0 := NB180_179.out
   have hms44_2 := NB180_181.out
   have hms44_3 := NB180_184.out
   refine skip_ (w1 := ?_) (by rfl) rfl ?_ ?_
   rotate_left
   ·go_simp
    rfl
   refine hK.out _ _ ⟨((cell_far (p := ⟨gb180, _, none⟩) NB179_180.out _).trans (((cell_far (p := ⟨gb180, _, none⟩) NB179_180.out _).trans (((cell_far (p := ⟨gb180, _, none⟩) NB179_180.out _).trans (((cell_far (p := ⟨gb180, _, none⟩) NB179_180.out _).trans (hHeld.1)))))))), ((cell_far (p := ⟨gb180, _, none⟩) NB179_180.out _).trans (((cell_far (p := ⟨gb180, _, none⟩) NB179_180.out _).trans (((cell_far (p := ⟨gb180, _, none⟩) NB179_180.out _).trans (((cell_far (p := ⟨gb180, _, none⟩) NB179_180.out _).trans (hHeld.2.1)))))))), ((cell_far (p := ⟨gb180, _, none⟩) NB179_180.out _).trans (((cell_far (p := ⟨gb180, _, none⟩) NB179_180.out _).trans (((cell_far (p := ⟨gb180, _, none⟩) NB179_180.out _).trans (((cell_far (p := ⟨gb180, _, none⟩) NB179_180.out _).trans (hHeld.2.2.1)))))))), ((cell_far (p := ⟨gb180, _, none⟩) NB179_180.out _).trans (((cell_far (p := ⟨gb180, _, none⟩) NB179_180.out _).trans (((cell_far (p := ⟨gb180, _, none⟩) NB179_180.out _).trans (((cell_far (p := ⟨gb180, _, none⟩) NB179_180.out _).trans (hHeld.2.2.2.1)))))))), ((cell_far (p := ⟨gb180, _, none⟩) NB184_180.out _).trans (((cell_far (p := ⟨gb180, _, none⟩) NB184_180.out _).trans (((cell_far (p := ⟨gb180, _, none⟩) NB184_180.out _).trans (((cell_far (p := ⟨gb180, _, none⟩) NB184_180.out _).trans (hHeld.2.2.2.2.1)))))))), ((cell_far (p := ⟨gb180, _, none⟩) NB184_180.out _).trans (((cell_far (p := ⟨gb180, _, none⟩) NB184_180.out _).trans (((cell_far (p := ⟨gb180, _, none⟩) NB184_180.out _).trans (((cell_far (p := ⟨gb180, _, none⟩) NB184_180.out _).trans (hHeld.2.2.2.2.2.1)))))))), ((cell_far (p := ⟨gb180, _, none⟩) NB184_180.out _).trans (((cell_far (p := ⟨gb180, _, none⟩) NB184_180.out _).trans (((cell_far (p := ⟨gb180, _, none⟩) NB184_180.out _).trans (((cell_far (p := ⟨gb180, _, none⟩) NB184_180.out _).trans (hHeld.2.2.2.2.2.2.1)))))))), ((cell_far (p := ⟨gb180, _, none⟩) NB184_180.out _).trans (((cell_far (p := ⟨gb180, _, none⟩) NB184_180.out _).trans (((cell_far (p := ⟨gb180, _, none⟩) NB184_180.out _).trans (((cell_far (p := ⟨gb180, _, none⟩) NB184_180.out _).trans (hHeld.2.2.2.2.2.2.2))))))))⟩ (fun hHeld => ?_)
   clear hK K
   refine one_ (i := 3) (N := none) #[tr,tr,tr,tr,fa] rfl rfl (by kernel_rfl) (by decide) (fun K hK => ?_)
   have hs45 : w40.cell? ⟨gb181, 0, none⟩ = some (.bool false) := (blk_cell BK181.out 0).trans rfl
   have hfs45 := blk_frozen BK181.out 0
   have hns45_0 := NB179_181.out
   have hns45_1 := NB180_181.out
   have hns45_3 := NB184_181.out
   have hms45_0 := NB181_179.out
   have hms45_1 := NB181_180.out
   have hms45_3 := NB181_184.out
   have hs46 : w40.cell? ⟨gb181, 1, none⟩ = some (.int .u64 0) := (blk_cell BK181.out 1).trans rfl
   have hfs46 := blk_frozen BK181.out 1
   have hns46_0 := NB179_181.out
   have hns46_1 := NB180_181.out
   have hns46_3 := NB184_181.out
   have hms46_0 := NB181_179.out
   have hms46_1 := NB181_180.out
   have hms46_3 := NB181_184.out
   have hs47 : w40.cell? ⟨gb181, 2, none⟩ = some (.int .u64 0) := (blk_cell BK181.out 2).trans rfl
   have hfs47 := blk_frozen BK181.out 2
   have hns47_0 := NB179_181.out
   have hns47_1 := NB180_181.out
   have hns47_3 := NB184_181.out
   have hms47_0 := NB181_179.out
   have hms47_1 := NB181_180.out
   have hms47_3 := NB181_184.out
   have hs48 : w40.cell? ⟨gb181, 3, none⟩ = some (.int .i64 0) := (blk_cell BK181.out 3).trans rfl
   have hfs48 := blk_frozen BK181.out 3
   have hns48_0 := NB179_181.out
   have hns48_1 := NB180_181.out
   have hns48_3 := NB184_181.out
   have hms48_0 := NB181_179.out
   have hms48_1 := NB181_180.out
   have hms48_3 := NB181_184.out
   refine skip_ (w1 := ?_) (by rfl) rfl ?_ ?_
   rotate_left
   ·go_simp
    rfl
   refine hK.out _ _ ⟨((cell_far (p := ⟨gb181, _, none⟩) NB179_181.out _).trans (((cell_far (p := ⟨gb181, _, none⟩) NB179_181.out _).trans (((cell_far (p := ⟨gb181, _, none⟩) NB179_181.out _).trans (((cell_far (p := ⟨gb181, _, none⟩) NB179_181.out _).trans (hHeld.1)))))))), ((cell_far (p := ⟨gb181, _, none⟩) NB179_181.out _).trans (((cell_far (p := ⟨gb181, _, none⟩) NB179_181.out _).trans (((cell_far (p := ⟨gb181, _, none⟩) NB179_181.out _).trans (((cell_far (p := ⟨gb181, _, none⟩) NB179_181.out _).trans (hHeld.2.1)))))))), ((cell_far (p := ⟨gb181, _, none⟩) NB179_181.out _).trans (((cell_far (p := ⟨gb181, _, none⟩) NB179_181.out _).trans (((cell_far (p := ⟨gb181, _, none⟩) NB179_181.out _).trans (((cell_far (p := ⟨gb181, _, none⟩) NB179_181.out _).trans (hHeld.2.2.1)))))))), ((cell_far (p := ⟨gb181, _, none⟩) NB179_181.out _).trans (((cell_far (p := ⟨gb181, _, none⟩) NB179_181.out _).trans (((cell_far (p := ⟨gb181, _, none⟩) NB179_181.out _).trans (((cell_far (p := ⟨gb181, _, none⟩) NB179_181.out _).trans (hHeld.2.2.2.1)))))))), ((cell_far (p := ⟨gb181, _, none⟩) NB184_181.out _).trans (((cell_far (p := ⟨gb181, _, none⟩) NB184_181.out _).trans (((cell_far (p := ⟨gb181, _, none⟩) NB184_181.out _).trans (((cell_far (p := ⟨gb181, _, none⟩) NB184_181.out _).trans (hHeld.2.2.2.2.1)))))))), ((cell_far (p := ⟨gb181, _, none⟩) NB184_181.out _).trans (((cell_far (p := ⟨gb181, _, none⟩) NB184_181.out _).trans (((cell_far (p := ⟨gb181, _, none⟩) NB184_181.out _).trans (((cell_far (p := ⟨gb181, _, none⟩) NB184_181.out _).trans (hHeld.2.2.2.2.2.1)))))))), ((cell_far (p := ⟨gb181, _, none⟩) NB184_181.out _).trans (((cell_far (p := ⟨gb181, _, none⟩) NB184_181.out _).trans (((cell_far (p := ⟨gb181, _, none⟩) NB184_181.out _).trans (((cell_far (p := ⟨gb181, _, none⟩) NB184_181.out _).trans (hHeld.2.2.2.2.2.2.1)))))))), ((cell_far (p := ⟨gb181, _, none⟩) NB184_181.out _).trans (((cell_far (p := ⟨gb181, _, none⟩) NB184_181.out _).trans (((cell_far (p := ⟨gb181, _, none⟩) NB184_181.out _).trans (((cell_far (p := ⟨gb181, _, none⟩) NB184_181.out _).trans (hHeld.2.2.2.2.2.2.2))))))))⟩ (fun hHeld => ?_)
   clear hK K
   refine pure_ (i := 4) (N := some 4) (v := ?_) (a' := ?_) #[tr,tr,tr,tr,tr] rfl rfl (by kernel_rfl) (fun _ _ _ h => h) (Or.inl ⟨by rfl, ?_⟩) ?_ ?_
   rotate_left
   ·intro w'
    go_simp
    with_reducible rfl
   rotate_left
   ·simp only [sP]
    rfl
   refine done_ (by kernel_rfl) ?_
   try go_wp2
   refine bodyPost_ret (results_list (rs := [.cell 2 33, .cell 3 33, .tmp 4]) rfl (by simp) (.cell gb180 33 #[.bool a0_0, .int .u64 a0_1, .int .u64 a0_2, .int .i64 (wrap64 (a0_3 + 1))] (0, 0) _ rfl (by (with_reducible repeat (first | refine blk_drewN ?_ _ | refine blk_drew ?_ | refine blk_alloc ?_ _)); refine blk_far ?_ NB180_181.out _; (with_reducible repeat (first | refine blk_drewN ?_ _ | refine blk_drew ?_ | refine blk_alloc ?_ _)); refine blk_far ?_ NB180_181.out _; (with_reducible repeat (first | refine blk_drewN ?_ _ | refine blk_drew ?_ | refine blk_alloc ?_ _)); refine blk_far ?_ NB180_181.out _; (with_reducible repeat (first | refine blk_drewN ?_ _ | refine blk_drew ?_ | refine blk_alloc ?_ _)); refine blk_far ?_ NB180_181.out _; (with_reducible repeat (first | refine blk_drewN ?_ _ | refine blk_drew ?_ | refine blk_alloc ?_ _)); refine blk_put (cs := #[.bool a0_0, .int .u64 a0_1, .int .u64 a0_2, .int .i64 0]) ?_ 3 _ rfl; (with_reducible repeat (first | refine blk_drewN ?_ _ | refine blk_drew ?_ | refine blk_alloc ?_ _)); refine blk_put (cs := #[.bool a0_0, .int .u64 a0_1, .int .u64 0, .int .i64 0]) ?_ 2 _ rfl; (with_reducible repeat (first | refine blk_drewN ?_ _ | refine blk_drew ?_ | refine blk_alloc ?_ _)); refine blk_put (cs := #[.bool a0_0, .int .u64 0, .int .u64 0, .int .i64 0]) ?_ 1 _ rfl; (with_reducible repeat (first | refine blk_drewN ?_ _ | refine blk_drew ?_ | refine blk_alloc ?_ _)); refine blk_put (cs := #[.bool false, .int .u64 0, .int .u64 0, .int .i64 0]) ?_ 0 _ rfl; (with_reducible repeat (first | refine blk_drewN ?_ _ | refine blk_drew ?_ | refine blk_alloc ?_ _)); exact BK180.out) Try.underlying33 rfl (by kernel_rfl) (.cell gb181 33 #[.bool a0_0, .int .u64 t187, .int .u64 t188, .int .i64 (wrap64 (a0_3 + 1))] (0, 0) _ rfl (by (with_reducible repeat (first | refine blk_drewN ?_ _ | refine blk_drew ?_ | refine blk_alloc ?_ _)); refine blk_put (cs := #[.bool a0_0, .int .u64 t187, .int .u64 t188, .int .i64 0]) ?_ 3 _ rfl; (with_reducible repeat (first | refine blk_drewN ?_ _ | refine blk_drew ?_ | refine blk_alloc ?_ _)); refine blk_put (cs := #[.bool a0_0, .int .u64 t187, .int .u64 0, .int .i64 0]) ?_ 2 _ rfl; (with_reducible repeat (first | refine blk_drewN ?_ _ | refine blk_drew ?_ | refine blk_alloc ?_ _)); refine blk_put (cs := #[.bool a0_0, .int .u64 0, .int .u64 0, .int .i64 0]) ?_ 1 _ rfl; (with_reducible repeat (first | refine blk_drewN ?_ _ | refine blk_drew ?_ | refine blk_alloc ?_ _)); refine blk_put (cs := #[.bool false, .int .u64 0, .int .u64 0, .int .i64 0]) ?_ 0 _ rfl; (with_reducible repeat (first | refine blk_drewN ?_ _ | refine blk_drew ?_ | refine blk_alloc ?_ _)); refine blk_far ?_ NB181_180.out _; (with_reducible repeat (first | refine blk_drewN ?_ _ | refine blk_drew ?_ | refine blk_alloc ?_ _)); refine blk_far ?_ NB181_180.out _; (with_reducible repeat (first | refine blk_drewN ?_ _ | refine blk_drew ?_ | refine blk_alloc ?_ _)); refine blk_far ?_ NB181_180.out _; (with_reducible repeat (first | refine blk_drewN ?_ _ | refine blk_drew ?_ | refine blk_alloc ?_ _)); refine blk_far ?_ NB181_180.out _; (with_reducible repeat (first | refine blk_drewN ?_ _ | refine blk_drew ?_ | refine blk_alloc ?_ _)); exact BK181.out) Try.underlying33 rfl (by kernel_rfl) (.tmp .nil)))) rfl ?_
   exact ⟨eS, bw4 HB.out GE179.out GE180.out GE181.out GE184.out⟩
 ·rw [if_neg c4] at H
  have c4b0 : (t183 == 0) = false := beq_eq_false_iff_ne.mpr c4
  have c4b1 : (t183 != 0) = true := bne_iff_ne.mpr c4
  simp only [Option.some.injEq, Prod.mk.injEq] at H
  obtain ⟨rfl, rfl, rfl, rfl, rfl, rfl, rfl, rfl, rfl⟩ := H
  go_enter Try.func18, Try.ntmps18
  try go_wp2_with (first | ((with_reducible refine gate_dst (N := 1) rfl ?_); refine box_event ?hg (N := 1) ?hd (cs := #[.bool a0_0, .int .u64 a0_1, .int .u64 a0_2, .int .i64 a0_3]) (t := 33) ?hr ?_; (case hd => rfl); (case hg => rfl); (case hr => first | (go_simp; done) | (go_simp; rfl)); intro gb179 hg w49 hbox hb; have n0_ := Ax (below_step (bw0 HB.out) hb); have n1_ := Ax (hbox); have n2_ := Ax ((by rw [hg]; exact (below_size (bw0 HB.out)) : w.heap.size ≤ gb179)); have n3_ := Ax ((by rw [hg]; exact (below_size (bw0 HB.out)) : w.heap.size ≤ gb179)); clear HB; have HB := n0_; have BK179 := n1_; have GW179 := n2_; have GE179 := n3_; clear n0_ n1_ n2_ n3_; clear hb hbox hg) | ((with_reducible refine gate_dst (N := 2) rfl ?_); refine box_event ?hg (N := 2) ?hd (cs := #[.bool false, .int .u64 0, .int .u64 0, .int .i64 0]) (t := 33) ?hr ?_; (case hd => rfl); (case hg => rfl); (case hr => first | (go_simp; done) | (go_simp; rfl)); intro gb180 hg w50 hbox hb; have n0_ := Ax (blk_below (g := gb179) (o := .cells #[.bool a0_0, .int .u64 a0_1, .int .u64 a0_2, .int .i64 a0_3] 33 (0, 0)) (bf0 BK179.out) hb); have n1_ := Ax (below_step (bw1 HB.out GE179.out) hb); have n2_ := Ax (hbox); have n3_ := Ax ((by rw [hg]; exact (below_size (bw1 HB.out GE179.out)) : w.heap.size ≤ gb180)); have n4_ := Ax ((by rw [hg]; exact (below_size (bw1 HB.out GE179.out)) : w.heap.size ≤ gb180)); have n5_ := Ax ((by rw [hg]; exact Nat.ne_of_lt (blk_lt (g := gb179) (o := .cells #[.bool a0_0, .int .u64 a0_1, .int .u64 a0_2, .int .i64 a0_3] 33 (0, 0)) (bf0 BK179.out)) : gb179 ≠ gb180)); have n6_ := Ax ((by rw [hg]; exact Nat.ne_of_gt (blk_lt (g := gb179) (o := .cells #[.bool a0_0, .int .u64 a0_1, .int .u64 a0_2, .int .i64 a0_3] 33 (0, 0)) (bf0 BK179.out)) : gb180 ≠ gb179)); clear BK179; clear HB; have BK179 := n0_; have HB := n1_; have BK180 := n2_; have GW180 := n3_; have GE180 := n4_; have NB179_180 := n5_; have NB180_179 := n6_; clear n0_ n1_ n2_ n3_ n4_ n5_ n6_; clear hb hbox hg) | ((with_reducible refine gate_dst (N := 3) rfl ?_); refine box_event ?hg (N := 3) ?hd (cs := #[.bool false, .int .u64 0, .int .u64 0, .int .i64 0]) (t := 33) ?hr ?_; (case hd => rfl); (case hg => rfl); (case hr => first | (go_simp; done) | (go_simp; rfl)); intro gb181 hg w51 hbox hb; have n0_ := Ax (blk_below (g := gb179) (o := .cells #[.bool a0_0, .int .u64 a0_1, .int .u64 a0_2, .int .i64 a0_3] 33 (0, 0)) (bf0 BK179.out) hb); have n1_ := Ax (blk_below (g := gb180) (o := .cells #[.bool false, .int .u64 0, .int .u64 0, .int .i64 0] 33 (0, 0)) (bf0 BK180.out) hb); have n2_ := Ax (below_step (bw2 HB.out GE179.out GE180.out) hb); have n3_ := Ax (hbox); have n4_ := Ax ((by rw [hg]; exact (below_size (bw2 HB.out GE179.out GE180.out)) : w.heap.size ≤ gb181)); have n5_ := Ax ((by rw [hg]; exact (below_size (bw2 HB.out GE179.out GE180.out)) : w.heap.size ≤ gb181)); have n6_ := Ax ((by rw [hg]; exact Nat.ne_of_lt (blk_lt (g := gb179) (o := .cells #[.bool a0_0, .int .u64 a0_1, .int .u64 a0_2, .int .i64 a0_3] 33 (0, 0)) (bf0 BK179.out)) : gb179 ≠ gb181)); have n7_ := Ax ((by rw [hg]; exact Nat.ne_of_gt (blk_lt (g := gb179) (o := .cells #[.bool a0_0, .int .u64 a0_1, .int .u64 a0_2, .int .i64 a0_3] 33 (0, 0)) (bf0 BK179.out)) : gb181 ≠ gb179)); have n8_ := Ax ((by rw [hg]; exact Nat.ne_of_lt (blk_lt (g := gb180) (o := .cells #[.bool false, .int .u64 0, .int .u64 0, .int .i64 0] 33 (0, 0)) (bf0 BK180.out)) : gb180 ≠ gb181)); have n9_ := Ax ((by rw [hg]; exact Nat.ne_of_gt (blk_lt (g := gb180) (o := .cells #[.bool false, .int .u64 0, .int .u64 0, .int .i64 0] 33 (0, 0)) (bf0 BK180.out)) : gb181 ≠ gb180)); clear BK179; clear BK180; clear HB; have BK179 := n0_; have BK180 := n1_; have HB := n2_; have BK181 := n3_; have GW181 := n4_; have GE181 := n5_; have NB179_181 := n6_; have NB181_179 := n7_; have NB180_181 := n8_; have NB181_180 := n9_; clear n0_ n1_ n2_ n3_ n4_ n5_ n6_ n7_ n8_ n9_; clear hb hbox hg))
  have n0_ := Ax (blk_drew BK179.out)
  have n1_ := Ax (blk_drew BK180.out)
  have n2_ := Ax (blk_drew BK181.out)
  have n3_ := Ax (below_drew1 HB.out)
  clear BK179
  clear BK180
  clear BK181
  clear HB
  have BK179 := n0_
  have BK180 := n1_
  have BK181 := n2_
  have HB := n3_
  clear n0_ n1_ n2_ n3_
  refine start_ (n := 7) (S := fun w' => w'.cell? ⟨gb179, 0, none⟩ = some (.bool a0_0) ∧ w'.cell? ⟨gb179, 1, none⟩ = some (.int .u64 a0_1) ∧ w'.cell? ⟨gb179, 2, none⟩ = some (.int .u64 a0_2) ∧ w'.cell? ⟨gb179, 3, none⟩ = some (.int .i64 a0_3)) (ds := []) #[fa,fa,fa,fa,fa,fa,fa] (by kernel_rfl) rfl rfl ⟨(blk_cell BK179.out 0).trans rfl, (blk_cell BK179.out 1).trans rfl, (blk_cell BK179.out 2).trans rfl, (blk_cell BK179.out 3).trans rfl⟩ (fun hHeld => ?_)
  generalize w51.drew = w52 at BK179 BK180 BK181 HB hHeld ⊢
  refine pure_ (i := 0) (N := some 8) (v := ?_) (a' := ?_) #[tr,fa,fa,fa,fa,fa,fa] rfl rfl (by kernel_rfl) (fun _ _ _ h => h) (Or.inl ⟨by rfl, ?_⟩) ?_ ?_
  rotate_left
  ·intro w'
   go_simp
   with_reducible rfl
  rotate_left
  ·simp only [sP]
   rfl
  refine pure_ (i := 3) (N := some 11) (v := ?_) (a' := ?_) #[tr,fa,fa,tr,fa,fa,fa] rfl rfl (by kernel_rfl) (fun _ _ _ h => h) (Or.inl ⟨by rfl, ?_⟩) ?_ ?_
  rotate_left
  ·intro w'
   go_simp
   with_reducible rfl
  rotate_left
  ·simp only [sP]
   rfl
  refine take_ (i := 1) (N := some 9) (v := ?_) (a' := ?_) #[tr,tr,fa,tr,fa,fa,fa] rfl rfl (by kernel_rfl) (fun _ _ _ h => h) (Or.inl ⟨by rfl, ?_⟩) hHeld ?_ ?_
  rotate_left
  ·rintro w' ⟨s0, s1, s2, s3⟩
   go_simp
   with_reducible rfl
  rotate_left
  ·simp only [sP]
   rfl
  refine take_ (i := 4) (N := some 12) (v := ?_) (a' := ?_) #[tr,tr,fa,tr,tr,fa,fa] rfl rfl (by kernel_rfl) (fun _ _ _ h => h) (Or.inl ⟨by rfl, ?_⟩) hHeld ?_ ?_
  rotate_left
  ·rintro w' ⟨s0, s1, s2, s3⟩
   go_simp
   with_reducible rfl
  rotate_left
  ·simp only [sP]
   rfl
  refine one_ (i := 2) (N := some 10) #[tr,tr,tr,tr,tr,fa,fa] rfl rfl (by kernel_rfl) (by decide) (fun K hK => ?_)
  refine goes_ Try.func27 (by kernel_rfl) rfl #[.bool a0_0] (by rfl) rfl rfl gS ?_
  with_reducible refine (addr_Wide.calls a0_0 t182 _ A2.out).mono ?_
  rintro e w' ⟨rfl, ⟨nd, rfl⟩⟩
  refine ⟨_, rfl, ?_⟩
  refine hK.out _ _ ⟨(blk_cell BK179.out 0).trans rfl, (blk_cell BK179.out 1).trans rfl, (blk_cell BK179.out 2).trans rfl, (blk_cell BK179.out 3).trans rfl⟩ (fun hHeld => ?_)
  clear hK K
  refine norm_ (a' := ?_) ?_ ?_
  rotate_left
  ·show Act.put _ (some 10) _ = _
   simp only [sP]
   rfl
  refine pure_ (i := 5) (N := some 13) (v := ?_) (a' := ?_) #[tr,tr,tr,tr,tr,tr,fa] rfl rfl (by kernel_rfl) (fun _ _ _ h => h) (Or.inl ⟨by rfl, ?_⟩) ?_ ?_
  rotate_left
  ·intro w'
   go_simp
   with_reducible rfl
  rotate_left
  ·simp only [sP]
   rfl
  refine pure_ (i := 6) (N := some 5) (v := ?_) (a' := ?_) #[tr,tr,tr,tr,tr,tr,tr] rfl rfl (by kernel_rfl) (fun _ _ _ h => h) (Or.inl ⟨by rfl, ?_⟩) ?_ ?_
  rotate_left
  ·intro w'
   go_simp
   with_reducible rfl
  rotate_left
  ·simp only [sP]
   rfl
  refine done_ (by kernel_rfl) ?_
  have hnb53 := NB179_180.out
  have hnc53 := NB180_179.out
  have hnb54 := NB179_181.out
  have hnc54 := NB181_179.out
  have hcz55_0 : w52.cell? ⟨gb179, 0, none⟩ = some (.bool a0_0) := (blk_cell BK179.out 0).trans rfl
  have hcz55_1 : w52.cell? ⟨gb179, 1, none⟩ = some (.int .u64 a0_1) := (blk_cell BK179.out 1).trans rfl
  have hcz55_2 : w52.cell? ⟨gb179, 2, none⟩ = some (.int .u64 a0_2) := (blk_cell BK179.out 2).trans rfl
  have hcz55_3 : w52.cell? ⟨gb179, 3, none⟩ = some (.int .i64 a0_3) := (blk_cell BK179.out 3).trans rfl
  have hfz55_0 := blk_frozen BK179.out 0
  have hfz55_1 := blk_frozen BK179.out 1
  have hfz55_2 := blk_frozen BK179.out 2
  have hfz55_3 := blk_frozen BK179.out 3
  try go_wp2_with (first | ((with_reducible refine gate_callee (f := 20) rfl ?_); refine goesL_ (some 15) rfl rfl Try.func20 (by kernel_rfl) rfl #[.agg #[.bool a0_0, .int .u64 a0_1, .int .u64 a0_2, .int .i64 a0_3]] rfl gS ?_; (with_reducible refine (addr_Check.calls k a0_0 a0_1 a0_2 a0_3 t183 _ A3.out).mono ?_); rintro e w56 ⟨rfl, hb⟩; refine ⟨_, rfl, ?_⟩; have n0_ := Ax (blk_below (g := gb179) (o := .cells #[.bool a0_0, .int .u64 a0_1, .int .u64 a0_2, .int .i64 a0_3] 33 (0, 0)) (bf0 BK179.out) hb); have n1_ := Ax (blk_below (g := gb180) (o := .cells #[.bool false, .int .u64 0, .int .u64 0, .int .i64 0] 33 (0, 0)) (bf0 BK180.out) hb); have n2_ := Ax (blk_below (g := gb181) (o := .cells #[.bool false, .int .u64 0, .int .u64 0, .int .i64 0] 33 (0, 0)) (bf0 BK181.out) hb); have n3_ := Ax (below_step (bw3 HB.out GE179.out GE180.out GE181.out) hb); clear BK179; clear BK180; clear BK181; clear HB; have BK179 := n0_; have BK180 := n1_; have BK181 := n2_; have HB := n3_; clear n0_ n1_ n2_ n3_; (try clear hb); (try clear hb2); (try clear hk); (try clear hi); have hnb57 := NB180_181.out; have hnc57 := NB181_180.out; have hcz58_0 : w56.cell? ⟨gb180, 0, none⟩ = some (.bool false) := (blk_cell BK180.out 0).trans rfl; have hcz58_1 : w56.cell? ⟨gb180, 1, none⟩ = some (.int .u64 0) := (blk_cell BK180.out 1).trans rfl; have hcz58_2 : w56.cell? ⟨gb180, 2, none⟩ = some (.int .u64 0) := (blk_cell BK180.out 2).trans rfl; have hcz58_3 : w56.cell? ⟨gb180, 3, none⟩ = some (.int .i64 0) := (blk_cell BK180.out 3).trans rfl; have hfz58_0 := blk_frozen BK180.out 0; have hfz58_1 := blk_frozen BK180.out 1; have hfz58_2 := blk_frozen BK180.out 2; have hfz58_3 := blk_frozen BK180.out 3; have hcz59_0 : w56.cell? ⟨gb181, 0, none⟩ = some (.bool false) := (blk_cell BK181.out 0).trans rfl; have hcz59_1 : w56.cell? ⟨gb181, 1, none⟩ = some (.int .u64 0) := (blk_cell BK181.out 1).trans rfl; have hcz59_2 : w56.cell? ⟨gb181, 2, none⟩ = some (.int .u64 0) := (blk_cell BK181.out 2).trans rfl; have hcz59_3 : w56.cell? ⟨gb181, 3, none⟩ = some (.int .i64 0) := (blk_cell BK181.out 3).trans rfl; have hfz59_0 := blk_frozen BK181.out 0; have hfz59_1 := blk_frozen BK181.out 1; have hfz59_2 := blk_frozen BK181.out 2; have hfz59_3 := blk_frozen BK181.out 3))
  refine bodyPost_ret (results_list (rs := [.cell 2 33, .cell 3 33, .tmp 4]) rfl (by simp) (.cell gb180 33 #[.bool false, .int .u64 0, .int .u64 0, .int .i64 0] (0, 0) _ rfl (by (with_reducible repeat (first | refine blk_drewN ?_ _ | refine blk_drew ?_ | refine blk_alloc ?_ _)); refine blk_far ?_ NB180_181.out _; (with_reducible repeat (first | refine blk_drewN ?_ _ | refine blk_drew ?_ | refine blk_alloc ?_ _)); refine blk_far ?_ NB180_181.out _; (with_reducible repeat (first | refine blk_drewN ?_ _ | refine blk_drew ?_ | refine blk_alloc ?_ _)); refine blk_far ?_ NB180_181.out _; (with_reducible repeat (first | refine blk_drewN ?_ _ | refine blk_drew ?_ | refine blk_alloc ?_ _)); refine blk_far ?_ NB180_181.out _; (with_reducible repeat (first | refine blk_drewN ?_ _ | refine blk_drew ?_ | refine blk_alloc ?_ _)); refine blk_put (cs := #[.bool false, .int .u64 0, .int .u64 0, .int .i64 0]) ?_ 3 _ rfl; (with_reducible repeat (first | refine blk_drewN ?_ _ | refine blk_drew ?_ | refine blk_alloc ?_ _)); refine blk_put (cs := #[.bool false, .int .u64 0, .int .u64 0, .int .i64 0]) ?_ 2 _ rfl; (with_reducible repeat (first | refine blk_drewN ?_ _ | refine blk_drew ?_ | refine blk_alloc ?_ _)); refine blk_put (cs := #[.bool false, .int .u64 0, .int .u64 0, .int .i64 0]) ?_ 1 _ rfl; (with_reducible repeat (first | refine blk_drewN ?_ _ | refine blk_drew ?_ | refine blk_alloc ?_ _)); refine blk_put (cs := #[.bool false, .int .u64 0, .int .u64 0, .int .i64 0]) ?_ 0 _ rfl; (with_reducible repeat (first | refine blk_drewN ?_ _ | refine blk_drew ?_ | refine blk_alloc ?_ _)); exact BK180.out) Try.underlying33 rfl (by kernel_rfl) (.cell gb181 33 #[.bool false, .int .u64 0, .int .u64 0, .int .i64 0] (0, 0) _ rfl (by (with_reducible repeat (first | refine blk_drewN ?_ _ | refine blk_drew ?_ | refine blk_alloc ?_ _)); refine blk_put (cs := #[.bool false, .int .u64 0, .int .u64 0, .int .i64 0]) ?_ 3 _ rfl; (with_reducible repeat (first | refine blk_drewN ?_ _ | refine blk_drew ?_ | refine blk_alloc ?_ _)); refine blk_put (cs := #[.bool false, .int .u64 0, .int .u64 0, .int .i64 0]) ?_ 2 _ rfl; (with_reducible repeat (first | refine blk_drewN ?_ _ | refine blk_drew ?_ | refine blk_alloc ?_ _)); refine blk_put (cs := #[.bool false, .int .u64 0, .int .u64 0, .int .i64 0]) ?_ 1 _ rfl; (with_reducible repeat (first | refine blk_drewN ?_ _ | refine blk_drew ?_ | refine blk_alloc ?_ _)); refine blk_put (cs := #[.bool false, .int .u64 0, .int .u64 0, .int .i64 0]) ?_ 0 _ rfl; (with_reducible repeat (first | refine blk_drewN ?_ _ | refine blk_drew ?_ | refine blk_alloc ?_ _)); refine blk_far ?_ NB181_180.out _; (with_reducible repeat (first | refine blk_drewN ?_ _ | refine blk_drew ?_ | refine blk_alloc ?_ _)); refine blk_far ?_ NB181_180.out _; (with_reducible repeat (first | refine blk_drewN ?_ _ | refine blk_drew ?_ | refine blk_alloc ?_ _)); refine blk_far ?_ NB181_180.out _; (with_reducible repeat (first | refine blk_drewN ?_ _ | refine blk_drew ?_ | refine blk_alloc ?_ _)); refine blk_far ?_ NB181_180.out _; (with_reducible repeat (first | refine blk_drewN ?_ _ | refine blk_drew ?_ | refine blk_alloc ?_ _)); exact BK181.out) Try.underlying33 rfl (by kernel_rfl) (.tmp .nil)))) rfl ?_
  exact ⟨eS, bw3 HB.out GE179.out GE180.out GE181.out⟩

end Go.Proofs.Ytafclgjnomocdaa.Q
