-- Printed by this session's program wip/tools/mp.sh out of the translation.
import Derived.Test.YtafclgjnomocdaaQx0
import Derived.Test.YtafclgjnomocdaaQx4
import Derived.Test.YtafclgjnomocdaaQx5
import Derived.Test.YtafclgjnomocdaaQx16
namespace Go.Proofs.Ytafclgjnomocdaa.Q
open Go.RowKit Go.Proofs.YtafclgjnomocdaaW.PrintWords Go.Proofs.YtafclgjnomocdaaW.PrintLast Go.Proofs.YtafclgjnomocdaaW.PrintMore
attribute [local go_sem] max2_int min2_int max_two min_two max_three min_three max_four min_four   -- for this text's walks alone
set_option linter.unusedVariables false
set_option linter.unusedSimpArgs false

/-! ### spoorref09_Check: function 21 -/
set_option maxHeartbeats 8000000 in
set_option maxRecDepth 100000 in
theorem spoorref09_Check.calls (k : Nat) (a0_0 : Bool) (a0_1 : Int) (a0_2 : Int) (a0_3 : Int) (r : Int) (w : World) (h : spoorref09_Check.f k a0_0 a0_1 a0_2 a0_3 = some r) :
  Calls Try.prog 21 #[.agg #[.bool a0_0, .int .u64 a0_1, .int .u64 a0_2, .int .i64 a0_3]] w fun e w' => e = .returned (.int .i64 r) ∧ Below w.heap.size w w' := by
 have hu33 := Try.underlying33
 have hu24 := Try.underlying24
 have HB := Ax (Below.refl w.heap.size w)
 have H : (if a0_3 < 0 then (spoorref09_Check.j0 k true a0_0 a0_1 a0_2 a0_3) else ((spoorref09_Wide.f a0_0).bind fun t267 => (if a0_3 > t267 then (spoorref09_Check.j0 k true a0_0 a0_1 a0_2 a0_3) else ((spoorref09_Right.f a0_0 a0_1 a0_2).bind fun t268 => (spoorref09_Check.j0 k (!t268) a0_0 a0_1 a0_2 a0_3))))) = some r := h
 clear h
 have HC2 := Ax H
 clear H
 go_enter Try.func21, Try.ntmps21
 go_upto_region 1 with (first | ((with_reducible refine gate_dst (N := 1) rfl ?_); refine box_event ?hg (N := 1) ?hd (cs := #[.bool a0_0, .int .u64 a0_1, .int .u64 a0_2, .int .i64 a0_3]) (t := 33) ?hr ?_; (case hd => rfl); (case hg => rfl); (case hr => first | (go_simp; done) | (go_simp; rfl)); intro gb266 hg w3 hbox hb; have n0_ := Ax (below_step (bw0 HB.out) hb); have n1_ := Ax (hbox); have n2_ := Ax ((by rw [hg]; exact (below_size (bw0 HB.out)) : w.heap.size ≤ gb266)); have n3_ := Ax ((by rw [hg]; exact (below_size (bw0 HB.out)) : w.heap.size ≤ gb266)); clear HB; have HB := n0_; have BK266 := n1_; have GW266 := n2_; have GE266 := n3_; clear n0_ n1_ n2_ n3_; clear hb hbox hg))
 (try simp only [Act.put, List.setIfInBounds_toArray, List.set_cons_zero, List.set_cons_succ])
 go_cut [23] (fun v23 wc => ∃ (kq : Nat) (x23_1 : Bool), v23 = .bool x23_1 ∧ Aside0 (spoorref09_Check.j0 kq x23_1 a0_0 a0_1 a0_2 a0_3 = some r) ∧ Aside0 (kq ≤ k) ∧ Aside0 (wc.heap[gb266]? = some (.cells #[.bool a0_0, .int .u64 a0_1, .int .u64 a0_2, .int .i64 a0_3] 33 (0, 0))) ∧ Aside0 (Below w.heap.size w wc))
 case first =>
  have H := HC2.out
  clear HC2
  by_cases c4 : a0_3 < 0
  ·rw [if_pos c4] at H
   have c4b0 : decide (a0_3 < 0) = true := decide_eq_true c4
   clear c4
   (first | rw [c4b0] | (simp only [i64_w, i32_w]; rw [c4b0]) | skip)
   have H' := Ax H
   clear H
   try go_wp2
   have n0_ := Ax (blk_drew BK266.out)
   have n1_ := Ax (below_drew1 HB.out)
   clear BK266
   clear HB
   have BK266 := n0_
   have HB := n1_
   clear n0_ n1_
   refine start_ (n := 19) (S := fun w' => w'.cell? ⟨gb266, 0, none⟩ = some (.bool a0_0) ∧ w'.cell? ⟨gb266, 1, none⟩ = some (.int .u64 a0_1) ∧ w'.cell? ⟨gb266, 2, none⟩ = some (.int .u64 a0_2) ∧ w'.cell? ⟨gb266, 3, none⟩ = some (.int .i64 a0_3)) (ds := []) #[fa,fa,fa,fa,fa,fa,fa,fa,fa,fa,fa,fa,fa,fa,fa,fa,fa,fa,fa] (by kernel_rfl) rfl rfl ⟨(blk_cell BK266.out 0).trans rfl, (blk_cell BK266.out 1).trans rfl, (blk_cell BK266.out 2).trans rfl, (blk_cell BK266.out 3).trans rfl⟩ (fun hHeld => ?_); refine with_tabW spoorref09_Check.tab1 spoorref09_Check.bits1 (fun HT_ HW_ => ?_)
   generalize w3.drew = w5 at BK266 HB hHeld ⊢
   refine pure_ (i := 0) (N := some 5) (v := ?_) (a' := ?_) #[tr,fa,fa,fa,fa,fa,fa,fa,fa,fa,fa,fa,fa,fa,fa,fa,fa,fa,fa] rfl rfl (any_of HT_.out (by kernel_rfl)) (fun _ _ _ h => h) (Or.inl ⟨by rfl, ?_⟩) ?_ ?_
   rotate_left
   ·intro w'
    go_simp
    with_reducible rfl
   rotate_left
   ·simp only [sP]
    rfl
   refine take_ (i := 1) (N := some 6) (v := ?_) (a' := ?_) #[tr,tr,fa,fa,fa,fa,fa,fa,fa,fa,fa,fa,fa,fa,fa,fa,fa,fa,fa] rfl rfl (take_ofW HT_.out HW_.out (by kernel_rfl)) (fun _ _ _ h => h) (Or.inl ⟨by rfl, ?_⟩) hHeld ?_ ?_
   rotate_left
   ·rintro w' ⟨s0, s1, s2, s3⟩
    go_simp
    with_reducible rfl
   rotate_left
   ·simp only [sP]
    rfl
   refine pure_ (i := 2) (N := some 7) (v := ?_) (a' := ?_) #[tr,tr,tr,fa,fa,fa,fa,fa,fa,fa,fa,fa,fa,fa,fa,fa,fa,fa,fa] rfl rfl (any_of HT_.out (by kernel_rfl)) (fun _ _ _ h => h) (Or.inl ⟨by rfl, ?_⟩) ?_ ?_
   rotate_left
   ·intro w'
    go_simp
    with_reducible rfl
   rotate_left
   ·simp only [sP]
    rfl
   refine pure_ (i := 3) (N := some 8) (v := ?_) (a' := ?_) #[tr,tr,tr,tr,fa,fa,fa,fa,fa,fa,fa,fa,fa,fa,fa,fa,fa,fa,fa] rfl rfl (any_of HT_.out (by kernel_rfl)) (fun _ _ _ h => h) (Or.inl ⟨by rfl, ?_⟩) ?_ ?_
   rotate_left
   ·intro w'
    go_simp
    with_reducible rfl
   rotate_left
   ·simp only [sP]
    rfl
   refine pure_ (i := 4) (N := some 9) (v := undef) (a' := ?_) #[tr,tr,tr,tr,tr,fa,fa,fa,fa,fa,fa,fa,fa,fa,fa,fa,fa,fa,fa] rfl rfl (any_of HT_.out (by kernel_rfl)) (fun _ _ _ h => h) (Or.inr ⟨by rfl, rfl⟩) ?_ ?_
   rotate_left
   ·simp only [sP]
    rfl
   refine pure_ (i := 5) (N := some 10) (v := undef) (a' := ?_) #[tr,tr,tr,tr,tr,tr,fa,fa,fa,fa,fa,fa,fa,fa,fa,fa,fa,fa,fa] rfl rfl (any_of HT_.out (by kernel_rfl)) (fun _ _ _ h => h) (Or.inr ⟨by rfl, rfl⟩) ?_ ?_
   rotate_left
   ·simp only [sP]
    rfl
   refine pure_ (i := 6) (N := some 11) (v := undef) (a' := ?_) #[tr,tr,tr,tr,tr,tr,tr,fa,fa,fa,fa,fa,fa,fa,fa,fa,fa,fa,fa] rfl rfl (any_of HT_.out (by kernel_rfl)) (fun _ _ _ h => h) (Or.inr ⟨by rfl, rfl⟩) ?_ ?_
   rotate_left
   ·simp only [sP]
    rfl
   refine pure_ (i := 7) (N := some 12) (v := undef) (a' := ?_) #[tr,tr,tr,tr,tr,tr,tr,tr,fa,fa,fa,fa,fa,fa,fa,fa,fa,fa,fa] rfl rfl (any_of HT_.out (by kernel_rfl)) (fun _ _ _ h => h) (Or.inr ⟨by rfl, rfl⟩) ?_ ?_
   rotate_left
   ·simp only [sP]
    rfl
   refine pure_ (i := 8) (N := some 13) (v := undef) (a' := ?_) #[tr,tr,tr,tr,tr,tr,tr,tr,tr,fa,fa,fa,fa,fa,fa,fa,fa,fa,fa] rfl rfl (any_of HT_.out (by kernel_rfl)) (fun _ _ _ h => h) (Or.inr ⟨by rfl, rfl⟩) ?_ ?_
   rotate_left
   ·simp only [sP]
    rfl
   refine pure_ (i := 9) (N := some 14) (v := undef) (a' := ?_) #[tr,tr,tr,tr,tr,tr,tr,tr,tr,tr,fa,fa,fa,fa,fa,fa,fa,fa,fa] rfl rfl (any_of HT_.out (by kernel_rfl)) (fun _ _ _ h => h) (Or.inr ⟨by rfl, rfl⟩) ?_ ?_
   rotate_left
   ·simp only [sP]
    rfl
   refine pure_ (i := 10) (N := some 15) (v := ?_) (a' := ?_) #[tr,tr,tr,tr,tr,tr,tr,tr,tr,tr,tr,fa,fa,fa,fa,fa,fa,fa,fa] rfl rfl (any_of HT_.out (by kernel_rfl)) (fun _ _ _ h => h) (Or.inl ⟨by rfl, ?_⟩) ?_ ?_
   rotate_left
   ·intro w'
    go_simp
    with_reducible rfl
   rotate_left
   ·simp only [sP]
    rfl
   refine pure_ (i := 11) (N := some 16) (v := ?_) (a' := ?_) #[tr,tr,tr,tr,tr,tr,tr,tr,tr,tr,tr,tr,fa,fa,fa,fa,fa,fa,fa] rfl rfl (any_of HT_.out (by kernel_rfl)) (fun _ _ _ h => h) (Or.inl ⟨by rfl, ?_⟩) ?_ ?_
   rotate_left
   ·intro w'
    go_simp
    with_reducible rfl
   rotate_left
   ·simp only [sP]
    rfl
   refine pure_ (i := 12) (N := some 17) (v := undef) (a' := ?_) #[tr,tr,tr,tr,tr,tr,tr,tr,tr,tr,tr,tr,tr,fa,fa,fa,fa,fa,fa] rfl rfl (any_of HT_.out (by kernel_rfl)) (fun _ _ _ h => h) (Or.inr ⟨by rfl, rfl⟩) ?_ ?_
   rotate_left
   ·simp only [sP]
    rfl
   refine pure_ (i := 13) (N := some 18) (v := undef) (a' := ?_) #[tr,tr,tr,tr,tr,tr,tr,tr,tr,tr,tr,tr,tr,tr,fa,fa,fa,fa,fa] rfl rfl (any_of HT_.out (by kernel_rfl)) (fun _ _ _ h => h) (Or.inr ⟨by rfl, rfl⟩) ?_ ?_
   rotate_left
   ·simp only [sP]
    rfl
   refine pure_ (i := 14) (N := some 19) (v := undef) (a' := ?_) #[tr,tr,tr,tr,tr,tr,tr,tr,tr,tr,tr,tr,tr,tr,tr,fa,fa,fa,fa] rfl rfl (any_of HT_.out (by kernel_rfl)) (fun _ _ _ h => h) (Or.inr ⟨by rfl, rfl⟩) ?_ ?_
   rotate_left
   ·simp only [sP]
    rfl
   refine pure_ (i := 15) (N := some 20) (v := undef) (a' := ?_) #[tr,tr,tr,tr,tr,tr,tr,tr,tr,tr,tr,tr,tr,tr,tr,tr,fa,fa,fa] rfl rfl (any_of HT_.out (by kernel_rfl)) (fun _ _ _ h => h) (Or.inr ⟨by rfl, rfl⟩) ?_ ?_
   rotate_left
   ·simp only [sP]
    rfl
   refine pure_ (i := 16) (N := some 21) (v := undef) (a' := ?_) #[tr,tr,tr,tr,tr,tr,tr,tr,tr,tr,tr,tr,tr,tr,tr,tr,tr,fa,fa] rfl rfl (any_of HT_.out (by kernel_rfl)) (fun _ _ _ h => h) (Or.inr ⟨by rfl, rfl⟩) ?_ ?_
   rotate_left
   ·simp only [sP]
    rfl
   refine pure_ (i := 17) (N := some 22) (v := undef) (a' := ?_) #[tr,tr,tr,tr,tr,tr,tr,tr,tr,tr,tr,tr,tr,tr,tr,tr,tr,tr,fa] rfl rfl (any_of HT_.out (by kernel_rfl)) (fun _ _ _ h => h) (Or.inr ⟨by rfl, rfl⟩) ?_ ?_
   rotate_left
   ·simp only [sP]
    rfl
   refine pure_ (i := 18) (N := some 23) (v := ?_) (a' := ?_) #[tr,tr,tr,tr,tr,tr,tr,tr,tr,tr,tr,tr,tr,tr,tr,tr,tr,tr,tr] rfl rfl (any_of HT_.out (by kernel_rfl)) (fun _ _ _ h => h) (Or.inl ⟨by rfl, ?_⟩) ?_ ?_
   rotate_left
   ·intro w'
    go_simp
    with_reducible rfl
   rotate_left
   ·simp only [sP]
    rfl
   refine done_ (done_of HT_.out (by kernel_rfl)) ?_
   try go_wp2
   go_meet
   case rel => exact ⟨_, (true), rS, H', ⟨by first | omega | exact Nat.le_refl _⟩, ⟨bf0 BK266.out⟩, ⟨bw1 HB.out GE266.out⟩⟩
  ·rw [if_neg c4] at H
   have c4b0 : decide (a0_3 < 0) = false := decide_eq_false c4
   clear c4
   (first | rw [c4b0] | (simp only [i64_w, i32_w]; rw [c4b0]) | skip)
   replace H := Option.bind_eq_some_iff.mp H
   obtain ⟨t267, A60, H⟩ := H
   replace H : (if a0_3 > t267 then (spoorref09_Check.j0 k true a0_0 a0_1 a0_2 a0_3) else ((spoorref09_Right.f a0_0 a0_1 a0_2).bind fun t268 => (spoorref09_Check.j0 k (!t268) a0_0 a0_1 a0_2 a0_3))) = some r := H
   have A6 := Ax A60
   clear A60
   by_cases c7 : a0_3 > t267
   ·rw [if_pos c7] at H
    have c7b0 : decide (t267 < a0_3) = true := decide_eq_true c7
    clear c7
    have H' := Ax H
    clear H
    try go_wp2
    have n0_ := Ax (blk_drew BK266.out)
    have n1_ := Ax (below_drew1 HB.out)
    clear BK266
    clear HB
    have BK266 := n0_
    have HB := n1_
    clear n0_ n1_
    refine start_ (n := 19) (S := fun w' => w'.cell? ⟨gb266, 0, none⟩ = some (.bool a0_0) ∧ w'.cell? ⟨gb266, 1, none⟩ = some (.int .u64 a0_1) ∧ w'.cell? ⟨gb266, 2, none⟩ = some (.int .u64 a0_2) ∧ w'.cell? ⟨gb266, 3, none⟩ = some (.int .i64 a0_3)) (ds := []) #[fa,fa,fa,fa,fa,fa,fa,fa,fa,fa,fa,fa,fa,fa,fa,fa,fa,fa,fa] (by kernel_rfl) rfl rfl ⟨(blk_cell BK266.out 0).trans rfl, (blk_cell BK266.out 1).trans rfl, (blk_cell BK266.out 2).trans rfl, (blk_cell BK266.out 3).trans rfl⟩ (fun hHeld => ?_); refine with_tabW spoorref09_Check.tab1 spoorref09_Check.bits1 (fun HT_ HW_ => ?_)
    generalize w3.drew = w8 at BK266 HB hHeld ⊢
    refine pure_ (i := 0) (N := some 5) (v := ?_) (a' := ?_) #[tr,fa,fa,fa,fa,fa,fa,fa,fa,fa,fa,fa,fa,fa,fa,fa,fa,fa,fa] rfl rfl (any_of HT_.out (by kernel_rfl)) (fun _ _ _ h => h) (Or.inl ⟨by rfl, ?_⟩) ?_ ?_
    rotate_left
    ·intro w'
     go_simp
     with_reducible rfl
    rotate_left
    ·simp only [sP]
     rfl
    refine take_ (i := 1) (N := some 6) (v := ?_) (a' := ?_) #[tr,tr,fa,fa,fa,fa,fa,fa,fa,fa,fa,fa,fa,fa,fa,fa,fa,fa,fa] rfl rfl (take_ofW HT_.out HW_.out (by kernel_rfl)) (fun _ _ _ h => h) (Or.inl ⟨by rfl, ?_⟩) hHeld ?_ ?_
    rotate_left
    ·rintro w' ⟨s0, s1, s2, s3⟩
     go_simp
     with_reducible rfl
    rotate_left
    ·simp only [sP]
     rfl
    refine pure_ (i := 2) (N := some 7) (v := ?_) (a' := ?_) #[tr,tr,tr,fa,fa,fa,fa,fa,fa,fa,fa,fa,fa,fa,fa,fa,fa,fa,fa] rfl rfl (any_of HT_.out (by kernel_rfl)) (fun _ _ _ h => h) (Or.inl ⟨by rfl, ?_⟩) ?_ ?_
    rotate_left
    ·intro w'
     go_simp
     with_reducible rfl
    rotate_left
    ·simp only [sP]
     rfl
    refine pure_ (i := 3) (N := some 8) (v := ?_) (a' := ?_) #[tr,tr,tr,tr,fa,fa,fa,fa,fa,fa,fa,fa,fa,fa,fa,fa,fa,fa,fa] rfl rfl (any_of HT_.out (by kernel_rfl)) (fun _ _ _ h => h) (Or.inl ⟨by rfl, ?_⟩) ?_ ?_
    rotate_left
    ·intro w'
     go_simp
     with_reducible rfl
    rotate_left
    ·simp only [sP]
     rfl
    refine pure_ (i := 4) (N := some 9) (v := ?_) (a' := ?_) #[tr,tr,tr,tr,tr,fa,fa,fa,fa,fa,fa,fa,fa,fa,fa,fa,fa,fa,fa] rfl rfl (any_of HT_.out (by kernel_rfl)) (fun _ _ _ h => h) (Or.inl ⟨by rfl, ?_⟩) ?_ ?_
    rotate_left
    ·intro w'
     go_simp
     with_reducible rfl
    rotate_left
    ·simp only [sP]
     rfl
    refine pure_ (i := 6) (N := some 11) (v := ?_) (a' := ?_) #[tr,tr,tr,tr,tr,fa,tr,fa,fa,fa,fa,fa,fa,fa,fa,fa,fa,fa,fa] rfl rfl (any_of HT_.out (by kernel_rfl)) (fun _ _ _ h => h) (Or.inl ⟨by rfl, ?_⟩) ?_ ?_
    rotate_left
    ·intro w'
     go_simp
     with_reducible rfl
    rotate_left
    ·simp only [sP]
     rfl
    refine take_ (i := 5) (N := some 10) (v := ?_) (a' := ?_) #[tr,tr,tr,tr,tr,tr,tr,fa,fa,fa,fa,fa,fa,fa,fa,fa,fa,fa,fa] rfl rfl (take_ofW HT_.out HW_.out (by kernel_rfl)) (fun _ _ _ h => h) (Or.inl ⟨by rfl, ?_⟩) hHeld ?_ ?_
    rotate_left
    ·rintro w' ⟨s0, s1, s2, s3⟩
     go_simp
     with_reducible rfl
    rotate_left
    ·simp only [sP]
     rfl
    refine take_ (i := 7) (N := some 12) (v := ?_) (a' := ?_) #[tr,tr,tr,tr,tr,tr,tr,tr,fa,fa,fa,fa,fa,fa,fa,fa,fa,fa,fa] rfl rfl (take_ofW HT_.out HW_.out (by kernel_rfl)) (fun _ _ _ h => h) (Or.inl ⟨by rfl, ?_⟩) hHeld ?_ ?_
    rotate_left
    ·rintro w' ⟨s0, s1, s2, s3⟩
     go_simp
     with_reducible rfl
    rotate_left
    ·simp only [sP]
     rfl
    refine one_ (i := 8) (N := some 13) #[tr,tr,tr,tr,tr,tr,tr,tr,tr,fa,fa,fa,fa,fa,fa,fa,fa,fa,fa] rfl rfl (one_of HT_.out (by kernel_rfl)) (by decide) (fun K hK => ?_)
    refine goes_ Try.func38 (by kernel_rfl) rfl #[.bool a0_0] (by rfl) rfl rfl gS ?_
    with_reducible refine (spoorref09_Wide.calls a0_0 t267 _ A6.out).mono ?_
    rintro e w' ⟨rfl, ⟨nd, rfl⟩⟩
    refine ⟨_, rfl, ?_⟩
    refine hK.out _ _ ⟨(blk_cell BK266.out 0).trans rfl, (blk_cell BK266.out 1).trans rfl, (blk_cell BK266.out 2).trans rfl, (blk_cell BK266.out 3).trans rfl⟩ (fun hHeld => ?_)
    clear hK K
    refine norm_ (a' := ?_) ?_ ?_
    rotate_left
    ·show Act.put _ (some 13) _ = _
     simp only [sP]
     rfl
    refine pure_ (i := 9) (N := some 14) (v := ?_) (a' := ?_) #[tr,tr,tr,tr,tr,tr,tr,tr,tr,tr,fa,fa,fa,fa,fa,fa,fa,fa,fa] rfl rfl (any_of HT_.out (by kernel_rfl)) (fun _ _ _ h => h) (Or.inl ⟨by rfl, ?_⟩) ?_ ?_
    rotate_left
    ·intro w'
     go_simp
     with_reducible rfl
    rotate_left
    ·simp only [sP]
     rfl
    refine pure_ (i := 10) (N := some 15) (v := ?_) (a' := ?_) #[tr,tr,tr,tr,tr,tr,tr,tr,tr,tr,tr,fa,fa,fa,fa,fa,fa,fa,fa] rfl rfl (any_of HT_.out (by kernel_rfl)) (fun _ _ _ h => h) (Or.inl ⟨by rfl, ?_⟩) ?_ ?_
    rotate_left
    ·intro w'
     go_simp
     with_reducible rfl
    rotate_left
    ·simp only [sP]
     rfl
    refine pure_ (i := 11) (N := some 16) (v := ?_) (a' := ?_) #[tr,tr,tr,tr,tr,tr,tr,tr,tr,tr,tr,tr,fa,fa,fa,fa,fa,fa,fa] rfl rfl (any_of HT_.out (by kernel_rfl)) (fun _ _ _ h => h) (Or.inl ⟨by rfl, ?_⟩) ?_ ?_
    rotate_left
    ·intro w'
     go_simp
     with_reducible rfl
    rotate_left
    ·simp only [sP]
     rfl
    refine pure_ (i := 12) (N := some 17) (v := undef) (a' := ?_) #[tr,tr,tr,tr,tr,tr,tr,tr,tr,tr,tr,tr,tr,fa,fa,fa,fa,fa,fa] rfl rfl (any_of HT_.out (by kernel_rfl)) (fun _ _ _ h => h) (Or.inr ⟨by rfl, rfl⟩) ?_ ?_
    rotate_left
    ·simp only [sP]
     rfl
    refine pure_ (i := 13) (N := some 18) (v := undef) (a' := ?_) #[tr,tr,tr,tr,tr,tr,tr,tr,tr,tr,tr,tr,tr,tr,fa,fa,fa,fa,fa] rfl rfl (any_of HT_.out (by kernel_rfl)) (fun _ _ _ h => h) (Or.inr ⟨by rfl, rfl⟩) ?_ ?_
    rotate_left
    ·simp only [sP]
     rfl
    refine pure_ (i := 14) (N := some 19) (v := undef) (a' := ?_) #[tr,tr,tr,tr,tr,tr,tr,tr,tr,tr,tr,tr,tr,tr,tr,fa,fa,fa,fa] rfl rfl (any_of HT_.out (by kernel_rfl)) (fun _ _ _ h => h) (Or.inr ⟨by rfl, rfl⟩) ?_ ?_
    rotate_left
    ·simp only [sP]
     rfl
    refine pure_ (i := 15) (N := some 20) (v := undef) (a' := ?_) #[tr,tr,tr,tr,tr,tr,tr,tr,tr,tr,tr,tr,tr,tr,tr,tr,fa,fa,fa] rfl rfl (any_of HT_.out (by kernel_rfl)) (fun _ _ _ h => h) (Or.inr ⟨by rfl, rfl⟩) ?_ ?_
    rotate_left
    ·simp only [sP]
     rfl
    refine pure_ (i := 16) (N := some 21) (v := undef) (a' := ?_) #[tr,tr,tr,tr,tr,tr,tr,tr,tr,tr,tr,tr,tr,tr,tr,tr,tr,fa,fa] rfl rfl (any_of HT_.out (by kernel_rfl)) (fun _ _ _ h => h) (Or.inr ⟨by rfl, rfl⟩) ?_ ?_
    rotate_left
    ·simp only [sP]
     rfl
    refine pure_ (i := 17) (N := some 22) (v := undef) (a' := ?_) #[tr,tr,tr,tr,tr,tr,tr,tr,tr,tr,tr,tr,tr,tr,tr,tr,tr,tr,fa] rfl rfl (any_of HT_.out (by kernel_rfl)) (fun _ _ _ h => h) (Or.inr ⟨by rfl, rfl⟩) ?_ ?_
    rotate_left
    ·simp only [sP]
     rfl
    refine pure_ (i := 18) (N := some 23) (v := ?_) (a' := ?_) #[tr,tr,tr,tr,tr,tr,tr,tr,tr,tr,tr,tr,tr,tr,tr,tr,tr,tr,tr] rfl rfl (any_of HT_.out (by kernel_rfl)) (fun _ _ _ h => h) (Or.inl ⟨by rfl, ?_⟩) ?_ ?_
    rotate_left
    ·intro w'
     go_simp
     with_reducible rfl
    rotate_left
    ·simp only [sP]
     rfl
    refine done_ (done_of HT_.out (by kernel_rfl)) ?_
    try go_wp2
    go_meet
    case rel => exact ⟨_, (true), rS, H', ⟨by first | omega | exact Nat.le_refl _⟩, ⟨bf0 BK266.out⟩, ⟨bw1 HB.out GE266.out⟩⟩
   ·rw [if_neg c7] at H
    have c7b0 : decide (t267 < a0_3) = false := decide_eq_false c7
    clear c7
    replace H := Option.bind_eq_some_iff.mp H
    obtain ⟨t268, A90, H⟩ := H
    replace H : (spoorref09_Check.j0 k (!t268) a0_0 a0_1 a0_2 a0_3) = some r := H
    have A9 := Ax A90
    clear A90
    have H' := Ax H
    clear H
    try go_wp2
    have n0_ := Ax (blk_drew BK266.out)
    have n1_ := Ax (below_drew1 HB.out)
    clear BK266
    clear HB
    have BK266 := n0_
    have HB := n1_
    clear n0_ n1_
    refine start_ (n := 19) (S := fun w' => w'.cell? ⟨gb266, 0, none⟩ = some (.bool a0_0) ∧ w'.cell? ⟨gb266, 1, none⟩ = some (.int .u64 a0_1) ∧ w'.cell? ⟨gb266, 2, none⟩ = some (.int .u64 a0_2) ∧ w'.cell? ⟨gb266, 3, none⟩ = some (.int .i64 a0_3)) (ds := []) #[fa,fa,fa,fa,fa,fa,fa,fa,fa,fa,fa,fa,fa,fa,fa,fa,fa,fa,fa] (by kernel_rfl) rfl rfl ⟨(blk_cell BK266.out 0).trans rfl, (blk_cell BK266.out 1).trans rfl, (blk_cell BK266.out 2).trans rfl, (blk_cell BK266.out 3).trans rfl⟩ (fun hHeld => ?_); refine with_tabW spoorref09_Check.tab1 spoorref09_Check.bits1 (fun HT_ HW_ => ?_)
    generalize w3.drew = w10 at BK266 HB hHeld ⊢
    refine pure_ (i := 0) (N := some 5) (v := ?_) (a' := ?_) #[tr,fa,fa,fa,fa,fa,fa,fa,fa,fa,fa,fa,fa,fa,fa,fa,fa,fa,fa] rfl rfl (any_of HT_.out (by kernel_rfl)) (fun _ _ _ h => h) (Or.inl ⟨by rfl, ?_⟩) ?_ ?_
    rotate_left
    ·intro w'
     go_simp
     with_reducible rfl
    rotate_left
    ·simp only [sP]
     rfl
    refine take_ (i := 1) (N := some 6) (v := ?_) (a' := ?_) #[tr,tr,fa,fa,fa,fa,fa,fa,fa,fa,fa,fa,fa,fa,fa,fa,fa,fa,fa] rfl rfl (take_ofW HT_.out HW_.out (by kernel_rfl)) (fun _ _ _ h => h) (Or.inl ⟨by rfl, ?_⟩) hHeld ?_ ?_
    rotate_left
    ·rintro w' ⟨s0, s1, s2, s3⟩
     go_simp
     with_reducible rfl
    rotate_left
    ·simp only [sP]
     rfl
    refine pure_ (i := 2) (N := some 7) (v := ?_) (a' := ?_) #[tr,tr,tr,fa,fa,fa,fa,fa,fa,fa,fa,fa,fa,fa,fa,fa,fa,fa,fa] rfl rfl (any_of HT_.out (by kernel_rfl)) (fun _ _ _ h => h) (Or.inl ⟨by rfl, ?_⟩) ?_ ?_
    rotate_left
    ·intro w'
     go_simp
     with_reducible rfl
    rotate_left
    ·simp only [sP]
     rfl
    refine pure_ (i := 3) (N := some 8) (v := ?_) (a' := ?_) #[tr,tr,tr,tr,fa,fa,fa,fa,fa,fa,fa,fa,fa,fa,fa,fa,fa,fa,fa] rfl rfl (any_of HT_.out (by kernel_rfl)) (fun _ _ _ h => h) (Or.inl ⟨by rfl, ?_⟩) ?_ ?_
    rotate_left
    ·intro w'
     go_simp
     with_reducible rfl
    rotate_left
    ·simp only [sP]
     rfl
    refine pure_ (i := 4) (N := some 9) (v := ?_) (a' := ?_) #[tr,tr,tr,tr,tr,fa,fa,fa,fa,fa,fa,fa,fa,fa,fa,fa,fa,fa,fa] rfl rfl (any_of HT_.out (by kernel_rfl)) (fun _ _ _ h => h) (Or.inl ⟨by rfl, ?_⟩) ?_ ?_
    rotate_left
    ·intro w'
     go_simp
     with_reducible rfl
    rotate_left
    ·simp only [sP]
     rfl
    refine pure_ (i := 6) (N := some 11) (v := ?_) (a' := ?_) #[tr,tr,tr,tr,tr,fa,tr,fa,fa,fa,fa,fa,fa,fa,fa,fa,fa,fa,fa] rfl rfl (any_of HT_.out (by kernel_rfl)) (fun _ _ _ h => h) (Or.inl ⟨by rfl, ?_⟩) ?_ ?_
    rotate_left
    ·intro w'
     go_simp
     with_reducible rfl
    rotate_left
    ·simp only [sP]
     rfl
    refine take_ (i := 5) (N := some 10) (v := ?_) (a' := ?_) #[tr,tr,tr,tr,tr,tr,tr,fa,fa,fa,fa,fa,fa,fa,fa,fa,fa,fa,fa] rfl rfl (take_ofW HT_.out HW_.out (by kernel_rfl)) (fun _ _ _ h => h) (Or.inl ⟨by rfl, ?_⟩) hHeld ?_ ?_
    rotate_left
    ·rintro w' ⟨s0, s1, s2, s3⟩
     go_simp
     with_reducible rfl
    rotate_left
    ·simp only [sP]
     rfl
    refine take_ (i := 7) (N := some 12) (v := ?_) (a' := ?_) #[tr,tr,tr,tr,tr,tr,tr,tr,fa,fa,fa,fa,fa,fa,fa,fa,fa,fa,fa] rfl rfl (take_ofW HT_.out HW_.out (by kernel_rfl)) (fun _ _ _ h => h) (Or.inl ⟨by rfl, ?_⟩) hHeld ?_ ?_
    rotate_left
    ·rintro w' ⟨s0, s1, s2, s3⟩
     go_simp
     with_reducible rfl
    rotate_left
    ·simp only [sP]
     rfl
    refine one_ (i := 8) (N := some 13) #[tr,tr,tr,tr,tr,tr,tr,tr,tr,fa,fa,fa,fa,fa,fa,fa,fa,fa,fa] rfl rfl (one_of HT_.out (by kernel_rfl)) (by decide) (fun K hK => ?_)
    refine goes_ Try.func38 (by kernel_rfl) rfl #[.bool a0_0] (by rfl) rfl rfl gS ?_
    with_reducible refine (spoorref09_Wide.calls a0_0 t267 _ A6.out).mono ?_
    rintro e w' ⟨rfl, ⟨nd, rfl⟩⟩
    refine ⟨_, rfl, ?_⟩
    refine hK.out _ _ ⟨(blk_cell BK266.out 0).trans rfl, (blk_cell BK266.out 1).trans rfl, (blk_cell BK266.out 2).trans rfl, (blk_cell BK266.out 3).trans rfl⟩ (fun hHeld => ?_)
    clear hK K
    refine norm_ (a' := ?_) ?_ ?_
    rotate_left
    ·show Act.put _ (some 13) _ = _
     simp only [sP]
     rfl
    refine pure_ (i := 9) (N := some 14) (v := ?_) (a' := ?_) #[tr,tr,tr,tr,tr,tr,tr,tr,tr,tr,fa,fa,fa,fa,fa,fa,fa,fa,fa] rfl rfl (any_of HT_.out (by kernel_rfl)) (fun _ _ _ h => h) (Or.inl ⟨by rfl, ?_⟩) ?_ ?_
    rotate_left
    ·intro w'
     go_simp
     with_reducible rfl
    rotate_left
    ·simp only [sP]
     rfl
    refine pure_ (i := 10) (N := some 15) (v := ?_) (a' := ?_) #[tr,tr,tr,tr,tr,tr,tr,tr,tr,tr,tr,fa,fa,fa,fa,fa,fa,fa,fa] rfl rfl (any_of HT_.out (by kernel_rfl)) (fun _ _ _ h => h) (Or.inl ⟨by rfl, ?_⟩) ?_ ?_
    rotate_left
    ·intro w'
     go_simp
     with_reducible rfl
    rotate_left
    ·simp only [sP]
     rfl
    refine pure_ (i := 11) (N := some 16) (v := ?_) (a' := ?_) #[tr,tr,tr,tr,tr,tr,tr,tr,tr,tr,tr,tr,fa,fa,fa,fa,fa,fa,fa] rfl rfl (any_of HT_.out (by kernel_rfl)) (fun _ _ _ h => h) (Or.inl ⟨by rfl, ?_⟩) ?_ ?_
    rotate_left
    ·intro w'
     go_simp
     with_reducible rfl
    rotate_left
    ·simp only [sP]
     rfl
    refine pure_ (i := 12) (N := some 17) (v := ?_) (a' := ?_) #[tr,tr,tr,tr,tr,tr,tr,tr,tr,tr,tr,tr,tr,fa,fa,fa,fa,fa,fa] rfl rfl (any_of HT_.out (by kernel_rfl)) (fun _ _ _ h => h) (Or.inl ⟨by rfl, ?_⟩) ?_ ?_
    rotate_left
    ·intro w'
     go_simp
     with_reducible rfl
    rotate_left
    ·simp only [sP]
     rfl
    refine pure_ (i := 14) (N := some 19) (v := ?_) (a' := ?_) #[tr,tr,tr,tr,tr,tr,tr,tr,tr,tr,tr,tr,tr,fa,tr,fa,fa,fa,fa] rfl rfl (any_of HT_.out (by kernel_rfl)) (fun _ _ _ h => h) (Or.inl ⟨by rfl, ?_⟩) ?_ ?_
    rotate_left
    ·intro w'
     go_simp
     with_reducible rfl
    rotate_left
    ·simp only [sP]
     rfl
    refine take_ (i := 13) (N := some 18) (v := ?_) (a' := ?_) #[tr,tr,tr,tr,tr,tr,tr,tr,tr,tr,tr,tr,tr,tr,tr,fa,fa,fa,fa] rfl rfl (take_ofW HT_.out HW_.out (by kernel_rfl)) (fun _ _ _ h => h) (Or.inl ⟨by rfl, ?_⟩) hHeld ?_ ?_
    rotate_left
    ·rintro w' ⟨s0, s1, s2, s3⟩
     go_simp
     with_reducible rfl
    rotate_left
    ·simp only [sP]
     rfl
    refine take_ (i := 15) (N := some 20) (v := ?_) (a' := ?_) #[tr,tr,tr,tr,tr,tr,tr,tr,tr,tr,tr,tr,tr,tr,tr,tr,fa,fa,fa] rfl rfl (take_ofW HT_.out HW_.out (by kernel_rfl)) (fun _ _ _ h => h) (Or.inl ⟨by rfl, ?_⟩) hHeld ?_ ?_
    rotate_left
    ·rintro w' ⟨s0, s1, s2, s3⟩
     go_simp
     with_reducible rfl
    rotate_left
    ·simp only [sP]
     rfl
    refine one_ (i := 16) (N := some 21) #[tr,tr,tr,tr,tr,tr,tr,tr,tr,tr,tr,tr,tr,tr,tr,tr,tr,fa,fa] rfl rfl (one_of HT_.out (by kernel_rfl)) (by decide) (fun K hK => ?_)
    refine goes_ Try.func13 (by kernel_rfl) rfl #[.bool a0_0, .agg #[.int .u64 a0_1, .int .u64 a0_2]] (by rfl) rfl rfl gS ?_
    with_reducible refine (spoorref09_Right.calls a0_0 a0_1 a0_2 t268 _ A9.out).mono ?_
    rintro e w11 ⟨rfl, hb⟩
    refine ⟨_, rfl, ?_⟩
    have n0_ := Ax (blk_below (g := gb266) (o := .cells #[.bool a0_0, .int .u64 a0_1, .int .u64 a0_2, .int .i64 a0_3] 33 (0, 0)) (bf0 BK266.out) hb)
    have n1_ := Ax (below_step (bw1 HB.out GE266.out) hb)
    clear BK266
    clear HB
    have BK266 := n0_
    have HB := n1_
    clear n0_ n1_
    (try clear hb)
    (try clear hb2)
    (try clear hk)
    (try clear hi)
    refine hK.out _ _ ⟨(blk_cell BK266.out 0).trans rfl, (blk_cell BK266.out 1).trans rfl, (blk_cell BK266.out 2).trans rfl, (blk_cell BK266.out 3).trans rfl⟩ (fun hHeld => ?_)
    clear hK K
    refine norm_ (a' := ?_) ?_ ?_
    rotate_left
    ·show Act.put _ (some 21) _ = _
     simp only [sP]
     rfl
    refine pure_ (i := 17) (N := some 22) (v := ?_) (a' := ?_) #[tr,tr,tr,tr,tr,tr,tr,tr,tr,tr,tr,tr,tr,tr,tr,tr,tr,tr,fa] rfl rfl (any_of HT_.out (by kernel_rfl)) (fun _ _ _ h => h) (Or.inl ⟨by rfl, ?_⟩) ?_ ?_
    rotate_left
    ·intro w'
     go_simp
     with_reducible rfl
    rotate_left
    ·simp only [sP]
     rfl
    refine pure_ (i := 18) (N := some 23) (v := ?_) (a' := ?_) #[tr,tr,tr,tr,tr,tr,tr,tr,tr,tr,tr,tr,tr,tr,tr,tr,tr,tr,tr] rfl rfl (any_of HT_.out (by kernel_rfl)) (fun _ _ _ h => h) (Or.inl ⟨by rfl, ?_⟩) ?_ ?_
    rotate_left
    ·intro w'
     go_simp
     with_reducible rfl
    rotate_left
    ·simp only [sP]
     rfl
    refine done_ (done_of HT_.out (by kernel_rfl)) ?_
    try go_wp2
    go_meet
    case rel => exact ⟨_, (!t268), rS, H', ⟨by first | omega | exact Nat.le_refl _⟩, ⟨bf0 BK266.out⟩, ⟨bw1 HB.out GE266.out⟩⟩
 case rest =>
  clear HC2
  try clear c1
  try clear c2
  try clear p2
  try clear c3
  try clear c4
  try clear c4b0
  try clear c7
  try clear c7b0
  obtain ⟨kq, x23_1, rfl, HA, HJ1, BK266, HB⟩ := hcut
  cases kq with
  | zero => exact absurd HA.out (by simp [spoorref09_Check.j0])
  | succ kj1 =>
   have H := HA.out
   clear HA
   simp only [spoorref09_Check.j0] at H
   by_cases c12 : x23_1 = true
   ·subst c12
    have H1 : (some 2) = some r := by rw [if_pos rfl] at H; exact H
    clear H
    have H := H1
    clear H1
    obtain rfl := Option.some.inj H
    go_wp2
    go_ret
    exact ⟨eS, bw1 HB.out GE266.out⟩
   ·replace c12 := Bool.eq_false_iff.mpr c12
    subst c12
    have H1 : ((spoorref09_bits.f kj1 a0_0 a0_1 a0_2).bind fun t269 => (spoorref09_Check.l0 kj1 t269 (t269.length : Int) 0 a0_0 a0_1 a0_2 a0_3)) = some r := by rw [if_neg (show ¬ (false = true) by decide)] at H; exact H
    clear H
    have H := H1
    clear H1
    replace H := Option.bind_eq_some_iff.mp H
    obtain ⟨t269, A130, H⟩ := H
    replace H : (spoorref09_Check.l0 kj1 t269 (t269.length : Int) 0 a0_0 a0_1 a0_2 a0_3) = some r := H
    have A13 := Ax A130
    clear A130
    have H' := Ax H
    clear H
    have hcz14_0 : wc.cell? ⟨gb266, 0, none⟩ = some (.bool a0_0) := (blk_cell BK266.out 0).trans rfl
    have hcz14_1 : wc.cell? ⟨gb266, 1, none⟩ = some (.int .u64 a0_1) := (blk_cell BK266.out 1).trans rfl
    have hcz14_2 : wc.cell? ⟨gb266, 2, none⟩ = some (.int .u64 a0_2) := (blk_cell BK266.out 2).trans rfl
    have hcz14_3 : wc.cell? ⟨gb266, 3, none⟩ = some (.int .i64 a0_3) := (blk_cell BK266.out 3).trans rfl
    have hfz14_0 := blk_frozen BK266.out 0
    have hfz14_1 := blk_frozen BK266.out 1
    have hfz14_2 := blk_frozen BK266.out 2
    have hfz14_3 := blk_frozen BK266.out 3
    go_wp2_with (first | ((with_reducible refine gate_callee (f := 35) rfl ?_); refine goesL_ (some 28) rfl rfl Try.func35 (by kernel_rfl) rfl #[.bool a0_0, .agg #[.int .u64 a0_1, .int .u64 a0_2]] rfl gS ?_; (with_reducible refine (spoorref09_bits.calls kj1 a0_0 a0_1 a0_2 t269 _ A13.out).mono ?_); rintro e w15 ⟨v270, rfl, ho0, hb⟩; refine ⟨_, rfl, ?_⟩; have n0_ := Ax (Kd.R_lower ho0 (below_size (bw1 HB.out GE266.out))); have n1_ := Ax (blk_below (g := gb266) (o := .cells #[.bool a0_0, .int .u64 a0_1, .int .u64 a0_2, .int .i64 a0_3] 33 (0, 0)) (bf0 BK266.out) hb); have n2_ := Ax (below_step (bw1 HB.out GE266.out) hb); clear BK266; clear HB; have HO271 := n0_; have BK266 := n1_; have HB := n2_; clear n0_ n1_ n2_; (try clear hb); (try clear hb2); (try clear hk); (try clear hi); (try clear ho0); obtain ⟨Ao16, co16, eo16⟩ := Kd.R_slice HO271.out; subst eo16))
    go_loopg [30] kj1 (fun kq v30 w' => ∃ (x30_2 : Int), v30 = .int .i64 x30_2 ∧ Aside0 (spoorref09_Check.l0 kq t269 (t269.length : Int) x30_2 a0_0 a0_1 a0_2 a0_3 = some r) ∧ Aside0 (kq ≤ kj1) ∧ Aside0 (Kd.R (Kd.int .i64) 3 w' w.heap.size (fun _ => True) (.slice Ao16 t269.length co16) t269) ∧ Aside0 (w'.heap[gb266]? = some (.cells #[.bool a0_0, .int .u64 a0_1, .int .u64 a0_2, .int .i64 a0_3] 33 (0, 0))) ∧ Aside0 (Below w.heap.size w w'))
    case atStart => exact ⟨(0), rS, H', ⟨Nat.le_refl _⟩, ⟨by (with_reducible repeat (first | apply Kd.R_alloc | apply Kd.R_drewN | apply Kd.R_drew)); exact HO271.out⟩, ⟨bf0 BK266.out⟩, ⟨bw1 HB.out GE266.out⟩⟩
    case round =>
     clear H'
     try clear c1
     try clear c2
     try clear p2
     try clear c3
     try clear c4
     try clear c4b0
     try clear c7
     try clear c7b0
     try clear c12
     try clear c13
     try clear hcz14_0
     try clear hcz14_1
     try clear hcz14_2
     try clear hcz14_3
     try clear hfz14_0
     try clear hfz14_1
     try clear hfz14_2
     try clear hfz14_3
     try clear p2
     obtain ⟨x30_2, rfl, HA, HK2, HO_28, BK266, HB⟩ := hrel
     cases gk with
     | zero => exact absurd HA.out (by simp [spoorref09_Check.l0])
     | succ k2 =>
      have H := HA.out
      clear HA
      simp only [spoorref09_Check.l0] at H
      by_cases c17 : x30_2 < (t269.length : Int)
      ·rw [if_pos c17] at H
       have c17b0 : decide (x30_2 < (t269.length : Int)) = true := decide_eq_true c17
       clear c17
       by_cases c18 : 0 ≤ x30_2
       ·rw [if_pos c18] at H
        have c18b0 : decide (0 ≤ x30_2) = true := decide_eq_true c18
        clear c18
        by_cases c19 : x30_2 < (t269.length : Int)
        ·rw [if_pos c19] at H
         have c19b0 : decide (x30_2 < (t269.length : Int)) = true := decide_eq_true c19
         clear c19
         by_cases c20 : x30_2 ≥ a0_3
         ·rw [if_pos c20] at H
          have c20b0 : decide (a0_3 ≤ x30_2) = true := decide_eq_true c20
          clear c20
          by_cases c21 : (rd t269 x30_2) = 0
          ·rw [if_pos c21] at H
           have c21b0 : ((rd t269 x30_2) == 0) = true := beq_iff_eq.mpr c21
           have c21b1 : ((rd t269 x30_2) != 0) = false := bne_eq_false_iff_eq.mpr c21
           clear c21
           have H' := Ax H
           clear H
           have p272 : 0 ≤ (x30_2 : Int) := of_decide_eq_true (by first | (with_reducible assumption) | assumption)
           have q272 : x30_2 < (t269.length : Int) := of_decide_eq_true (by first | (with_reducible assumption) | assumption)
           obtain ⟨ad272, e272, hx272_0⟩ := Kd.at_int (Kd.R_reads' HO_28.out).2.2 x30_2 p272 q272
           cases e272
           replace p272 := eq_true p272
           replace q272 := eq_true q272
           have hcz22_0 : wr.cell? ⟨gb266, 0, none⟩ = some (.bool a0_0) := (blk_cell BK266.out 0).trans rfl
           have hcz22_1 : wr.cell? ⟨gb266, 1, none⟩ = some (.int .u64 a0_1) := (blk_cell BK266.out 1).trans rfl
           have hcz22_2 : wr.cell? ⟨gb266, 2, none⟩ = some (.int .u64 a0_2) := (blk_cell BK266.out 2).trans rfl
           have hcz22_3 : wr.cell? ⟨gb266, 3, none⟩ = some (.int .i64 a0_3) := (blk_cell BK266.out 3).trans rfl
           have hfz22_0 := blk_frozen BK266.out 0
           have hfz22_1 := blk_frozen BK266.out 1
           have hfz22_2 := blk_frozen BK266.out 2
           have hfz22_3 := blk_frozen BK266.out 3
           go_wp2
           go_roundg k2
           case measure => have := HJ1.out; have := HK2.out; omega
           case rel => exact ⟨(wrap64 (x30_2 + 1)), rS, H', ⟨by have := HJ1.out; have := HK2.out; omega⟩, ⟨by (with_reducible repeat (first | apply Kd.R_alloc | apply Kd.R_drewN | apply Kd.R_drew)); exact HO_28.out⟩, ⟨bf0 BK266.out⟩, ⟨bw1 HB.out GE266.out⟩⟩
          ·rw [if_neg c21] at H
           have c21b0 : ((rd t269 x30_2) == 0) = false := beq_eq_false_iff_ne.mpr c21
           have c21b1 : ((rd t269 x30_2) != 0) = true := bne_iff_ne.mpr c21
           obtain rfl := Option.some.inj H
           have p272 : 0 ≤ (x30_2 : Int) := of_decide_eq_true (by first | (with_reducible assumption) | assumption)
           have q272 : x30_2 < (t269.length : Int) := of_decide_eq_true (by first | (with_reducible assumption) | assumption)
           obtain ⟨ad272, e272, hx272_0⟩ := Kd.at_int (Kd.R_reads' HO_28.out).2.2 x30_2 p272 q272
           cases e272
           replace p272 := eq_true p272
           replace q272 := eq_true q272
           have hcz23_0 : wr.cell? ⟨gb266, 0, none⟩ = some (.bool a0_0) := (blk_cell BK266.out 0).trans rfl
           have hcz23_1 : wr.cell? ⟨gb266, 1, none⟩ = some (.int .u64 a0_1) := (blk_cell BK266.out 1).trans rfl
           have hcz23_2 : wr.cell? ⟨gb266, 2, none⟩ = some (.int .u64 a0_2) := (blk_cell BK266.out 2).trans rfl
           have hcz23_3 : wr.cell? ⟨gb266, 3, none⟩ = some (.int .i64 a0_3) := (blk_cell BK266.out 3).trans rfl
           have hfz23_0 := blk_frozen BK266.out 0
           have hfz23_1 := blk_frozen BK266.out 1
           have hfz23_2 := blk_frozen BK266.out 2
           have hfz23_3 := blk_frozen BK266.out 3
           go_wp2
           go_ret
           exact ⟨eS, bw1 HB.out GE266.out⟩
         ·rw [if_neg c20] at H
          have c20b0 : decide (a0_3 ≤ x30_2) = false := decide_eq_false c20
          clear c20
          have H' := Ax H
          clear H
          have p272 : 0 ≤ (x30_2 : Int) := of_decide_eq_true (by first | (with_reducible assumption) | assumption)
          have q272 : x30_2 < (t269.length : Int) := of_decide_eq_true (by first | (with_reducible assumption) | assumption)
          obtain ⟨ad272, e272, hx272_0⟩ := Kd.at_int (Kd.R_reads' HO_28.out).2.2 x30_2 p272 q272
          cases e272
          replace p272 := eq_true p272
          replace q272 := eq_true q272
          have hcz24_0 : wr.cell? ⟨gb266, 0, none⟩ = some (.bool a0_0) := (blk_cell BK266.out 0).trans rfl
          have hcz24_1 : wr.cell? ⟨gb266, 1, none⟩ = some (.int .u64 a0_1) := (blk_cell BK266.out 1).trans rfl
          have hcz24_2 : wr.cell? ⟨gb266, 2, none⟩ = some (.int .u64 a0_2) := (blk_cell BK266.out 2).trans rfl
          have hcz24_3 : wr.cell? ⟨gb266, 3, none⟩ = some (.int .i64 a0_3) := (blk_cell BK266.out 3).trans rfl
          have hfz24_0 := blk_frozen BK266.out 0
          have hfz24_1 := blk_frozen BK266.out 1
          have hfz24_2 := blk_frozen BK266.out 2
          have hfz24_3 := blk_frozen BK266.out 3
          go_wp2
          go_roundg k2
          case measure => have := HJ1.out; have := HK2.out; omega
          case rel => exact ⟨(wrap64 (x30_2 + 1)), rS, H', ⟨by have := HJ1.out; have := HK2.out; omega⟩, ⟨by (with_reducible repeat (first | apply Kd.R_alloc | apply Kd.R_drewN | apply Kd.R_drew)); exact HO_28.out⟩, ⟨bf0 BK266.out⟩, ⟨bw1 HB.out GE266.out⟩⟩
        ·rw [if_neg c19] at H
         exact absurd H (by simp)
       ·rw [if_neg c18] at H
        exact absurd H (by simp)
      ·rw [if_neg c17] at H
       have c17b0 : decide (x30_2 < (t269.length : Int)) = false := decide_eq_false c17
       clear c17
       obtain rfl := Option.some.inj H
       go_wp2
       go_ret
       exact ⟨eS, bw1 HB.out GE266.out⟩

end Go.Proofs.Ytafclgjnomocdaa.Q
