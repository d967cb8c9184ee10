-- Merged and trimmed by this session's program wip/tools/trim.py.
import Derived.Test.YtcnkiigobcigbaaTTopStream1
section
namespace Go.Proofs.Ytcnkiigobcigbaa.Q
open Go.RowKit Go.Proofs.YtcnkiigobcigbaaW.PrintWords Go.Proofs.YtcnkiigobcigbaaW.PrintLast Go.Proofs.YtcnkiigobcigbaaW.PrintMore
attribute [local go_sem] max2_int min2_int max_two min_two max_three min_three max_four min_four   -- for this text's walks alone
set_option linter.unusedVariables false
set_option linter.unusedSimpArgs false
attribute [local go_sem high] eqA35
set_option maxHeartbeats 8000000 in
set_option maxRecDepth 100000 in
theorem addr_Check.calls (k : Nat) (a0_0 : Bool) (a0_1 : Int) (a0_2 : Int) (a0_3 : Int) (r : Int) (w : World) (h : addr_Check.f k a0_0 a0_1 a0_2 a0_3 = some r) :
  Calls Try.prog 30 #[.agg #[.bool a0_0, .int .u64 a0_1, .int .u64 a0_2, .int .i64 a0_3]] w fun e w' => e = .returned (.int .i64 r) ∧ Below w.heap.size w w' := by
 have hu30 := Try.underlying30
 have hu28 := Try.underlying28
 have HB := Ax (Below.refl w.heap.size w)
 have H : (if a0_3 < 0 then (addr_Check.j0 k true a0_0 a0_1 a0_2 a0_3) else ((addr_Wide.f a0_0).bind fun t124 => (if a0_3 > t124 then (addr_Check.j0 k true a0_0 a0_1 a0_2 a0_3) else ((addr_Right.f a0_0 a0_1 a0_2).bind fun t125 => (addr_Check.j0 k (!t125) a0_0 a0_1 a0_2 a0_3))))) = some r := h
 clear h
 have HC2 := Ax H
 clear H
 go_enter Try.func30, Try.ntmps30
 go_upto_region 1 with (first | ((with_reducible refine gate_dst (N := 1) rfl ?_); refine box_event ?hg (N := 1) ?hd (cs := #[.bool a0_0, .int .u64 a0_1, .int .u64 a0_2, .int .i64 a0_3]) (t := 30) ?hr ?_; (case hd => rfl); (case hg => rfl); (case hr => first | (go_simp; done) | (go_simp; rfl)); intro gb123 hg w3 hbox hb; have n0_ := Bs0 HB hb; have n1_ := Ax (hbox); have n2_ := Gw0 HB hg; have n3_ := Gw0 HB hg; clear HB; have HB := n0_; have BK123 := n1_; have GW123 := n2_; have GE123 := n3_; clear n0_ n1_ n2_ n3_; clear hb hbox hg))
 (try simp only [Act.put, List.setIfInBounds_toArray, List.set_cons_zero, List.set_cons_succ])
 go_cut [22] (fun v22 wc => ∃ (kq : Nat) (x22_1 : Bool), v22 = .bool x22_1 ∧ Aside0 (addr_Check.j0 kq x22_1 a0_0 a0_1 a0_2 a0_3 = some r) ∧ Aside0 (kq ≤ k) ∧ Aside0 (wc.heap[gb123]? = some (.cells #[.bool a0_0, .int .u64 a0_1, .int .u64 a0_2, .int .i64 a0_3] 30 (0, 0))) ∧ Aside0 (Below w.heap.size w wc))
 case first =>
  have H := HC2.out
  clear HC2
  by_cases c4 : a0_3 < 0
  ·rw [if_pos c4] at H
   have c4b0 : decide (a0_3 < 0) = true := decide_eq_true c4
   clear c4
   (first | rw [c4b0] | (simp only [i64_w, i32_w]; rw [c4b0]) | skip)
   have H' := Ax H
   clear H
   try go_wp2
   replace BK123 := Ax (blk_drew BK123.out)
   replace HB := Ax (below_drew1 HB.out)
   refine start_ (n := 19) (S := fun w' => w'.cell? ⟨gb123, 0, none⟩ = some (.bool a0_0) ∧ w'.cell? ⟨gb123, 1, none⟩ = some (.int .u64 a0_1) ∧ w'.cell? ⟨gb123, 2, none⟩ = some (.int .u64 a0_2) ∧ w'.cell? ⟨gb123, 3, none⟩ = some (.int .i64 a0_3)) (ds := []) #[fa,fa,fa,fa,fa,fa,fa,fa,fa,fa,fa,fa,fa,fa,fa,fa,fa,fa,fa] (by kernel_rfl) rfl rfl ⟨(blk_cell BK123.out 0).trans rfl, (blk_cell BK123.out 1).trans rfl, (blk_cell BK123.out 2).trans rfl, (blk_cell BK123.out 3).trans rfl⟩ (fun hHeld => ?_); refine with_tabW addr_Check.tab1 addr_Check.bits1 (fun HT_ HW_ => ?_)
   generalize w3.drew = w5 at BK123 HB hHeld ⊢
   refine pure_ (i := 0) (N := some 4) (v := ?_) (a' := ?_) #[tr,fa,fa,fa,fa,fa,fa,fa,fa,fa,fa,fa,fa,fa,fa,fa,fa,fa,fa] rfl rfl (any_of HT_.out (by kernel_rfl)) (fun _ _ _ h => h) (Or.inl ⟨by rfl, ?_⟩) ?_ ?_
   rotate_left
   ·intro w'
    go_simp
    with_reducible rfl
   rotate_left
   ·simp only [sP]
    rfl
   refine take_ (i := 1) (N := some 5) (v := ?_) (a' := ?_) #[tr,tr,fa,fa,fa,fa,fa,fa,fa,fa,fa,fa,fa,fa,fa,fa,fa,fa,fa] rfl rfl (take_ofW HT_.out HW_.out (by kernel_rfl)) (fun _ _ _ h => h) (Or.inl ⟨by rfl, ?_⟩) hHeld ?_ ?_
   rotate_left
   ·rintro w' ⟨s0, s1, s2, s3⟩
    go_simp
    with_reducible rfl
   rotate_left
   ·simp only [sP]
    rfl
   refine pure_ (i := 2) (N := some 6) (v := ?_) (a' := ?_) #[tr,tr,tr,fa,fa,fa,fa,fa,fa,fa,fa,fa,fa,fa,fa,fa,fa,fa,fa] rfl rfl (any_of HT_.out (by kernel_rfl)) (fun _ _ _ h => h) (Or.inl ⟨by rfl, ?_⟩) ?_ ?_
   rotate_left
   ·intro w'
    go_simp
    with_reducible rfl
   rotate_left
   ·simp only [sP]
    rfl
   refine pure_ (i := 3) (N := some 7) (v := ?_) (a' := ?_) #[tr,tr,tr,tr,fa,fa,fa,fa,fa,fa,fa,fa,fa,fa,fa,fa,fa,fa,fa] rfl rfl (any_of HT_.out (by kernel_rfl)) (fun _ _ _ h => h) (Or.inl ⟨by rfl, ?_⟩) ?_ ?_
   rotate_left
   ·intro w'
    go_simp
    with_reducible rfl
   rotate_left
   ·simp only [sP]
    rfl
   refine pure_ (i := 4) (N := some 8) (v := undef) (a' := ?_) #[tr,tr,tr,tr,tr,fa,fa,fa,fa,fa,fa,fa,fa,fa,fa,fa,fa,fa,fa] rfl rfl (any_of HT_.out (by kernel_rfl)) (fun _ _ _ h => h) (Or.inr ⟨by rfl, rfl⟩) ?_ ?_
   rotate_left
   ·simp only [sP]
    rfl
   refine pure_ (i := 5) (N := some 9) (v := undef) (a' := ?_) #[tr,tr,tr,tr,tr,tr,fa,fa,fa,fa,fa,fa,fa,fa,fa,fa,fa,fa,fa] rfl rfl (any_of HT_.out (by kernel_rfl)) (fun _ _ _ h => h) (Or.inr ⟨by rfl, rfl⟩) ?_ ?_
   rotate_left
   ·simp only [sP]
    rfl
   refine pure_ (i := 6) (N := some 10) (v := undef) (a' := ?_) #[tr,tr,tr,tr,tr,tr,tr,fa,fa,fa,fa,fa,fa,fa,fa,fa,fa,fa,fa] rfl rfl (any_of HT_.out (by kernel_rfl)) (fun _ _ _ h => h) (Or.inr ⟨by rfl, rfl⟩) ?_ ?_
   rotate_left
   ·simp only [sP]
    rfl
   refine pure_ (i := 7) (N := some 11) (v := undef) (a' := ?_) #[tr,tr,tr,tr,tr,tr,tr,tr,fa,fa,fa,fa,fa,fa,fa,fa,fa,fa,fa] rfl rfl (any_of HT_.out (by kernel_rfl)) (fun _ _ _ h => h) (Or.inr ⟨by rfl, rfl⟩) ?_ ?_
   rotate_left
   ·simp only [sP]
    rfl
   refine pure_ (i := 8) (N := some 12) (v := undef) (a' := ?_) #[tr,tr,tr,tr,tr,tr,tr,tr,tr,fa,fa,fa,fa,fa,fa,fa,fa,fa,fa] rfl rfl (any_of HT_.out (by kernel_rfl)) (fun _ _ _ h => h) (Or.inr ⟨by rfl, rfl⟩) ?_ ?_
   rotate_left
   ·simp only [sP]
    rfl
   refine pure_ (i := 9) (N := some 13) (v := undef) (a' := ?_) #[tr,tr,tr,tr,tr,tr,tr,tr,tr,tr,fa,fa,fa,fa,fa,fa,fa,fa,fa] rfl rfl (any_of HT_.out (by kernel_rfl)) (fun _ _ _ h => h) (Or.inr ⟨by rfl, rfl⟩) ?_ ?_
   rotate_left
   ·simp only [sP]
    rfl
   refine pure_ (i := 10) (N := some 14) (v := ?_) (a' := ?_) #[tr,tr,tr,tr,tr,tr,tr,tr,tr,tr,tr,fa,fa,fa,fa,fa,fa,fa,fa] rfl rfl (any_of HT_.out (by kernel_rfl)) (fun _ _ _ h => h) (Or.inl ⟨by rfl, ?_⟩) ?_ ?_
   rotate_left
   ·intro w'
    go_simp
    with_reducible rfl
   rotate_left
   ·simp only [sP]
    rfl
   refine pure_ (i := 11) (N := some 15) (v := ?_) (a' := ?_) #[tr,tr,tr,tr,tr,tr,tr,tr,tr,tr,tr,tr,fa,fa,fa,fa,fa,fa,fa] rfl rfl (any_of HT_.out (by kernel_rfl)) (fun _ _ _ h => h) (Or.inl ⟨by rfl, ?_⟩) ?_ ?_
   rotate_left
   ·intro w'
    go_simp
    with_reducible rfl
   rotate_left
   ·simp only [sP]
    rfl
   refine pure_ (i := 12) (N := some 16) (v := undef) (a' := ?_) #[tr,tr,tr,tr,tr,tr,tr,tr,tr,tr,tr,tr,tr,fa,fa,fa,fa,fa,fa] rfl rfl (any_of HT_.out (by kernel_rfl)) (fun _ _ _ h => h) (Or.inr ⟨by rfl, rfl⟩) ?_ ?_
   rotate_left
   ·simp only [sP]
    rfl
   refine pure_ (i := 13) (N := some 17) (v := undef) (a' := ?_) #[tr,tr,tr,tr,tr,tr,tr,tr,tr,tr,tr,tr,tr,tr,fa,fa,fa,fa,fa] rfl rfl (any_of HT_.out (by kernel_rfl)) (fun _ _ _ h => h) (Or.inr ⟨by rfl, rfl⟩) ?_ ?_
   rotate_left
   ·simp only [sP]
    rfl
   refine pure_ (i := 14) (N := some 18) (v := undef) (a' := ?_) #[tr,tr,tr,tr,tr,tr,tr,tr,tr,tr,tr,tr,tr,tr,tr,fa,fa,fa,fa] rfl rfl (any_of HT_.out (by kernel_rfl)) (fun _ _ _ h => h) (Or.inr ⟨by rfl, rfl⟩) ?_ ?_
   rotate_left
   ·simp only [sP]
    rfl
   refine pure_ (i := 15) (N := some 19) (v := undef) (a' := ?_) #[tr,tr,tr,tr,tr,tr,tr,tr,tr,tr,tr,tr,tr,tr,tr,tr,fa,fa,fa] rfl rfl (any_of HT_.out (by kernel_rfl)) (fun _ _ _ h => h) (Or.inr ⟨by rfl, rfl⟩) ?_ ?_
   rotate_left
   ·simp only [sP]
    rfl
   refine pure_ (i := 16) (N := some 20) (v := undef) (a' := ?_) #[tr,tr,tr,tr,tr,tr,tr,tr,tr,tr,tr,tr,tr,tr,tr,tr,tr,fa,fa] rfl rfl (any_of HT_.out (by kernel_rfl)) (fun _ _ _ h => h) (Or.inr ⟨by rfl, rfl⟩) ?_ ?_
   rotate_left
   ·simp only [sP]
    rfl
   refine pure_ (i := 17) (N := some 21) (v := undef) (a' := ?_) #[tr,tr,tr,tr,tr,tr,tr,tr,tr,tr,tr,tr,tr,tr,tr,tr,tr,tr,fa] rfl rfl (any_of HT_.out (by kernel_rfl)) (fun _ _ _ h => h) (Or.inr ⟨by rfl, rfl⟩) ?_ ?_
   rotate_left
   ·simp only [sP]
    rfl
   refine pure_ (i := 18) (N := some 22) (v := ?_) (a' := ?_) #[tr,tr,tr,tr,tr,tr,tr,tr,tr,tr,tr,tr,tr,tr,tr,tr,tr,tr,tr] rfl rfl (any_of HT_.out (by kernel_rfl)) (fun _ _ _ h => h) (Or.inl ⟨by rfl, ?_⟩) ?_ ?_
   rotate_left
   ·intro w'
    go_simp
    with_reducible rfl
   rotate_left
   ·simp only [sP]
    rfl
   refine done_ (done_of HT_.out (by kernel_rfl)) ?_
   try go_wp2
   go_meet
   case rel => exact ⟨_, (true), rS, H', ⟨by first | omega | exact Nat.le_refl _⟩, ⟨bf0 BK123.out⟩, ⟨bw1 HB.out GE123.out⟩⟩
  ·rw [if_neg c4] at H
   have c4b0 : decide (a0_3 < 0) = false := decide_eq_false c4
   clear c4
   (first | rw [c4b0] | (simp only [i64_w, i32_w]; rw [c4b0]) | skip)
   replace H := Option.bind_eq_some_iff.mp H
   obtain ⟨t124, A60, H⟩ := H
   replace H : (if a0_3 > t124 then (addr_Check.j0 k true a0_0 a0_1 a0_2 a0_3) else ((addr_Right.f a0_0 a0_1 a0_2).bind fun t125 => (addr_Check.j0 k (!t125) a0_0 a0_1 a0_2 a0_3))) = some r := H
   have A6 := Ax A60
   clear A60
   by_cases c7 : a0_3 > t124
   ·rw [if_pos c7] at H
    have c7b0 : decide (t124 < a0_3) = true := decide_eq_true c7
    clear c7
    have H' := Ax H
    clear H
    try go_wp2
    replace BK123 := Ax (blk_drew BK123.out)
    replace HB := Ax (below_drew1 HB.out)
    refine start_ (n := 19) (S := fun w' => w'.cell? ⟨gb123, 0, none⟩ = some (.bool a0_0) ∧ w'.cell? ⟨gb123, 1, none⟩ = some (.int .u64 a0_1) ∧ w'.cell? ⟨gb123, 2, none⟩ = some (.int .u64 a0_2) ∧ w'.cell? ⟨gb123, 3, none⟩ = some (.int .i64 a0_3)) (ds := []) #[fa,fa,fa,fa,fa,fa,fa,fa,fa,fa,fa,fa,fa,fa,fa,fa,fa,fa,fa] (by kernel_rfl) rfl rfl ⟨(blk_cell BK123.out 0).trans rfl, (blk_cell BK123.out 1).trans rfl, (blk_cell BK123.out 2).trans rfl, (blk_cell BK123.out 3).trans rfl⟩ (fun hHeld => ?_); refine with_tabW addr_Check.tab1 addr_Check.bits1 (fun HT_ HW_ => ?_)
    generalize w3.drew = w8 at BK123 HB hHeld ⊢
    refine pure_ (i := 0) (N := some 4) (v := ?_) (a' := ?_) #[tr,fa,fa,fa,fa,fa,fa,fa,fa,fa,fa,fa,fa,fa,fa,fa,fa,fa,fa] rfl rfl (any_of HT_.out (by kernel_rfl)) (fun _ _ _ h => h) (Or.inl ⟨by rfl, ?_⟩) ?_ ?_
    rotate_left
    ·intro w'
     go_simp
     with_reducible rfl
    rotate_left
    ·simp only [sP]
     rfl
    refine take_ (i := 1) (N := some 5) (v := ?_) (a' := ?_) #[tr,tr,fa,fa,fa,fa,fa,fa,fa,fa,fa,fa,fa,fa,fa,fa,fa,fa,fa] rfl rfl (take_ofW HT_.out HW_.out (by kernel_rfl)) (fun _ _ _ h => h) (Or.inl ⟨by rfl, ?_⟩) hHeld ?_ ?_
    rotate_left
    ·rintro w' ⟨s0, s1, s2, s3⟩
     go_simp
     with_reducible rfl
    rotate_left
    ·simp only [sP]
     rfl
    refine pure_ (i := 2) (N := some 6) (v := ?_) (a' := ?_) #[tr,tr,tr,fa,fa,fa,fa,fa,fa,fa,fa,fa,fa,fa,fa,fa,fa,fa,fa] rfl rfl (any_of HT_.out (by kernel_rfl)) (fun _ _ _ h => h) (Or.inl ⟨by rfl, ?_⟩) ?_ ?_
    rotate_left
    ·intro w'
     go_simp
     with_reducible rfl
    rotate_left
    ·simp only [sP]
     rfl
    refine pure_ (i := 3) (N := some 7) (v := ?_) (a' := ?_) #[tr,tr,tr,tr,fa,fa,fa,fa,fa,fa,fa,fa,fa,fa,fa,fa,fa,fa,fa] rfl rfl (any_of HT_.out (by kernel_rfl)) (fun _ _ _ h => h) (Or.inl ⟨by rfl, ?_⟩) ?_ ?_
    rotate_left
    ·intro w'
     go_simp
     with_reducible rfl
    rotate_left
    ·simp only [sP]
     rfl
    refine pure_ (i := 4) (N := some 8) (v := ?_) (a' := ?_) #[tr,tr,tr,tr,tr,fa,fa,fa,fa,fa,fa,fa,fa,fa,fa,fa,fa,fa,fa] rfl rfl (any_of HT_.out (by kernel_rfl)) (fun _ _ _ h => h) (Or.inl ⟨by rfl, ?_⟩) ?_ ?_
    rotate_left
    ·intro w'
     go_simp
     with_reducible rfl
    rotate_left
    ·simp only [sP]
     rfl
    refine pure_ (i := 6) (N := some 10) (v := ?_) (a' := ?_) #[tr,tr,tr,tr,tr,fa,tr,fa,fa,fa,fa,fa,fa,fa,fa,fa,fa,fa,fa] rfl rfl (any_of HT_.out (by kernel_rfl)) (fun _ _ _ h => h) (Or.inl ⟨by rfl, ?_⟩) ?_ ?_
    rotate_left
    ·intro w'
     go_simp
     with_reducible rfl
    rotate_left
    ·simp only [sP]
     rfl
    refine take_ (i := 5) (N := some 9) (v := ?_) (a' := ?_) #[tr,tr,tr,tr,tr,tr,tr,fa,fa,fa,fa,fa,fa,fa,fa,fa,fa,fa,fa] rfl rfl (take_ofW HT_.out HW_.out (by kernel_rfl)) (fun _ _ _ h => h) (Or.inl ⟨by rfl, ?_⟩) hHeld ?_ ?_
    rotate_left
    ·rintro w' ⟨s0, s1, s2, s3⟩
     go_simp
     with_reducible rfl
    rotate_left
    ·simp only [sP]
     rfl
    refine take_ (i := 7) (N := some 11) (v := ?_) (a' := ?_) #[tr,tr,tr,tr,tr,tr,tr,tr,fa,fa,fa,fa,fa,fa,fa,fa,fa,fa,fa] rfl rfl (take_ofW HT_.out HW_.out (by kernel_rfl)) (fun _ _ _ h => h) (Or.inl ⟨by rfl, ?_⟩) hHeld ?_ ?_
    rotate_left
    ·rintro w' ⟨s0, s1, s2, s3⟩
     go_simp
     with_reducible rfl
    rotate_left
    ·simp only [sP]
     rfl
    refine one_ (i := 8) (N := some 12) #[tr,tr,tr,tr,tr,tr,tr,tr,tr,fa,fa,fa,fa,fa,fa,fa,fa,fa,fa] rfl rfl (one_of HT_.out (by kernel_rfl)) (by decide) (fun K hK => ?_)
    refine goes_ Try.func35 (by kernel_rfl) rfl #[.bool a0_0] (by rfl) rfl rfl gS ?_
    with_reducible refine (addr_Wide.calls a0_0 t124 _ A6.out).mono ?_
    rintro e w' ⟨rfl, ⟨nd, rfl⟩⟩
    refine ⟨_, rfl, ?_⟩
    refine hK.out _ _ ⟨(blk_cell BK123.out 0).trans rfl, (blk_cell BK123.out 1).trans rfl, (blk_cell BK123.out 2).trans rfl, (blk_cell BK123.out 3).trans rfl⟩ (fun hHeld => ?_)
    clear hK K
    refine norm_ (a' := ?_) ?_ ?_
    rotate_left
    ·show Act.put _ (some 12) _ = _
     simp only [sP]
     rfl
    refine pure_ (i := 9) (N := some 13) (v := ?_) (a' := ?_) #[tr,tr,tr,tr,tr,tr,tr,tr,tr,tr,fa,fa,fa,fa,fa,fa,fa,fa,fa] rfl rfl (any_of HT_.out (by kernel_rfl)) (fun _ _ _ h => h) (Or.inl ⟨by rfl, ?_⟩) ?_ ?_
    rotate_left
    ·intro w'
     go_simp
     with_reducible rfl
    rotate_left
    ·simp only [sP]
     rfl
    refine pure_ (i := 10) (N := some 14) (v := ?_) (a' := ?_) #[tr,tr,tr,tr,tr,tr,tr,tr,tr,tr,tr,fa,fa,fa,fa,fa,fa,fa,fa] rfl rfl (any_of HT_.out (by kernel_rfl)) (fun _ _ _ h => h) (Or.inl ⟨by rfl, ?_⟩) ?_ ?_
    rotate_left
    ·intro w'
     go_simp
     with_reducible rfl
    rotate_left
    ·simp only [sP]
     rfl
    refine pure_ (i := 11) (N := some 15) (v := ?_) (a' := ?_) #[tr,tr,tr,tr,tr,tr,tr,tr,tr,tr,tr,tr,fa,fa,fa,fa,fa,fa,fa] rfl rfl (any_of HT_.out (by kernel_rfl)) (fun _ _ _ h => h) (Or.inl ⟨by rfl, ?_⟩) ?_ ?_
    rotate_left
    ·intro w'
     go_simp
     with_reducible rfl
    rotate_left
    ·simp only [sP]
     rfl
    refine pure_ (i := 12) (N := some 16) (v := undef) (a' := ?_) #[tr,tr,tr,tr,tr,tr,tr,tr,tr,tr,tr,tr,tr,fa,fa,fa,fa,fa,fa] rfl rfl (any_of HT_.out (by kernel_rfl)) (fun _ _ _ h => h) (Or.inr ⟨by rfl, rfl⟩) ?_ ?_
    rotate_left
    ·simp only [sP]
     rfl
    refine pure_ (i := 13) (N := some 17) (v := undef) (a' := ?_) #[tr,tr,tr,tr,tr,tr,tr,tr,tr,tr,tr,tr,tr,tr,fa,fa,fa,fa,fa] rfl rfl (any_of HT_.out (by kernel_rfl)) (fun _ _ _ h => h) (Or.inr ⟨by rfl, rfl⟩) ?_ ?_
    rotate_left
    ·simp only [sP]
     rfl
    refine pure_ (i := 14) (N := some 18) (v := undef) (a' := ?_) #[tr,tr,tr,tr,tr,tr,tr,tr,tr,tr,tr,tr,tr,tr,tr,fa,fa,fa,fa] rfl rfl (any_of HT_.out (by kernel_rfl)) (fun _ _ _ h => h) (Or.inr ⟨by rfl, rfl⟩) ?_ ?_
    rotate_left
    ·simp only [sP]
     rfl
    refine pure_ (i := 15) (N := some 19) (v := undef) (a' := ?_) #[tr,tr,tr,tr,tr,tr,tr,tr,tr,tr,tr,tr,tr,tr,tr,tr,fa,fa,fa] rfl rfl (any_of HT_.out (by kernel_rfl)) (fun _ _ _ h => h) (Or.inr ⟨by rfl, rfl⟩) ?_ ?_
    rotate_left
    ·simp only [sP]
     rfl
    refine pure_ (i := 16) (N := some 20) (v := undef) (a' := ?_) #[tr,tr,tr,tr,tr,tr,tr,tr,tr,tr,tr,tr,tr,tr,tr,tr,tr,fa,fa] rfl rfl (any_of HT_.out (by kernel_rfl)) (fun _ _ _ h => h) (Or.inr ⟨by rfl, rfl⟩) ?_ ?_
    rotate_left
    ·simp only [sP]
     rfl
    refine pure_ (i := 17) (N := some 21) (v := undef) (a' := ?_) #[tr,tr,tr,tr,tr,tr,tr,tr,tr,tr,tr,tr,tr,tr,tr,tr,tr,tr,fa] rfl rfl (any_of HT_.out (by kernel_rfl)) (fun _ _ _ h => h) (Or.inr ⟨by rfl, rfl⟩) ?_ ?_
    rotate_left
    ·simp only [sP]
     rfl
    refine pure_ (i := 18) (N := some 22) (v := ?_) (a' := ?_) #[tr,tr,tr,tr,tr,tr,tr,tr,tr,tr,tr,tr,tr,tr,tr,tr,tr,tr,tr] rfl rfl (any_of HT_.out (by kernel_rfl)) (fun _ _ _ h => h) (Or.inl ⟨by rfl, ?_⟩) ?_ ?_
    rotate_left
    ·intro w'
     go_simp
     with_reducible rfl
    rotate_left
    ·simp only [sP]
     rfl
    refine done_ (done_of HT_.out (by kernel_rfl)) ?_
    try go_wp2
    go_meet
    case rel => exact ⟨_, (true), rS, H', ⟨by first | omega | exact Nat.le_refl _⟩, ⟨bf0 BK123.out⟩, ⟨bw1 HB.out GE123.out⟩⟩
   ·rw [if_neg c7] at H
    have c7b0 : decide (t124 < a0_3) = false := decide_eq_false c7
    clear c7
    replace H := Option.bind_eq_some_iff.mp H
    obtain ⟨t125, A90, H⟩ := H
    replace H : (addr_Check.j0 k (!t125) a0_0 a0_1 a0_2 a0_3) = some r := H
    have A9 := Ax A90
    clear A90
    have H' := Ax H
    clear H
    try go_wp2
    replace BK123 := Ax (blk_drew BK123.out)
    replace HB := Ax (below_drew1 HB.out)
    refine start_ (n := 19) (S := fun w' => w'.cell? ⟨gb123, 0, none⟩ = some (.bool a0_0) ∧ w'.cell? ⟨gb123, 1, none⟩ = some (.int .u64 a0_1) ∧ w'.cell? ⟨gb123, 2, none⟩ = some (.int .u64 a0_2) ∧ w'.cell? ⟨gb123, 3, none⟩ = some (.int .i64 a0_3)) (ds := []) #[fa,fa,fa,fa,fa,fa,fa,fa,fa,fa,fa,fa,fa,fa,fa,fa,fa,fa,fa] (by kernel_rfl) rfl rfl ⟨(blk_cell BK123.out 0).trans rfl, (blk_cell BK123.out 1).trans rfl, (blk_cell BK123.out 2).trans rfl, (blk_cell BK123.out 3).trans rfl⟩ (fun hHeld => ?_); refine with_tabW addr_Check.tab1 addr_Check.bits1 (fun HT_ HW_ => ?_)
    generalize w3.drew = w10 at BK123 HB hHeld ⊢
    refine pure_ (i := 0) (N := some 4) (v := ?_) (a' := ?_) #[tr,fa,fa,fa,fa,fa,fa,fa,fa,fa,fa,fa,fa,fa,fa,fa,fa,fa,fa] rfl rfl (any_of HT_.out (by kernel_rfl)) (fun _ _ _ h => h) (Or.inl ⟨by rfl, ?_⟩) ?_ ?_
    rotate_left
    ·intro w'
     go_simp
     with_reducible rfl
    rotate_left
    ·simp only [sP]
     rfl
    refine take_ (i := 1) (N := some 5) (v := ?_) (a' := ?_) #[tr,tr,fa,fa,fa,fa,fa,fa,fa,fa,fa,fa,fa,fa,fa,fa,fa,fa,fa] rfl rfl (take_ofW HT_.out HW_.out (by kernel_rfl)) (fun _ _ _ h => h) (Or.inl ⟨by rfl, ?_⟩) hHeld ?_ ?_
    rotate_left
    ·rintro w' ⟨s0, s1, s2, s3⟩
     go_simp
     with_reducible rfl
    rotate_left
    ·simp only [sP]
     rfl
    refine pure_ (i := 2) (N := some 6) (v := ?_) (a' := ?_) #[tr,tr,tr,fa,fa,fa,fa,fa,fa,fa,fa,fa,fa,fa,fa,fa,fa,fa,fa] rfl rfl (any_of HT_.out (by kernel_rfl)) (fun _ _ _ h => h) (Or.inl ⟨by rfl, ?_⟩) ?_ ?_
    rotate_left
    ·intro w'
     go_simp
     with_reducible rfl
    rotate_left
    ·simp only [sP]
     rfl
    refine pure_ (i := 3) (N := some 7) (v := ?_) (a' := ?_) #[tr,tr,tr,tr,fa,fa,fa,fa,fa,fa,fa,fa,fa,fa,fa,fa,fa,fa,fa] rfl rfl (any_of HT_.out (by kernel_rfl)) (fun _ _ _ h => h) (Or.inl ⟨by rfl, ?_⟩) ?_ ?_
    rotate_left
    ·intro w'
     go_simp
     with_reducible rfl
    rotate_left
    ·simp only [sP]
     rfl
    refine pure_ (i := 4) (N := some 8) (v := ?_) (a' := ?_) #[tr,tr,tr,tr,tr,fa,fa,fa,fa,fa,fa,fa,fa,fa,fa,fa,fa,fa,fa] rfl rfl (any_of HT_.out (by kernel_rfl)) (fun _ _ _ h => h) (Or.inl ⟨by rfl, ?_⟩) ?_ ?_
    rotate_left
    ·intro w'
     go_simp
     with_reducible rfl
    rotate_left
    ·simp only [sP]
     rfl
    refine pure_ (i := 6) (N := some 10) (v := ?_) (a' := ?_) #[tr,tr,tr,tr,tr,fa,tr,fa,fa,fa,fa,fa,fa,fa,fa,fa,fa,fa,fa] rfl rfl (any_of HT_.out (by kernel_rfl)) (fun _ _ _ h => h) (Or.inl ⟨by rfl, ?_⟩) ?_ ?_
    rotate_left
    ·intro w'
     go_simp
     with_reducible rfl
    rotate_left
    ·simp only [sP]
     rfl
    refine take_ (i := 5) (N := some 9) (v := ?_) (a' := ?_) #[tr,tr,tr,tr,tr,tr,tr,fa,fa,fa,fa,fa,fa,fa,fa,fa,fa,fa,fa] rfl rfl (take_ofW HT_.out HW_.out (by kernel_rfl)) (fun _ _ _ h => h) (Or.inl ⟨by rfl, ?_⟩) hHeld ?_ ?_
    rotate_left
    ·rintro w' ⟨s0, s1, s2, s3⟩
     go_simp
     with_reducible rfl
    rotate_left
    ·simp only [sP]
     rfl
    refine take_ (i := 7) (N := some 11) (v := ?_) (a' := ?_) #[tr,tr,tr,tr,tr,tr,tr,tr,fa,fa,fa,fa,fa,fa,fa,fa,fa,fa,fa] rfl rfl (take_ofW HT_.out HW_.out (by kernel_rfl)) (fun _ _ _ h => h) (Or.inl ⟨by rfl, ?_⟩) hHeld ?_ ?_
    rotate_left
    ·rintro w' ⟨s0, s1, s2, s3⟩
     go_simp
     with_reducible rfl
    rotate_left
    ·simp only [sP]
     rfl
    refine one_ (i := 8) (N := some 12) #[tr,tr,tr,tr,tr,tr,tr,tr,tr,fa,fa,fa,fa,fa,fa,fa,fa,fa,fa] rfl rfl (one_of HT_.out (by kernel_rfl)) (by decide) (fun K hK => ?_)
    refine goes_ Try.func35 (by kernel_rfl) rfl #[.bool a0_0] (by rfl) rfl rfl gS ?_
    with_reducible refine (addr_Wide.calls a0_0 t124 _ A6.out).mono ?_
    rintro e w' ⟨rfl, ⟨nd, rfl⟩⟩
    refine ⟨_, rfl, ?_⟩
    refine hK.out _ _ ⟨(blk_cell BK123.out 0).trans rfl, (blk_cell BK123.out 1).trans rfl, (blk_cell BK123.out 2).trans rfl, (blk_cell BK123.out 3).trans rfl⟩ (fun hHeld => ?_)
    clear hK K
    refine norm_ (a' := ?_) ?_ ?_
    rotate_left
    ·show Act.put _ (some 12) _ = _
     simp only [sP]
     rfl
    refine pure_ (i := 9) (N := some 13) (v := ?_) (a' := ?_) #[tr,tr,tr,tr,tr,tr,tr,tr,tr,tr,fa,fa,fa,fa,fa,fa,fa,fa,fa] rfl rfl (any_of HT_.out (by kernel_rfl)) (fun _ _ _ h => h) (Or.inl ⟨by rfl, ?_⟩) ?_ ?_
    rotate_left
    ·intro w'
     go_simp
     with_reducible rfl
    rotate_left
    ·simp only [sP]
     rfl
    refine pure_ (i := 10) (N := some 14) (v := ?_) (a' := ?_) #[tr,tr,tr,tr,tr,tr,tr,tr,tr,tr,tr,fa,fa,fa,fa,fa,fa,fa,fa] rfl rfl (any_of HT_.out (by kernel_rfl)) (fun _ _ _ h => h) (Or.inl ⟨by rfl, ?_⟩) ?_ ?_
    rotate_left
    ·intro w'
     go_simp
     with_reducible rfl
    rotate_left
    ·simp only [sP]
     rfl
    refine pure_ (i := 11) (N := some 15) (v := ?_) (a' := ?_) #[tr,tr,tr,tr,tr,tr,tr,tr,tr,tr,tr,tr,fa,fa,fa,fa,fa,fa,fa] rfl rfl (any_of HT_.out (by kernel_rfl)) (fun _ _ _ h => h) (Or.inl ⟨by rfl, ?_⟩) ?_ ?_
    rotate_left
    ·intro w'
     go_simp
     with_reducible rfl
    rotate_left
    ·simp only [sP]
     rfl
    refine pure_ (i := 12) (N := some 16) (v := ?_) (a' := ?_) #[tr,tr,tr,tr,tr,tr,tr,tr,tr,tr,tr,tr,tr,fa,fa,fa,fa,fa,fa] rfl rfl (any_of HT_.out (by kernel_rfl)) (fun _ _ _ h => h) (Or.inl ⟨by rfl, ?_⟩) ?_ ?_
    rotate_left
    ·intro w'
     go_simp
     with_reducible rfl
    rotate_left
    ·simp only [sP]
     rfl
    refine pure_ (i := 14) (N := some 18) (v := ?_) (a' := ?_) #[tr,tr,tr,tr,tr,tr,tr,tr,tr,tr,tr,tr,tr,fa,tr,fa,fa,fa,fa] rfl rfl (any_of HT_.out (by kernel_rfl)) (fun _ _ _ h => h) (Or.inl ⟨by rfl, ?_⟩) ?_ ?_
    rotate_left
    ·intro w'
     go_simp
     with_reducible rfl
    rotate_left
    ·simp only [sP]
     rfl
    refine take_ (i := 13) (N := some 17) (v := ?_) (a' := ?_) #[tr,tr,tr,tr,tr,tr,tr,tr,tr,tr,tr,tr,tr,tr,tr,fa,fa,fa,fa] rfl rfl (take_ofW HT_.out HW_.out (by kernel_rfl)) (fun _ _ _ h => h) (Or.inl ⟨by rfl, ?_⟩) hHeld ?_ ?_
    rotate_left
    ·rintro w' ⟨s0, s1, s2, s3⟩
     go_simp
     with_reducible rfl
    rotate_left
    ·simp only [sP]
     rfl
    refine take_ (i := 15) (N := some 19) (v := ?_) (a' := ?_) #[tr,tr,tr,tr,tr,tr,tr,tr,tr,tr,tr,tr,tr,tr,tr,tr,fa,fa,fa] rfl rfl (take_ofW HT_.out HW_.out (by kernel_rfl)) (fun _ _ _ h => h) (Or.inl ⟨by rfl, ?_⟩) hHeld ?_ ?_
    rotate_left
    ·rintro w' ⟨s0, s1, s2, s3⟩
     go_simp
     with_reducible rfl
    rotate_left
    ·simp only [sP]
     rfl
    refine one_ (i := 16) (N := some 20) #[tr,tr,tr,tr,tr,tr,tr,tr,tr,tr,tr,tr,tr,tr,tr,tr,tr,fa,fa] rfl rfl (one_of HT_.out (by kernel_rfl)) (by decide) (fun K hK => ?_)
    refine goes_ Try.func37 (by kernel_rfl) rfl #[.bool a0_0, .agg #[.int .u64 a0_1, .int .u64 a0_2]] (by rfl) rfl rfl gS ?_
    with_reducible refine (addr_Right.calls a0_0 a0_1 a0_2 t125 _ A9.out).mono ?_
    rintro e w11 ⟨rfl, hb⟩
    refine ⟨_, rfl, ?_⟩
    replace BK123 := Bx0 BK123 hb
    replace HB := Bs1 HB hb GE123.out
    (try clear hb)
    refine hK.out _ _ ⟨(blk_cell BK123.out 0).trans rfl, (blk_cell BK123.out 1).trans rfl, (blk_cell BK123.out 2).trans rfl, (blk_cell BK123.out 3).trans rfl⟩ (fun hHeld => ?_)
    clear hK K
    refine norm_ (a' := ?_) ?_ ?_
    rotate_left
    ·show Act.put _ (some 20) _ = _
     simp only [sP]
     rfl
    refine pure_ (i := 17) (N := some 21) (v := ?_) (a' := ?_) #[tr,tr,tr,tr,tr,tr,tr,tr,tr,tr,tr,tr,tr,tr,tr,tr,tr,tr,fa] rfl rfl (any_of HT_.out (by kernel_rfl)) (fun _ _ _ h => h) (Or.inl ⟨by rfl, ?_⟩) ?_ ?_
    rotate_left
    ·intro w'
     go_simp
     with_reducible rfl
    rotate_left
    ·simp only [sP]
     rfl
    refine pure_ (i := 18) (N := some 22) (v := ?_) (a' := ?_) #[tr,tr,tr,tr,tr,tr,tr,tr,tr,tr,tr,tr,tr,tr,tr,tr,tr,tr,tr] rfl rfl (any_of HT_.out (by kernel_rfl)) (fun _ _ _ h => h) (Or.inl ⟨by rfl, ?_⟩) ?_ ?_
    rotate_left
    ·intro w'
     go_simp
     with_reducible rfl
    rotate_left
    ·simp only [sP]
     rfl
    refine done_ (done_of HT_.out (by kernel_rfl)) ?_
    try go_wp2
    go_meet
    case rel => exact ⟨_, (!t125), rS, H', ⟨by first | omega | exact Nat.le_refl _⟩, ⟨bf0 BK123.out⟩, ⟨bw1 HB.out GE123.out⟩⟩
 case rest =>
  clear HC2
  try clear p2
  try clear c3
  try clear c4
  try clear c4b0
  try clear c7
  try clear c7b0
  obtain ⟨kq, x22_1, rfl, HA, HJ1, BK123, HB⟩ := hcut
  cases kq with
  | zero => exact absurd HA.out (by simp [addr_Check.j0])
  | succ kj1 =>
   have H := HA.out
   clear HA
   simp only [addr_Check.j0] at H
   by_cases c12 : x22_1 = true
   ·subst c12
    have H1 : (some 2) = some r := by rw [if_pos rfl] at H; exact H
    clear H
    have H := H1
    clear H1
    obtain rfl := Option.some.inj H
    go_wp2
    go_ret
    exact ⟨eS, bw1 HB.out GE123.out⟩
   ·replace c12 := Bool.eq_false_iff.mpr c12
    subst c12
    have H1 : ((addr_host.f a0_0 a0_1 a0_2 a0_3).bind fun bt126 => (if (Go.bits .or .u64 (Go.bits .and .u64 a0_1 bt126.1) (Go.bits .and .u64 a0_2 bt126.2)) = 0 then (some 0) else (some 2))) = some r := by rw [if_neg (show ¬ (false = true) by decide)] at H; exact H
    clear H
    have H := H1
    clear H1
    replace H := Option.bind_eq_some_iff.mp H
    obtain ⟨⟨t126, t127⟩, A130, H⟩ := H
    replace H : (if (Go.bits .or .u64 (Go.bits .and .u64 a0_1 t126) (Go.bits .and .u64 a0_2 t127)) = 0 then (some 0) else (some 2)) = some r := H
    have A13 := Ax A130
    clear A130
    by_cases c14 : (Go.bits .or .u64 (Go.bits .and .u64 a0_1 t126) (Go.bits .and .u64 a0_2 t127)) = 0
    ·rw [if_pos c14] at H
     have c14b0 : ((Go.bits .or .u64 (Go.bits .and .u64 a0_1 t126) (Go.bits .and .u64 a0_2 t127)) == 0) = true := beq_iff_eq.mpr c14
     have c14b1 : ((Go.bits .or .u64 (Go.bits .and .u64 a0_1 t126) (Go.bits .and .u64 a0_2 t127)) != 0) = false := bne_eq_false_iff_eq.mpr c14
     clear c14
     obtain rfl := Option.some.inj H
     obtain ⟨hcz15_0, hcz15_1, hcz15_2, hcz15_3, hfz15_0, hfz15_1, hfz15_2, hfz15_3⟩ := cl4 BK123
     go_wp2_with (first | ((with_reducible refine gate_callee (f := 38) rfl ?_); refine goesL_ (some 24) rfl rfl Try.func38 (by kernel_rfl) rfl #[.agg #[.bool a0_0, .int .u64 a0_1, .int .u64 a0_2, .int .i64 a0_3]] rfl gS ?_; (with_reducible refine (addr_host.calls a0_0 a0_1 a0_2 a0_3 t126 t127 _ A13.out).mono ?_); rintro e w16 ⟨rfl, hb⟩; refine ⟨_, rfl, ?_⟩; replace BK123 := Bx0 BK123 hb; replace HB := Bs1 HB hb GE123.out; (try clear hb)) | ((with_reducible refine gate_dst (N := 3) rfl ?_); refine box_event ?hg (N := 3) ?hd (cs := #[.int .u64 0, .int .u64 0]) (t := 28) ?hr ?_; (case hd => rfl); (case hg => rfl); (case hr => first | (go_simp; done) | (go_simp; rfl)); intro gb128 hg w17 hbox hb; have n0_ := Bx0 BK123 hb; have n1_ := Bs1 HB hb GE123.out; have n2_ := Ax (hbox); have n3_ := Gw1 HB hg GE123.out; have n4_ := Gw1 HB hg GE123.out; have n5_ := Nl0 BK123 hg; have n6_ := Nr0 BK123 hg; clear BK123; clear HB; have BK123 := n0_; have HB := n1_; have BK128 := n2_; have GW128 := n3_; have GE128 := n4_; have NB123_128 := n5_; have NB128_123 := n6_; clear n0_ n1_ n2_ n3_ n4_ n5_ n6_; clear hb hbox hg; have hnb18 := NB128_123.out; have hnc18 := NB123_128.out; obtain ⟨hcz19_0, hcz19_1, hfz19_0, hfz19_1⟩ := cl2 BK128; obtain ⟨hcz20_0, hcz20_1, hcz20_2, hcz20_3, hfz20_0, hfz20_1, hfz20_2, hfz20_3⟩ := cl4 BK123))
     go_ret
     exact ⟨eS, bw2 HB.out GE123.out GE128.out⟩
    ·rw [if_neg c14] at H
     have c14b0 : ((Go.bits .or .u64 (Go.bits .and .u64 a0_1 t126) (Go.bits .and .u64 a0_2 t127)) == 0) = false := beq_eq_false_iff_ne.mpr c14
     have c14b1 : ((Go.bits .or .u64 (Go.bits .and .u64 a0_1 t126) (Go.bits .and .u64 a0_2 t127)) != 0) = true := bne_iff_ne.mpr c14
     obtain rfl := Option.some.inj H
     obtain ⟨hcz21_0, hcz21_1, hcz21_2, hcz21_3, hfz21_0, hfz21_1, hfz21_2, hfz21_3⟩ := cl4 BK123
     go_wp2_with (first | ((with_reducible refine gate_callee (f := 38) rfl ?_); refine goesL_ (some 24) rfl rfl Try.func38 (by kernel_rfl) rfl #[.agg #[.bool a0_0, .int .u64 a0_1, .int .u64 a0_2, .int .i64 a0_3]] rfl gS ?_; (with_reducible refine (addr_host.calls a0_0 a0_1 a0_2 a0_3 t126 t127 _ A13.out).mono ?_); rintro e w22 ⟨rfl, hb⟩; refine ⟨_, rfl, ?_⟩; replace BK123 := Bx0 BK123 hb; replace HB := Bs1 HB hb GE123.out; (try clear hb)) | ((with_reducible refine gate_dst (N := 3) rfl ?_); refine box_event ?hg (N := 3) ?hd (cs := #[.int .u64 0, .int .u64 0]) (t := 28) ?hr ?_; (case hd => rfl); (case hg => rfl); (case hr => first | (go_simp; done) | (go_simp; rfl)); intro gb128 hg w23 hbox hb; have n0_ := Bx0 BK123 hb; have n1_ := Bs1 HB hb GE123.out; have n2_ := Ax (hbox); have n3_ := Gw1 HB hg GE123.out; have n4_ := Gw1 HB hg GE123.out; have n5_ := Nl0 BK123 hg; have n6_ := Nr0 BK123 hg; clear BK123; clear HB; have BK123 := n0_; have HB := n1_; have BK128 := n2_; have GW128 := n3_; have GE128 := n4_; have NB123_128 := n5_; have NB128_123 := n6_; clear n0_ n1_ n2_ n3_ n4_ n5_ n6_; clear hb hbox hg; have hnb24 := NB128_123.out; have hnc24 := NB123_128.out; obtain ⟨hcz25_0, hcz25_1, hfz25_0, hfz25_1⟩ := cl2 BK128; obtain ⟨hcz26_0, hcz26_1, hcz26_2, hcz26_3, hfz26_0, hfz26_1, hfz26_2, hfz26_3⟩ := cl4 BK123))
     go_ret
     exact ⟨eS, bw2 HB.out GE123.out GE128.out⟩
mutual
def msg_Check.j0 : Nat → Bool → Int → Int → Int → Int → Bool → Int → Int → Int → Int → Int → Int → Int → Option (Int)
 | 0, _, _, _, _, _, _, _, _, _, _, _, _, _ => none
 | k + 1, x29, x130000, x130001, x130002, x130003, x130004, x130005, x130006, x130007, x130008, x130009, x130010, x130011 => if x29 = true then (some 2) else (if x130000 = 1 then (msg_Check.j1 k true x130000 (x130000 == 1) x130000 x130001 x130002 x130003 x130004 x130005 x130006 x130007 x130008 x130009 x130010 x130011 0 0 0 0 x130004 x130005 x130006 x130007 x130008 x130009 x130010 x130011) else (msg_Check.j1 k true x130000 (x130000 == 2) x130000 x130001 x130002 x130003 x130004 x130005 x130006 x130007 x130008 x130009 x130010 x130011 0 0 0 0 x130004 x130005 x130006 x130007 x130008 x130009 x130010 x130011))
def msg_Check.j1 : Nat → Bool → Int → Bool → Int → Int → Int → Int → Bool → Int → Int → Int → Int → Int → Int → Int → Int → Int → Int → Int → Bool → Int → Int → Int → Int → Int → Int → Int → Option (Int)
 | 0, _, _, _, _, _, _, _, _, _, _, _, _, _, _, _, _, _, _, _, _, _, _, _, _, _, _, _ => none
 | k + 1, x4, x36, x37, x130000, x130001, x130002, x130003, x130004, x130005, x130006, x130007, x130008, x130009, x130010, x130011, x132000, x132001, x132002, x132003, x132004, x132005, x132006, x132007, x132008, x132009, x132010, x132011 => if x37 = true then (if x4 = true then (if (!(x132000 == 0) || (!(x132001 == 0) || (!(x132002 == 0) || (!(x132003 == 0) || ((x132004 || ((!(x132005 == 0) || (!(x132006 == 0))) || (!(x132007 == 0)))) || ((!(x132008 == 0) || (!(x132009 == 0))) || (!(x132010 == 0) || (!(x132011 == 0))))))))) = true then (some 2) else (some 0)) else (some 2)) else (if x36 = 3 then ((msg_acts.f x130008 x130009).bind fun t133 => (if t133 = true then ((addr_Check.f k x130004 x130005 x130006 x130007).bind fun t134 => (if t134 = 0 then (if (!(x132000 == 0) || (!(x132001 == 0) || (!(x132002 == 0) || (!(x132003 == 0) || (!(x132010 == 0) || (!(x132011 == 0))))))) = true then (some 2) else (some 0)) else (some 2))) else (some 2))) else (if x36 = 4 then (if x4 = true then ((addr_Check.f k x130004 x130005 x130006 x130007).bind fun t137 => (if t137 = 0 then (if (!(x132000 == 0) || (!(x132001 == 0) || (!(x132002 == 0) || (!(x132003 == 0) || ((!(x132008 == 0) || (!(x132009 == 0))) || (!(x132010 == 0) || (!(x132011 == 0)))))))) = true then (some 2) else (some 0)) else (some 2))) else (some 2)) else (if x36 = 5 then ((msg_id.f x130011).bind fun t143 => (if t143 = true then ((msg_iface.f x130010).bind fun t144 => (if t144 = true then (if (!(x132000 == 0) || (!(x132001 == 0) || (!(x132002 == 0) || (!(x132003 == 0) || ((x132004 || ((!(x132005 == 0) || (!(x132006 == 0))) || (!(x132007 == 0)))) || ((!(x132008 == 0) || (!(x132009 == 0))))))))) = true then (some 2) else (some 0)) else (some 2))) else (some 2))) else (if x36 = 6 then (if x4 = true then ((msg_iface.f x130010).bind fun t140 => (if t140 = true then (if (!(x132000 == 0) || (!(x132001 == 0) || (!(x132002 == 0) || (!(x132003 == 0) || ((x132004 || ((!(x132005 == 0) || (!(x132006 == 0))) || (!(x132007 == 0)))) || ((!(x132008 == 0) || (!(x132009 == 0))) || (!(x132011 == 0)))))))) = true then (some 2) else (some 0)) else (some 2))) else (some 2)) else (some 2)))))
end
def msg_Check.f (k : Nat) (a0_0 : Int) (a0_1 : Int) (a0_2 : Int) (a0_3 : Int) (a0_4 : Bool) (a0_5 : Int) (a0_6 : Int) (a0_7 : Int) (a0_8 : Int) (a0_9 : Int) (a0_10 : Int) (a0_11 : Int) : Option (Int) := (msg_id.f a0_1).bind fun t130 => (if t130 = true then (if a0_2 = 0 then (msg_Check.j0 k true a0_0 a0_1 a0_2 a0_3 a0_4 a0_5 a0_6 a0_7 a0_8 a0_9 a0_10 a0_11) else (if a0_2 > 1099511627776 then (msg_Check.j0 k true a0_0 a0_1 a0_2 a0_3 a0_4 a0_5 a0_6 a0_7 a0_8 a0_9 a0_10 a0_11) else (if a0_3 < 0 then (msg_Check.j0 k true a0_0 a0_1 a0_2 a0_3 a0_4 a0_5 a0_6 a0_7 a0_8 a0_9 a0_10 a0_11) else (msg_Check.j0 k (decide (a0_3 > 1099511627776)) a0_0 a0_1 a0_2 a0_3 a0_4 a0_5 a0_6 a0_7 a0_8 a0_9 a0_10 a0_11)))) else (msg_Check.j0 k true a0_0 a0_1 a0_2 a0_3 a0_4 a0_5 a0_6 a0_7 a0_8 a0_9 a0_10 a0_11))
set_option maxHeartbeats 8000000 in
set_option maxRecDepth 100000 in
theorem msg_Check.calls (k : Nat) (a0_0 : Int) (a0_1 : Int) (a0_2 : Int) (a0_3 : Int) (a0_4 : Bool) (a0_5 : Int) (a0_6 : Int) (a0_7 : Int) (a0_8 : Int) (a0_9 : Int) (a0_10 : Int) (a0_11 : Int) (r : Int) (w : World) (h : msg_Check.f k a0_0 a0_1 a0_2 a0_3 a0_4 a0_5 a0_6 a0_7 a0_8 a0_9 a0_10 a0_11 = some r) :
  Calls Try.prog 12 #[.agg #[.int .u8 a0_0, .int .i64 a0_1, .int .u64 a0_2, .int .i64 a0_3, .bool a0_4, .int .u64 a0_5, .int .u64 a0_6, .int .i64 a0_7, .int .u8 a0_8, .int .i64 a0_9, .int .i64 a0_10, .int .i64 a0_11]] w fun e w' => e = .returned (.int .i64 r) ∧ Below w.heap.size w w' := by
 have hu35 := Try.underlying35
 have hu33 := Try.underlying33
 have hu30 := Try.underlying30
 have HB := Ax (Below.refl w.heap.size w)
 have H : ((msg_id.f a0_1).bind fun t130 => (if t130 = true then (if a0_2 = 0 then (msg_Check.j0 k true a0_0 a0_1 a0_2 a0_3 a0_4 a0_5 a0_6 a0_7 a0_8 a0_9 a0_10 a0_11) else (if a0_2 > 1099511627776 then (msg_Check.j0 k true a0_0 a0_1 a0_2 a0_3 a0_4 a0_5 a0_6 a0_7 a0_8 a0_9 a0_10 a0_11) else (if a0_3 < 0 then (msg_Check.j0 k true a0_0 a0_1 a0_2 a0_3 a0_4 a0_5 a0_6 a0_7 a0_8 a0_9 a0_10 a0_11) else (msg_Check.j0 k (decide (a0_3 > 1099511627776)) a0_0 a0_1 a0_2 a0_3 a0_4 a0_5 a0_6 a0_7 a0_8 a0_9 a0_10 a0_11)))) else (msg_Check.j0 k true a0_0 a0_1 a0_2 a0_3 a0_4 a0_5 a0_6 a0_7 a0_8 a0_9 a0_10 a0_11))) = some r := h
 clear h
 have HC2 := Ax H
 clear H
 go_enter Try.func12, Try.ntmps12
 go_upto_region 1 with (first | ((with_reducible refine gate_dst (N := 1) rfl ?_); refine box_event ?hg (N := 1) ?hd (cs := #[.int .u8 a0_0, .int .i64 a0_1, .int .u64 a0_2, .int .i64 a0_3, .bool a0_4, .int .u64 a0_5, .int .u64 a0_6, .int .i64 a0_7, .int .u8 a0_8, .int .i64 a0_9, .int .i64 a0_10, .int .i64 a0_11]) (t := 35) ?hr ?_; (case hd => rfl); (case hg => rfl); (case hr => first | (go_simp; done) | (go_simp; rfl)); intro gb129 hg w3 hbox hb; have n0_ := Bs0 HB hb; have n1_ := Ax (hbox); have n2_ := Gw0 HB hg; have n3_ := Gw0 HB hg; clear HB; have HB := n0_; have BK129 := n1_; have GW129 := n2_; have GE129 := n3_; clear n0_ n1_ n2_ n3_; clear hb hbox hg))
 (try simp only [Act.put, List.setIfInBounds_toArray, List.set_cons_zero, List.set_cons_succ])
 go_cut [29] (fun v29 wc => ∃ (kq : Nat) (x29_1 : Bool), v29 = .bool x29_1 ∧ Aside0 (msg_Check.j0 kq x29_1 a0_0 a0_1 a0_2 a0_3 a0_4 a0_5 a0_6 a0_7 a0_8 a0_9 a0_10 a0_11 = some r) ∧ Aside0 (kq ≤ k) ∧ Aside0 (wc.heap[gb129]? = some (.cells #[.int .u8 a0_0, .int .i64 a0_1, .int .u64 a0_2, .int .i64 a0_3, .bool a0_4, .int .u64 a0_5, .int .u64 a0_6, .int .i64 a0_7, .int .u8 a0_8, .int .i64 a0_9, .int .i64 a0_10, .int .i64 a0_11] 35 (0, 0))) ∧ Aside0 (Below w.heap.size w wc))
 case first =>
  have H := HC2.out
  clear HC2
  replace H := Option.bind_eq_some_iff.mp H
  obtain ⟨t130, A40, H⟩ := H
  replace H : (if t130 = true then (if a0_2 = 0 then (msg_Check.j0 k true a0_0 a0_1 a0_2 a0_3 a0_4 a0_5 a0_6 a0_7 a0_8 a0_9 a0_10 a0_11) else (if a0_2 > 1099511627776 then (msg_Check.j0 k true a0_0 a0_1 a0_2 a0_3 a0_4 a0_5 a0_6 a0_7 a0_8 a0_9 a0_10 a0_11) else (if a0_3 < 0 then (msg_Check.j0 k true a0_0 a0_1 a0_2 a0_3 a0_4 a0_5 a0_6 a0_7 a0_8 a0_9 a0_10 a0_11) else (msg_Check.j0 k (decide (a0_3 > 1099511627776)) a0_0 a0_1 a0_2 a0_3 a0_4 a0_5 a0_6 a0_7 a0_8 a0_9 a0_10 a0_11)))) else (msg_Check.j0 k true a0_0 a0_1 a0_2 a0_3 a0_4 a0_5 a0_6 a0_7 a0_8 a0_9 a0_10 a0_11)) = some r := H
  have A4 := Ax A40
  clear A40
  by_cases c5 : t130 = true
  ·subst c5
   have H1 : (if a0_2 = 0 then (msg_Check.j0 k true a0_0 a0_1 a0_2 a0_3 a0_4 a0_5 a0_6 a0_7 a0_8 a0_9 a0_10 a0_11) else (if a0_2 > 1099511627776 then (msg_Check.j0 k true a0_0 a0_1 a0_2 a0_3 a0_4 a0_5 a0_6 a0_7 a0_8 a0_9 a0_10 a0_11) else (if a0_3 < 0 then (msg_Check.j0 k true a0_0 a0_1 a0_2 a0_3 a0_4 a0_5 a0_6 a0_7 a0_8 a0_9 a0_10 a0_11) else (msg_Check.j0 k (decide (a0_3 > 1099511627776)) a0_0 a0_1 a0_2 a0_3 a0_4 a0_5 a0_6 a0_7 a0_8 a0_9 a0_10 a0_11)))) = some r := by rw [if_pos rfl] at H; exact H
   clear H
   have H := H1
   clear H1
   by_cases c6 : a0_2 = 0
   ·rw [if_pos c6] at H
    have c6b0 : (a0_2 == 0) = true := beq_iff_eq.mpr c6
    have c6b1 : (a0_2 != 0) = false := bne_eq_false_iff_eq.mpr c6
    clear c6
    (first | rw [c6b0] | (simp only [i64_w, i32_w]; rw [c6b0]) | skip)
    have H' := Ax H
    clear H
    obtain ⟨hcz7_0, hcz7_1, hcz7_2, hcz7_3, hcz7_4, hcz7_5, hcz7_6, hcz7_7, hcz7_8, hcz7_9, hcz7_10, hcz7_11, hfz7_0, hfz7_1, hfz7_2, hfz7_3, hfz7_4, hfz7_5, hfz7_6, hfz7_7, hfz7_8, hfz7_9, hfz7_10, hfz7_11⟩ := cl12 BK129
    go_wp2_with (first | ((with_reducible refine gate_callee (f := 28) rfl ?_); refine goesL_ (some 8) rfl rfl Try.func28 (by kernel_rfl) rfl #[.int .i64 a0_1] rfl gS ?_; (with_reducible refine (msg_id.calls a0_1 true _ A4.out).mono ?_); rintro e w' ⟨rfl, ⟨nd, rfl⟩⟩; refine ⟨_, rfl, ?_⟩))
    go_meet
    case rel => exact ⟨_, (true), rS, H', ⟨by first | omega | exact Nat.le_refl _⟩, ⟨bf0 BK129.out⟩, ⟨bw1 HB.out GE129.out⟩⟩
   ·rw [if_neg c6] at H
    have c6b0 : (a0_2 == 0) = false := beq_eq_false_iff_ne.mpr c6
    have c6b1 : (a0_2 != 0) = true := bne_iff_ne.mpr c6
    (first | rw [c6b0] | (simp only [i64_w, i32_w]; rw [c6b0]) | skip)
    by_cases c8 : a0_2 > 1099511627776
    ·rw [if_pos c8] at H
     have c8b0 : decide (1099511627776 < a0_2) = true := decide_eq_true c8
     clear c8
     have H' := Ax H
     clear H
     obtain ⟨hcz9_0, hcz9_1, hcz9_2, hcz9_3, hcz9_4, hcz9_5, hcz9_6, hcz9_7, hcz9_8, hcz9_9, hcz9_10, hcz9_11, hfz9_0, hfz9_1, hfz9_2, hfz9_3, hfz9_4, hfz9_5, hfz9_6, hfz9_7, hfz9_8, hfz9_9, hfz9_10, hfz9_11⟩ := cl12 BK129
     go_wp2_with (first | ((with_reducible refine gate_callee (f := 28) rfl ?_); refine goesL_ (some 8) rfl rfl Try.func28 (by kernel_rfl) rfl #[.int .i64 a0_1] rfl gS ?_; (with_reducible refine (msg_id.calls a0_1 true _ A4.out).mono ?_); rintro e w' ⟨rfl, ⟨nd, rfl⟩⟩; refine ⟨_, rfl, ?_⟩))
     go_meet
     case rel => exact ⟨_, (true), rS, H', ⟨by first | omega | exact Nat.le_refl _⟩, ⟨bf0 BK129.out⟩, ⟨bw1 HB.out GE129.out⟩⟩
    ·rw [if_neg c8] at H
     have c8b0 : decide (1099511627776 < a0_2) = false := decide_eq_false c8
     clear c8
     by_cases c10 : a0_3 < 0
     ·rw [if_pos c10] at H
      have c10b0 : decide (a0_3 < 0) = true := decide_eq_true c10
      clear c10
      have H' := Ax H
      clear H
      obtain ⟨hcz11_0, hcz11_1, hcz11_2, hcz11_3, hcz11_4, hcz11_5, hcz11_6, hcz11_7, hcz11_8, hcz11_9, hcz11_10, hcz11_11, hfz11_0, hfz11_1, hfz11_2, hfz11_3, hfz11_4, hfz11_5, hfz11_6, hfz11_7, hfz11_8, hfz11_9, hfz11_10, hfz11_11⟩ := cl12 BK129
      go_wp2_with (first | ((with_reducible refine gate_callee (f := 28) rfl ?_); refine goesL_ (some 8) rfl rfl Try.func28 (by kernel_rfl) rfl #[.int .i64 a0_1] rfl gS ?_; (with_reducible refine (msg_id.calls a0_1 true _ A4.out).mono ?_); rintro e w' ⟨rfl, ⟨nd, rfl⟩⟩; refine ⟨_, rfl, ?_⟩))
      go_meet
      case rel => exact ⟨_, (true), rS, H', ⟨by first | omega | exact Nat.le_refl _⟩, ⟨bf0 BK129.out⟩, ⟨bw1 HB.out GE129.out⟩⟩
     ·rw [if_neg c10] at H
      have c10b0 : decide (a0_3 < 0) = false := decide_eq_false c10
      clear c10
      have H' := Ax H
      clear H
      obtain ⟨hcz12_0, hcz12_1, hcz12_2, hcz12_3, hcz12_4, hcz12_5, hcz12_6, hcz12_7, hcz12_8, hcz12_9, hcz12_10, hcz12_11, hfz12_0, hfz12_1, hfz12_2, hfz12_3, hfz12_4, hfz12_5, hfz12_6, hfz12_7, hfz12_8, hfz12_9, hfz12_10, hfz12_11⟩ := cl12 BK129
      go_wp2_with (first | ((with_reducible refine gate_callee (f := 28) rfl ?_); refine goesL_ (some 8) rfl rfl Try.func28 (by kernel_rfl) rfl #[.int .i64 a0_1] rfl gS ?_; (with_reducible refine (msg_id.calls a0_1 true _ A4.out).mono ?_); rintro e w' ⟨rfl, ⟨nd, rfl⟩⟩; refine ⟨_, rfl, ?_⟩))
      go_meet
      case rel => exact ⟨_, (decide (a0_3 > 1099511627776)), rS, H', ⟨by first | omega | exact Nat.le_refl _⟩, ⟨bf0 BK129.out⟩, ⟨bw1 HB.out GE129.out⟩⟩
  ·replace c5 := Bool.eq_false_iff.mpr c5
   subst c5
   have H1 : (msg_Check.j0 k true a0_0 a0_1 a0_2 a0_3 a0_4 a0_5 a0_6 a0_7 a0_8 a0_9 a0_10 a0_11) = some r := by rw [if_neg (show ¬ (false = true) by decide)] at H; exact H
   clear H
   have H := H1
   clear H1
   have H' := Ax H
   clear H
   obtain ⟨hcz13_0, hcz13_1, hcz13_2, hcz13_3, hcz13_4, hcz13_5, hcz13_6, hcz13_7, hcz13_8, hcz13_9, hcz13_10, hcz13_11, hfz13_0, hfz13_1, hfz13_2, hfz13_3, hfz13_4, hfz13_5, hfz13_6, hfz13_7, hfz13_8, hfz13_9, hfz13_10, hfz13_11⟩ := cl12 BK129
   go_wp2_with (first | ((with_reducible refine gate_callee (f := 28) rfl ?_); refine goesL_ (some 8) rfl rfl Try.func28 (by kernel_rfl) rfl #[.int .i64 a0_1] rfl gS ?_; (with_reducible refine (msg_id.calls a0_1 false _ A4.out).mono ?_); rintro e w' ⟨rfl, ⟨nd, rfl⟩⟩; refine ⟨_, rfl, ?_⟩))
   go_meet
   case rel => exact ⟨_, (true), rS, H', ⟨by first | omega | exact Nat.le_refl _⟩, ⟨bf0 BK129.out⟩, ⟨bw1 HB.out GE129.out⟩⟩
 case rest =>
  clear HC2
  try clear c1
  try clear c2
  try clear p2
  try clear c5
  try clear c6
  try clear c6b0
  try clear c6b1
  try clear c8
  try clear c8b0
  try clear c10
  try clear c10b0
  try clear c12
  try clear hcz11_0
  try clear hcz11_1
  try clear hcz11_10
  try clear hcz11_11
  try clear hcz11_2
  try clear hcz11_3
  try clear hcz11_4
  try clear hcz11_5
  try clear hcz11_6
  try clear hcz11_7
  try clear hcz11_8
  try clear hcz11_9
  try clear hcz12_0
  try clear hcz12_1
  try clear hcz12_10
  try clear hcz12_11
  try clear hcz12_2
  try clear hcz12_3
  try clear hcz12_4
  try clear hcz12_5
  try clear hcz12_6
  try clear hcz12_7
  try clear hcz12_8
  try clear hcz12_9
  try clear hcz13_0
  try clear hcz13_1
  try clear hcz13_10
  try clear hcz13_11
  try clear hcz13_2
  try clear hcz13_3
  try clear hcz13_4
  try clear hcz13_5
  try clear hcz13_6
  try clear hcz13_7
  try clear hcz13_8
  try clear hcz13_9
  try clear hcz7_0
  try clear hcz7_1
  try clear hcz7_10
  try clear hcz7_11
  try clear hcz7_2
  try clear hcz7_3
  try clear hcz7_4
  try clear hcz7_5
  try clear hcz7_6
  try clear hcz7_7
  try clear hcz7_8
  try clear hcz7_9
  try clear hcz9_0
  try clear hcz9_1
  try clear hcz9_10
  try clear hcz9_11
  try clear hcz9_2
  try clear hcz9_3
  try clear hcz9_4
  try clear hcz9_5
  try clear hcz9_6
  try clear hcz9_7
  try clear hcz9_8
  try clear hcz9_9
  try clear hfz11_0
  try clear hfz11_1
  try clear hfz11_10
  try clear hfz11_11
  try clear hfz11_2
  try clear hfz11_3
  try clear hfz11_4
  try clear hfz11_5
  try clear hfz11_6
  try clear hfz11_7
  try clear hfz11_8
  try clear hfz11_9
  try clear hfz12_0
  try clear hfz12_1
  try clear hfz12_10
  try clear hfz12_11
  try clear hfz12_2
  try clear hfz12_3
  try clear hfz12_4
  try clear hfz12_5
  try clear hfz12_6
  try clear hfz12_7
  try clear hfz12_8
  try clear hfz12_9
  try clear hfz13_0
  try clear hfz13_1
  try clear hfz13_10
  try clear hfz13_11
  try clear hfz13_2
  try clear hfz13_3
  try clear hfz13_4
  try clear hfz13_5
  try clear hfz13_6
  try clear hfz13_7
  try clear hfz13_8
  try clear hfz13_9
  try clear hfz7_0
  try clear hfz7_1
  try clear hfz7_10
  try clear hfz7_11
  try clear hfz7_2
  try clear hfz7_3
  try clear hfz7_4
  try clear hfz7_5
  try clear hfz7_6
  try clear hfz7_7
  try clear hfz7_8
  try clear hfz7_9
  try clear hfz9_0
  try clear hfz9_1
  try clear hfz9_10
  try clear hfz9_11
  try clear hfz9_2
  try clear hfz9_3
  try clear hfz9_4
  try clear hfz9_5
  try clear hfz9_6
  try clear hfz9_7
  try clear hfz9_8
  try clear hfz9_9
  obtain ⟨kq, x29_1, rfl, HA, HJ1, BK129, HB⟩ := hcut
  cases kq with
  | zero => exact absurd HA.out (by simp [msg_Check.j0])
  | succ kj1 =>
   have H := HA.out
   clear HA
   simp only [msg_Check.j0] at H
   by_cases c14 : x29_1 = true
   ·subst c14
    have H1 : (some 2) = some r := by rw [if_pos rfl] at H; exact H
    clear H
    have H := H1
    clear H1
    obtain rfl := Option.some.inj H
    go_wp2
    go_ret
    exact ⟨eS, bw1 HB.out GE129.out⟩
   ·replace c14 := Bool.eq_false_iff.mpr c14
    subst c14
    have H1 : (if a0_0 = 1 then (msg_Check.j1 kj1 true a0_0 (a0_0 == 1) a0_0 a0_1 a0_2 a0_3 a0_4 a0_5 a0_6 a0_7 a0_8 a0_9 a0_10 a0_11 0 0 0 0 a0_4 a0_5 a0_6 a0_7 a0_8 a0_9 a0_10 a0_11) else (msg_Check.j1 kj1 true a0_0 (a0_0 == 2) a0_0 a0_1 a0_2 a0_3 a0_4 a0_5 a0_6 a0_7 a0_8 a0_9 a0_10 a0_11 0 0 0 0 a0_4 a0_5 a0_6 a0_7 a0_8 a0_9 a0_10 a0_11)) = some r := by rw [if_neg (show ¬ (false = true) by decide)] at H; exact H
    clear H
    have H := H1
    clear H1
    have HC15 := Ax H
    clear H
    obtain ⟨hcz16_0, hcz16_1, hcz16_2, hcz16_3, hcz16_4, hcz16_5, hcz16_6, hcz16_7, hcz16_8, hcz16_9, hcz16_10, hcz16_11, hfz16_0, hfz16_1, hfz16_2, hfz16_3, hfz16_4, hfz16_5, hfz16_6, hfz16_7, hfz16_8, hfz16_9, hfz16_10, hfz16_11⟩ := cl12 BK129
    go_upto_if 37 with (first | ((with_reducible refine gate_dst (N := 3) rfl ?_); refine box_event ?hg (N := 3) ?hd (cs := #[.int .u8 0, .int .i64 0, .int .u64 0, .int .i64 0, .bool false, .int .u64 0, .int .u64 0, .int .i64 0, .int .u8 0, .int .i64 0, .int .i64 0, .int .i64 0]) (t := 35) ?hr ?_; (case hd => rfl); (case hg => rfl); (case hr => first | (go_simp; done) | (go_simp; rfl)); intro gb131 hg w17 hbox hb; have n0_ := Bx0 BK129 hb; have n1_ := Bs1 HB hb GE129.out; have n2_ := Ax (hbox); have n3_ := Gw1 HB hg GE129.out; have n4_ := Gw1 HB hg GE129.out; have n5_ := Nl0 BK129 hg; have n6_ := Nr0 BK129 hg; clear BK129; clear HB; have BK129 := n0_; have HB := n1_; have BK131 := n2_; have GW131 := n3_; have GE131 := n4_; have NB129_131 := n5_; have NB131_129 := n6_; clear n0_ n1_ n2_ n3_ n4_ n5_ n6_; clear hb hbox hg; have hnb18 := NB131_129.out; have hnc18 := NB129_131.out; obtain ⟨hcz19_0, hcz19_1, hcz19_2, hcz19_3, hcz19_4, hcz19_5, hcz19_6, hcz19_7, hcz19_8, hcz19_9, hcz19_10, hcz19_11, hfz19_0, hfz19_1, hfz19_2, hfz19_3, hfz19_4, hfz19_5, hfz19_6, hfz19_7, hfz19_8, hfz19_9, hfz19_10, hfz19_11⟩ := cl12 BK131; obtain ⟨hcz20_0, hcz20_1, hcz20_2, hcz20_3, hcz20_4, hcz20_5, hcz20_6, hcz20_7, hcz20_8, hcz20_9, hcz20_10, hcz20_11, hfz20_0, hfz20_1, hfz20_2, hfz20_3, hfz20_4, hfz20_5, hfz20_6, hfz20_7, hfz20_8, hfz20_9, hfz20_10, hfz20_11⟩ := cl12 BK129))
    (try simp only [Act.put, List.setIfInBounds_toArray, List.set_cons_zero, List.set_cons_succ])
    go_cut [37] (fun v37 wc => ∃ (kq : Nat) (x37_14 : Bool), v37 = .bool x37_14 ∧ Aside0 (msg_Check.j1 kq true a0_0 x37_14 a0_0 a0_1 a0_2 a0_3 a0_4 a0_5 a0_6 a0_7 a0_8 a0_9 a0_10 a0_11 0 0 0 0 a0_4 a0_5 a0_6 a0_7 a0_8 a0_9 a0_10 a0_11 = some r) ∧ Aside0 (kq ≤ kj1) ∧ Aside0 (wc.heap[gb129]? = some (.cells #[.int .u8 a0_0, .int .i64 a0_1, .int .u64 a0_2, .int .i64 a0_3, .bool a0_4, .int .u64 a0_5, .int .u64 a0_6, .int .i64 a0_7, .int .u8 a0_8, .int .i64 a0_9, .int .i64 a0_10, .int .i64 a0_11] 35 (0, 0))) ∧ Aside0 (wc.heap[gb131]? = some (.cells #[.int .u8 0, .int .i64 0, .int .u64 0, .int .i64 0, .bool a0_4, .int .u64 a0_5, .int .u64 a0_6, .int .i64 a0_7, .int .u8 a0_8, .int .i64 a0_9, .int .i64 a0_10, .int .i64 a0_11] 35 (0, 0))) ∧ Aside0 (Below w.heap.size w wc))
    case first =>
     have H := HC15.out
     clear HC15
     by_cases c21 : a0_0 = 1
     ·rw [if_pos c21] at H
      have c21b0 : (a0_0 == 1) = true := beq_iff_eq.mpr c21
      have c21b1 : (a0_0 != 1) = false := bne_eq_false_iff_eq.mpr c21
      clear c21
      (first | rw [c21b0] | (simp only [i64_w, i32_w]; rw [c21b0]) | skip)
      have H' := Ax H
      clear H
      go_wp2
      go_meet
      case rel => exact ⟨_, ((a0_0 == 1)), rS, H', ⟨by have := HJ1.out; first | omega | exact Nat.le_refl _⟩, ⟨by (with_reducible repeat (first | refine blk_drewN ?_ _ | refine blk_drew ?_ | refine blk_alloc ?_ _)); refine blk_far ?_ NB129_131.out _; (with_reducible repeat (first | refine blk_drewN ?_ _ | refine blk_drew ?_ | refine blk_alloc ?_ _)); refine blk_far ?_ NB129_131.out _; (with_reducible repeat (first | refine blk_drewN ?_ _ | refine blk_drew ?_ | refine blk_alloc ?_ _)); refine blk_far ?_ NB129_131.out _; (with_reducible repeat (first | refine blk_drewN ?_ _ | refine blk_drew ?_ | refine blk_alloc ?_ _)); refine blk_far ?_ NB129_131.out _; (with_reducible repeat (first | refine blk_drewN ?_ _ | refine blk_drew ?_ | refine blk_alloc ?_ _)); refine blk_far ?_ NB129_131.out _; (with_reducible repeat (first | refine blk_drewN ?_ _ | refine blk_drew ?_ | refine blk_alloc ?_ _)); refine blk_far ?_ NB129_131.out _; (with_reducible repeat (first | refine blk_drewN ?_ _ | refine blk_drew ?_ | refine blk_alloc ?_ _)); refine blk_far ?_ NB129_131.out _; (with_reducible repeat (first | refine blk_drewN ?_ _ | refine blk_drew ?_ | refine blk_alloc ?_ _)); refine blk_far ?_ NB129_131.out _; (with_reducible repeat (first | refine blk_drewN ?_ _ | refine blk_drew ?_ | refine blk_alloc ?_ _)); refine blk_far ?_ NB129_131.out _; (with_reducible repeat (first | refine blk_drewN ?_ _ | refine blk_drew ?_ | refine blk_alloc ?_ _)); refine blk_far ?_ NB129_131.out _; (with_reducible repeat (first | refine blk_drewN ?_ _ | refine blk_drew ?_ | refine blk_alloc ?_ _)); refine blk_far ?_ NB129_131.out _; (with_reducible repeat (first | refine blk_drewN ?_ _ | refine blk_drew ?_ | refine blk_alloc ?_ _)); refine blk_far ?_ NB129_131.out _; (with_reducible repeat (first | refine blk_drewN ?_ _ | refine blk_drew ?_ | refine blk_alloc ?_ _)); refine blk_far ?_ NB129_131.out _; (with_reducible repeat (first | refine blk_drewN ?_ _ | refine blk_drew ?_ | refine blk_alloc ?_ _)); refine blk_far ?_ NB129_131.out _; (with_reducible repeat (first | refine blk_drewN ?_ _ | refine blk_drew ?_ | refine blk_alloc ?_ _)); refine blk_far ?_ NB129_131.out _; (with_reducible repeat (first | refine blk_drewN ?_ _ | refine blk_drew ?_ | refine blk_alloc ?_ _)); refine blk_far ?_ NB129_131.out _; (with_reducible repeat (first | refine blk_drewN ?_ _ | refine blk_drew ?_ | refine blk_alloc ?_ _)); exact BK129.out⟩, ⟨by (with_reducible repeat (first | refine blk_drewN ?_ _ | refine blk_drew ?_ | refine blk_alloc ?_ _)); refine blk_put (cs := #[.int .u8 a0_0, .int .i64 0, .int .u64 0, .int .i64 0, .bool a0_4, .int .u64 a0_5, .int .u64 a0_6, .int .i64 a0_7, .int .u8 a0_8, .int .i64 a0_9, .int .i64 a0_10, .int .i64 a0_11]) ?_ 0 _ rfl; (with_reducible repeat (first | refine blk_drewN ?_ _ | refine blk_drew ?_ | refine blk_alloc ?_ _)); refine blk_put (cs := #[.int .u8 a0_0, .int .i64 0, .int .u64 0, .int .i64 a0_3, .bool a0_4, .int .u64 a0_5, .int .u64 a0_6, .int .i64 a0_7, .int .u8 a0_8, .int .i64 a0_9, .int .i64 a0_10, .int .i64 a0_11]) ?_ 3 _ rfl; (with_reducible repeat (first | refine blk_drewN ?_ _ | refine blk_drew ?_ | refine blk_alloc ?_ _)); refine blk_put (cs := #[.int .u8 a0_0, .int .i64 0, .int .u64 a0_2, .int .i64 a0_3, .bool a0_4, .int .u64 a0_5, .int .u64 a0_6, .int .i64 a0_7, .int .u8 a0_8, .int .i64 a0_9, .int .i64 a0_10, .int .i64 a0_11]) ?_ 2 _ rfl; (with_reducible repeat (first | refine blk_drewN ?_ _ | refine blk_drew ?_ | refine blk_alloc ?_ _)); refine blk_put (cs := #[.int .u8 a0_0, .int .i64 a0_1, .int .u64 a0_2, .int .i64 a0_3, .bool a0_4, .int .u64 a0_5, .int .u64 a0_6, .int .i64 a0_7, .int .u8 a0_8, .int .i64 a0_9, .int .i64 a0_10, .int .i64 a0_11]) ?_ 1 _ rfl; (with_reducible repeat (first | refine blk_drewN ?_ _ | refine blk_drew ?_ | refine blk_alloc ?_ _)); refine blk_put (cs := #[.int .u8 a0_0, .int .i64 a0_1, .int .u64 a0_2, .int .i64 a0_3, .bool a0_4, .int .u64 a0_5, .int .u64 a0_6, .int .i64 a0_7, .int .u8 a0_8, .int .i64 a0_9, .int .i64 a0_10, .int .i64 0]) ?_ 11 _ rfl; (with_reducible repeat (first | refine blk_drewN ?_ _ | refine blk_drew ?_ | refine blk_alloc ?_ _)); refine blk_put (cs := #[.int .u8 a0_0, .int .i64 a0_1, .int .u64 a0_2, .int .i64 a0_3, .bool a0_4, .int .u64 a0_5, .int .u64 a0_6, .int .i64 a0_7, .int .u8 a0_8, .int .i64 a0_9, .int .i64 0, .int .i64 0]) ?_ 10 _ rfl; (with_reducible repeat (first | refine blk_drewN ?_ _ | refine blk_drew ?_ | refine blk_alloc ?_ _)); refine blk_put (cs := #[.int .u8 a0_0, .int .i64 a0_1, .int .u64 a0_2, .int .i64 a0_3, .bool a0_4, .int .u64 a0_5, .int .u64 a0_6, .int .i64 a0_7, .int .u8 a0_8, .int .i64 0, .int .i64 0, .int .i64 0]) ?_ 9 _ rfl; (with_reducible repeat (first | refine blk_drewN ?_ _ | refine blk_drew ?_ | refine blk_alloc ?_ _)); refine blk_put (cs := #[.int .u8 a0_0, .int .i64 a0_1, .int .u64 a0_2, .int .i64 a0_3, .bool a0_4, .int .u64 a0_5, .int .u64 a0_6, .int .i64 a0_7, .int .u8 0, .int .i64 0, .int .i64 0, .int .i64 0]) ?_ 8 _ rfl; (with_reducible repeat (first | refine blk_drewN ?_ _ | refine blk_drew ?_ | refine blk_alloc ?_ _)); refine blk_put (cs := #[.int .u8 a0_0, .int .i64 a0_1, .int .u64 a0_2, .int .i64 a0_3, .bool a0_4, .int .u64 a0_5, .int .u64 a0_6, .int .i64 0, .int .u8 0, .int .i64 0, .int .i64 0, .int .i64 0]) ?_ 7 _ rfl; (with_reducible repeat (first | refine blk_drewN ?_ _ | refine blk_drew ?_ | refine blk_alloc ?_ _)); refine blk_put (cs := #[.int .u8 a0_0, .int .i64 a0_1, .int .u64 a0_2, .int .i64 a0_3, .bool a0_4, .int .u64 a0_5, .int .u64 0, .int .i64 0, .int .u8 0, .int .i64 0, .int .i64 0, .int .i64 0]) ?_ 6 _ rfl; (with_reducible repeat (first | refine blk_drewN ?_ _ | refine blk_drew ?_ | refine blk_alloc ?_ _)); refine blk_put (cs := #[.int .u8 a0_0, .int .i64 a0_1, .int .u64 a0_2, .int .i64 a0_3, .bool a0_4, .int .u64 0, .int .u64 0, .int .i64 0, .int .u8 0, .int .i64 0, .int .i64 0, .int .i64 0]) ?_ 5 _ rfl; (with_reducible repeat (first | refine blk_drewN ?_ _ | refine blk_drew ?_ | refine blk_alloc ?_ _)); refine blk_put (cs := #[.int .u8 a0_0, .int .i64 a0_1, .int .u64 a0_2, .int .i64 a0_3, .bool false, .int .u64 0, .int .u64 0, .int .i64 0, .int .u8 0, .int .i64 0, .int .i64 0, .int .i64 0]) ?_ 4 _ rfl; (with_reducible repeat (first | refine blk_drewN ?_ _ | refine blk_drew ?_ | refine blk_alloc ?_ _)); refine blk_put (cs := #[.int .u8 a0_0, .int .i64 a0_1, .int .u64 a0_2, .int .i64 0, .bool false, .int .u64 0, .int .u64 0, .int .i64 0, .int .u8 0, .int .i64 0, .int .i64 0, .int .i64 0]) ?_ 3 _ rfl; (with_reducible repeat (first | refine blk_drewN ?_ _ | refine blk_drew ?_ | refine blk_alloc ?_ _)); refine blk_put (cs := #[.int .u8 a0_0, .int .i64 a0_1, .int .u64 0, .int .i64 0, .bool false, .int .u64 0, .int .u64 0, .int .i64 0, .int .u8 0, .int .i64 0, .int .i64 0, .int .i64 0]) ?_ 2 _ rfl; (with_reducible repeat (first | refine blk_drewN ?_ _ | refine blk_drew ?_ | refine blk_alloc ?_ _)); refine blk_put (cs := #[.int .u8 a0_0, .int .i64 0, .int .u64 0, .int .i64 0, .bool false, .int .u64 0, .int .u64 0, .int .i64 0, .int .u8 0, .int .i64 0, .int .i64 0, .int .i64 0]) ?_ 1 _ rfl; (with_reducible repeat (first | refine blk_drewN ?_ _ | refine blk_drew ?_ | refine blk_alloc ?_ _)); refine blk_put (cs := #[.int .u8 0, .int .i64 0, .int .u64 0, .int .i64 0, .bool false, .int .u64 0, .int .u64 0, .int .i64 0, .int .u8 0, .int .i64 0, .int .i64 0, .int .i64 0]) ?_ 0 _ rfl; (with_reducible repeat (first | refine blk_drewN ?_ _ | refine blk_drew ?_ | refine blk_alloc ?_ _)); exact BK131.out⟩, ⟨bw2 HB.out GE129.out GE131.out⟩⟩
     ·rw [if_neg c21] at H
      have c21b0 : (a0_0 == 1) = false := beq_eq_false_iff_ne.mpr c21
      have c21b1 : (a0_0 != 1) = true := bne_iff_ne.mpr c21
      (first | rw [c21b0] | (simp only [i64_w, i32_w]; rw [c21b0]) | skip)
      have H' := Ax H
      clear H
      go_wp2
      go_meet
      case rel => exact ⟨_, ((a0_0 == 2)), rS, H', ⟨by have := HJ1.out; first | omega | exact Nat.le_refl _⟩, ⟨by (with_reducible repeat (first | refine blk_drewN ?_ _ | refine blk_drew ?_ | refine blk_alloc ?_ _)); refine blk_far ?_ NB129_131.out _; (with_reducible repeat (first | refine blk_drewN ?_ _ | refine blk_drew ?_ | refine blk_alloc ?_ _)); refine blk_far ?_ NB129_131.out _; (with_reducible repeat (first | refine blk_drewN ?_ _ | refine blk_drew ?_ | refine blk_alloc ?_ _)); refine blk_far ?_ NB129_131.out _; (with_reducible repeat (first | refine blk_drewN ?_ _ | refine blk_drew ?_ | refine blk_alloc ?_ _)); refine blk_far ?_ NB129_131.out _; (with_reducible repeat (first | refine blk_drewN ?_ _ | refine blk_drew ?_ | refine blk_alloc ?_ _)); refine blk_far ?_ NB129_131.out _; (with_reducible repeat (first | refine blk_drewN ?_ _ | refine blk_drew ?_ | refine blk_alloc ?_ _)); refine blk_far ?_ NB129_131.out _; (with_reducible repeat (first | refine blk_drewN ?_ _ | refine blk_drew ?_ | refine blk_alloc ?_ _)); refine blk_far ?_ NB129_131.out _; (with_reducible repeat (first | refine blk_drewN ?_ _ | refine blk_drew ?_ | refine blk_alloc ?_ _)); refine blk_far ?_ NB129_131.out _; (with_reducible repeat (first | refine blk_drewN ?_ _ | refine blk_drew ?_ | refine blk_alloc ?_ _)); refine blk_far ?_ NB129_131.out _; (with_reducible repeat (first | refine blk_drewN ?_ _ | refine blk_drew ?_ | refine blk_alloc ?_ _)); refine blk_far ?_ NB129_131.out _; (with_reducible repeat (first | refine blk_drewN ?_ _ | refine blk_drew ?_ | refine blk_alloc ?_ _)); refine blk_far ?_ NB129_131.out _; (with_reducible repeat (first | refine blk_drewN ?_ _ | refine blk_drew ?_ | refine blk_alloc ?_ _)); refine blk_far ?_ NB129_131.out _; (with_reducible repeat (first | refine blk_drewN ?_ _ | refine blk_drew ?_ | refine blk_alloc ?_ _)); refine blk_far ?_ NB129_131.out _; (with_reducible repeat (first | refine blk_drewN ?_ _ | refine blk_drew ?_ | refine blk_alloc ?_ _)); refine blk_far ?_ NB129_131.out _; (with_reducible repeat (first | refine blk_drewN ?_ _ | refine blk_drew ?_ | refine blk_alloc ?_ _)); refine blk_far ?_ NB129_131.out _; (with_reducible repeat (first | refine blk_drewN ?_ _ | refine blk_drew ?_ | refine blk_alloc ?_ _)); refine blk_far ?_ NB129_131.out _; (with_reducible repeat (first | refine blk_drewN ?_ _ | refine blk_drew ?_ | refine blk_alloc ?_ _)); exact BK129.out⟩, ⟨by (with_reducible repeat (first | refine blk_drewN ?_ _ | refine blk_drew ?_ | refine blk_alloc ?_ _)); refine blk_put (cs := #[.int .u8 a0_0, .int .i64 0, .int .u64 0, .int .i64 0, .bool a0_4, .int .u64 a0_5, .int .u64 a0_6, .int .i64 a0_7, .int .u8 a0_8, .int .i64 a0_9, .int .i64 a0_10, .int .i64 a0_11]) ?_ 0 _ rfl; (with_reducible repeat (first | refine blk_drewN ?_ _ | refine blk_drew ?_ | refine blk_alloc ?_ _)); refine blk_put (cs := #[.int .u8 a0_0, .int .i64 0, .int .u64 0, .int .i64 a0_3, .bool a0_4, .int .u64 a0_5, .int .u64 a0_6, .int .i64 a0_7, .int .u8 a0_8, .int .i64 a0_9, .int .i64 a0_10, .int .i64 a0_11]) ?_ 3 _ rfl; (with_reducible repeat (first | refine blk_drewN ?_ _ | refine blk_drew ?_ | refine blk_alloc ?_ _)); refine blk_put (cs := #[.int .u8 a0_0, .int .i64 0, .int .u64 a0_2, .int .i64 a0_3, .bool a0_4, .int .u64 a0_5, .int .u64 a0_6, .int .i64 a0_7, .int .u8 a0_8, .int .i64 a0_9, .int .i64 a0_10, .int .i64 a0_11]) ?_ 2 _ rfl; (with_reducible repeat (first | refine blk_drewN ?_ _ | refine blk_drew ?_ | refine blk_alloc ?_ _)); refine blk_put (cs := #[.int .u8 a0_0, .int .i64 a0_1, .int .u64 a0_2, .int .i64 a0_3, .bool a0_4, .int .u64 a0_5, .int .u64 a0_6, .int .i64 a0_7, .int .u8 a0_8, .int .i64 a0_9, .int .i64 a0_10, .int .i64 a0_11]) ?_ 1 _ rfl; (with_reducible repeat (first | refine blk_drewN ?_ _ | refine blk_drew ?_ | refine blk_alloc ?_ _)); refine blk_put (cs := #[.int .u8 a0_0, .int .i64 a0_1, .int .u64 a0_2, .int .i64 a0_3, .bool a0_4, .int .u64 a0_5, .int .u64 a0_6, .int .i64 a0_7, .int .u8 a0_8, .int .i64 a0_9, .int .i64 a0_10, .int .i64 0]) ?_ 11 _ rfl; (with_reducible repeat (first | refine blk_drewN ?_ _ | refine blk_drew ?_ | refine blk_alloc ?_ _)); refine blk_put (cs := #[.int .u8 a0_0, .int .i64 a0_1, .int .u64 a0_2, .int .i64 a0_3, .bool a0_4, .int .u64 a0_5, .int .u64 a0_6, .int .i64 a0_7, .int .u8 a0_8, .int .i64 a0_9, .int .i64 0, .int .i64 0]) ?_ 10 _ rfl; (with_reducible repeat (first | refine blk_drewN ?_ _ | refine blk_drew ?_ | refine blk_alloc ?_ _)); refine blk_put (cs := #[.int .u8 a0_0, .int .i64 a0_1, .int .u64 a0_2, .int .i64 a0_3, .bool a0_4, .int .u64 a0_5, .int .u64 a0_6, .int .i64 a0_7, .int .u8 a0_8, .int .i64 0, .int .i64 0, .int .i64 0]) ?_ 9 _ rfl; (with_reducible repeat (first | refine blk_drewN ?_ _ | refine blk_drew ?_ | refine blk_alloc ?_ _)); refine blk_put (cs := #[.int .u8 a0_0, .int .i64 a0_1, .int .u64 a0_2, .int .i64 a0_3, .bool a0_4, .int .u64 a0_5, .int .u64 a0_6, .int .i64 a0_7, .int .u8 0, .int .i64 0, .int .i64 0, .int .i64 0]) ?_ 8 _ rfl; (with_reducible repeat (first | refine blk_drewN ?_ _ | refine blk_drew ?_ | refine blk_alloc ?_ _)); refine blk_put (cs := #[.int .u8 a0_0, .int .i64 a0_1, .int .u64 a0_2, .int .i64 a0_3, .bool a0_4, .int .u64 a0_5, .int .u64 a0_6, .int .i64 0, .int .u8 0, .int .i64 0, .int .i64 0, .int .i64 0]) ?_ 7 _ rfl; (with_reducible repeat (first | refine blk_drewN ?_ _ | refine blk_drew ?_ | refine blk_alloc ?_ _)); refine blk_put (cs := #[.int .u8 a0_0, .int .i64 a0_1, .int .u64 a0_2, .int .i64 a0_3, .bool a0_4, .int .u64 a0_5, .int .u64 0, .int .i64 0, .int .u8 0, .int .i64 0, .int .i64 0, .int .i64 0]) ?_ 6 _ rfl; (with_reducible repeat (first | refine blk_drewN ?_ _ | refine blk_drew ?_ | refine blk_alloc ?_ _)); refine blk_put (cs := #[.int .u8 a0_0, .int .i64 a0_1, .int .u64 a0_2, .int .i64 a0_3, .bool a0_4, .int .u64 0, .int .u64 0, .int .i64 0, .int .u8 0, .int .i64 0, .int .i64 0, .int .i64 0]) ?_ 5 _ rfl; (with_reducible repeat (first | refine blk_drewN ?_ _ | refine blk_drew ?_ | refine blk_alloc ?_ _)); refine blk_put (cs := #[.int .u8 a0_0, .int .i64 a0_1, .int .u64 a0_2, .int .i64 a0_3, .bool false, .int .u64 0, .int .u64 0, .int .i64 0, .int .u8 0, .int .i64 0, .int .i64 0, .int .i64 0]) ?_ 4 _ rfl; (with_reducible repeat (first | refine blk_drewN ?_ _ | refine blk_drew ?_ | refine blk_alloc ?_ _)); refine blk_put (cs := #[.int .u8 a0_0, .int .i64 a0_1, .int .u64 a0_2, .int .i64 0, .bool false, .int .u64 0, .int .u64 0, .int .i64 0, .int .u8 0, .int .i64 0, .int .i64 0, .int .i64 0]) ?_ 3 _ rfl; (with_reducible repeat (first | refine blk_drewN ?_ _ | refine blk_drew ?_ | refine blk_alloc ?_ _)); refine blk_put (cs := #[.int .u8 a0_0, .int .i64 a0_1, .int .u64 0, .int .i64 0, .bool false, .int .u64 0, .int .u64 0, .int .i64 0, .int .u8 0, .int .i64 0, .int .i64 0, .int .i64 0]) ?_ 2 _ rfl; (with_reducible repeat (first | refine blk_drewN ?_ _ | refine blk_drew ?_ | refine blk_alloc ?_ _)); refine blk_put (cs := #[.int .u8 a0_0, .int .i64 0, .int .u64 0, .int .i64 0, .bool false, .int .u64 0, .int .u64 0, .int .i64 0, .int .u8 0, .int .i64 0, .int .i64 0, .int .i64 0]) ?_ 1 _ rfl; (with_reducible repeat (first | refine blk_drewN ?_ _ | refine blk_drew ?_ | refine blk_alloc ?_ _)); refine blk_put (cs := #[.int .u8 0, .int .i64 0, .int .u64 0, .int .i64 0, .bool false, .int .u64 0, .int .u64 0, .int .i64 0, .int .u8 0, .int .i64 0, .int .i64 0, .int .i64 0]) ?_ 0 _ rfl; (with_reducible repeat (first | refine blk_drewN ?_ _ | refine blk_drew ?_ | refine blk_alloc ?_ _)); exact BK131.out⟩, ⟨bw2 HB.out GE129.out GE131.out⟩⟩
    case rest =>
     clear HC15
     try clear c1
     try clear c2
     try clear p2
     try clear c5
     try clear c6
     try clear c6b0
     try clear c6b1
     try clear c8
     try clear c8b0
     try clear c10
     try clear c10b0
     try clear c12
     try clear c14
     try clear c18
     try clear c21
     try clear c21b0
     try clear c21b1
     try clear hcz11_0
     try clear hcz11_1
     try clear hcz11_10
     try clear hcz11_11
     try clear hcz11_2
     try clear hcz11_3
     try clear hcz11_4
     try clear hcz11_5
     try clear hcz11_6
     try clear hcz11_7
     try clear hcz11_8
     try clear hcz11_9
     try clear hcz12_0
     try clear hcz12_1
     try clear hcz12_10
     try clear hcz12_11
     try clear hcz12_2
     try clear hcz12_3
     try clear hcz12_4
     try clear hcz12_5
     try clear hcz12_6
     try clear hcz12_7
     try clear hcz12_8
     try clear hcz12_9
     try clear hcz13_0
     try clear hcz13_1
     try clear hcz13_10
     try clear hcz13_11
     try clear hcz13_2
     try clear hcz13_3
     try clear hcz13_4
     try clear hcz13_5
     try clear hcz13_6
     try clear hcz13_7
     try clear hcz13_8
     try clear hcz13_9
     try clear hcz16_0
     try clear hcz16_1
     try clear hcz16_10
     try clear hcz16_11
     try clear hcz16_2
     try clear hcz16_3
     try clear hcz16_4
     try clear hcz16_5
     try clear hcz16_6
     try clear hcz16_7
     try clear hcz16_8
     try clear hcz16_9
     try clear hcz19_0
     try clear hcz19_1
     try clear hcz19_10
     try clear hcz19_11
     try clear hcz19_2
     try clear hcz19_3
     try clear hcz19_4
     try clear hcz19_5
     try clear hcz19_6
     try clear hcz19_7
     try clear hcz19_8
     try clear hcz19_9
     try clear hcz20_0
     try clear hcz20_1
     try clear hcz20_10
     try clear hcz20_11
     try clear hcz20_2
     try clear hcz20_3
     try clear hcz20_4
     try clear hcz20_5
     try clear hcz20_6
     try clear hcz20_7
     try clear hcz20_8
     try clear hcz20_9
     try clear hcz7_0
     try clear hcz7_1
     try clear hcz7_10
     try clear hcz7_11
     try clear hcz7_2
     try clear hcz7_3
     try clear hcz7_4
     try clear hcz7_5
     try clear hcz7_6
     try clear hcz7_7
     try clear hcz7_8
     try clear hcz7_9
     try clear hcz9_0
     try clear hcz9_1
     try clear hcz9_10
     try clear hcz9_11
     try clear hcz9_2
     try clear hcz9_3
     try clear hcz9_4
     try clear hcz9_5
     try clear hcz9_6
     try clear hcz9_7
     try clear hcz9_8
     try clear hcz9_9
     try clear hfz11_0
     try clear hfz11_1
     try clear hfz11_10
     try clear hfz11_11
     try clear hfz11_2
     try clear hfz11_3
     try clear hfz11_4
     try clear hfz11_5
     try clear hfz11_6
     try clear hfz11_7
     try clear hfz11_8
     try clear hfz11_9
     try clear hfz12_0
     try clear hfz12_1
     try clear hfz12_10
     try clear hfz12_11
     try clear hfz12_2
     try clear hfz12_3
     try clear hfz12_4
     try clear hfz12_5
     try clear hfz12_6
     try clear hfz12_7
     try clear hfz12_8
     try clear hfz12_9
     try clear hfz13_0
     try clear hfz13_1
     try clear hfz13_10
     try clear hfz13_11
     try clear hfz13_2
     try clear hfz13_3
     try clear hfz13_4
     try clear hfz13_5
     try clear hfz13_6
     try clear hfz13_7
     try clear hfz13_8
     try clear hfz13_9
     try clear hfz16_0
     try clear hfz16_1
     try clear hfz16_10
     try clear hfz16_11
     try clear hfz16_2
     try clear hfz16_3
     try clear hfz16_4
     try clear hfz16_5
     try clear hfz16_6
     try clear hfz16_7
     try clear hfz16_8
     try clear hfz16_9
     try clear hfz19_0
     try clear hfz19_1
     try clear hfz19_10
     try clear hfz19_11
     try clear hfz19_2
     try clear hfz19_3
     try clear hfz19_4
     try clear hfz19_5
     try clear hfz19_6
     try clear hfz19_7
     try clear hfz19_8
     try clear hfz19_9
     try clear hfz20_0
     try clear hfz20_1
     try clear hfz20_10
     try clear hfz20_11
     try clear hfz20_2
     try clear hfz20_3
     try clear hfz20_4
     try clear hfz20_5
     try clear hfz20_6
     try clear hfz20_7
     try clear hfz20_8
     try clear hfz20_9
     try clear hfz7_0
     try clear hfz7_1
     try clear hfz7_10
     try clear hfz7_11
     try clear hfz7_2
     try clear hfz7_3
     try clear hfz7_4
     try clear hfz7_5
     try clear hfz7_6
     try clear hfz7_7
     try clear hfz7_8
     try clear hfz7_9
     try clear hfz9_0
     try clear hfz9_1
     try clear hfz9_10
     try clear hfz9_11
     try clear hfz9_2
     try clear hfz9_3
     try clear hfz9_4
     try clear hfz9_5
     try clear hfz9_6
     try clear hfz9_7
     try clear hfz9_8
     try clear hfz9_9
     try clear p2
     obtain ⟨kq, x37_14, rfl, HA, HJ14, BK129, BK131, HB⟩ := hcut
     cases kq with
     | zero => exact absurd HA.out (by simp [msg_Check.j1])
     | succ kj14 =>
      have H := HA.out
      clear HA
      simp only [msg_Check.j1] at H
      by_cases c22 : x37_14 = true
      ·subst c22
       have H1 : (if true = true then (if (!(0 == 0) || (!(0 == 0) || (!(0 == 0) || (!(0 == 0) || ((a0_4 || ((!(a0_5 == 0) || (!(a0_6 == 0))) || (!(a0_7 == 0)))) || ((!(a0_8 == 0) || (!(a0_9 == 0))) || (!(a0_10 == 0) || (!(a0_11 == 0))))))))) = true then (some 2) else (some 0)) else (some 2)) = some r := by rw [if_pos rfl] at H; exact H
       clear H
       have H := H1
       clear H1
       replace H : (if (!(0 == 0) || (!(0 == 0) || (!(0 == 0) || (!(0 == 0) || ((a0_4 || ((!(a0_5 == 0) || (!(a0_6 == 0))) || (!(a0_7 == 0)))) || ((!(a0_8 == 0) || (!(a0_9 == 0))) || (!(a0_10 == 0) || (!(a0_11 == 0))))))))) = true then (some 2) else (some 0)) = some r := by rw [if_pos rfl] at H; exact H
       by_cases c23 : (!(0 == 0) || (!(0 == 0) || (!(0 == 0) || (!(0 == 0) || ((a0_4 || ((!(a0_5 == 0) || (!(a0_6 == 0))) || (!(a0_7 == 0)))) || ((!(a0_8 == 0) || (!(a0_9 == 0))) || (!(a0_10 == 0) || (!(a0_11 == 0))))))))) = true
       ·rw [if_pos c23] at H
        have c23b0 : (!(0 == 0) || (!(0 == 0) || (!(0 == 0) || (!(0 == 0) || ((a0_4 || ((!(a0_5 == 0) || (!(a0_6 == 0))) || (!(a0_7 == 0)))) || ((!(a0_8 == 0) || (!(a0_9 == 0))) || (!(a0_10 == 0) || (!(a0_11 == 0))))))))) = true := c23
        (try (have c23b1 : ((a0_4 || ((!(a0_5 == 0) || (!(a0_6 == 0))) || (!(a0_7 == 0)))) || ((!(a0_8 == 0) || (!(a0_9 == 0))) || (!(a0_10 == 0) || (!(a0_11 == 0))))) = true := by simpa using c23))
        clear c23
        obtain rfl := Option.some.inj H
        go_wp2_with (first | ((with_reducible refine gate_dst (N := 5) rfl ?_); refine box_event ?hg (N := 5) ?hd (cs := #[.int .u8 0, .int .i64 0, .int .u64 0, .int .i64 0, .bool false, .int .u64 0, .int .u64 0, .int .i64 0, .int .u8 0, .int .i64 0, .int .i64 0, .int .i64 0]) (t := 35) ?hr ?_; (case hd => rfl); (case hg => rfl); (case hr => first | (go_simp; done) | (go_simp; rfl)); intro gb132 hg w24 hbox hb; have n0_ := Bx0 BK129 hb; have n1_ := Bx0 BK131 hb; have n2_ := Bs2 HB hb GE129.out GE131.out; have n3_ := Ax (hbox); have n4_ := Gw2 HB hg GE129.out GE131.out; have n5_ := Gw2 HB hg GE129.out GE131.out; have n6_ := Nl0 BK129 hg; have n7_ := Nr0 BK129 hg; have n8_ := Nl0 BK131 hg; have n9_ := Nr0 BK131 hg; clear BK129; clear BK131; clear HB; have BK129 := n0_; have BK131 := n1_; have HB := n2_; have BK132 := n3_; have GW132 := n4_; have GE132 := n5_; have NB129_132 := n6_; have NB132_129 := n7_; have NB131_132 := n8_; have NB132_131 := n9_; clear n0_ n1_ n2_ n3_ n4_ n5_ n6_ n7_ n8_ n9_; clear hb hbox hg; have hnb25 := NB132_129.out; have hnc25 := NB129_132.out; have hnb26 := NB132_131.out; have hnc26 := NB131_132.out; obtain ⟨hcz27_0, hcz27_1, hcz27_2, hcz27_3, hcz27_4, hcz27_5, hcz27_6, hcz27_7, hcz27_8, hcz27_9, hcz27_10, hcz27_11, hfz27_0, hfz27_1, hfz27_2, hfz27_3, hfz27_4, hfz27_5, hfz27_6, hfz27_7, hfz27_8, hfz27_9, hfz27_10, hfz27_11⟩ := cl12 BK132; have hnb28 := NB131_129.out; have hnc28 := NB129_131.out; obtain ⟨hcz29_0, hcz29_1, hcz29_2, hcz29_3, hcz29_4, hcz29_5, hcz29_6, hcz29_7, hcz29_8, hcz29_9, hcz29_10, hcz29_11, hfz29_0, hfz29_1, hfz29_2, hfz29_3, hfz29_4, hfz29_5, hfz29_6, hfz29_7, hfz29_8, hfz29_9, hfz29_10, hfz29_11⟩ := cl12 BK131))
        go_ret
        exact ⟨eS, bw3 HB.out GE129.out GE131.out GE132.out⟩
       ·rw [if_neg c23] at H
        have c23b0 : (!(0 == 0) || (!(0 == 0) || (!(0 == 0) || (!(0 == 0) || ((a0_4 || ((!(a0_5 == 0) || (!(a0_6 == 0))) || (!(a0_7 == 0)))) || ((!(a0_8 == 0) || (!(a0_9 == 0))) || (!(a0_10 == 0) || (!(a0_11 == 0))))))))) = false := by simpa using c23
        (try (have c23b1 : ((a0_4 || ((!(a0_5 == 0) || (!(a0_6 == 0))) || (!(a0_7 == 0)))) || ((!(a0_8 == 0) || (!(a0_9 == 0))) || (!(a0_10 == 0) || (!(a0_11 == 0))))) = false := by simpa using c23))
        clear c23
        obtain rfl := Option.some.inj H
        go_wp2_with (first | ((with_reducible refine gate_dst (N := 5) rfl ?_); refine box_event ?hg (N := 5) ?hd (cs := #[.int .u8 0, .int .i64 0, .int .u64 0, .int .i64 0, .bool false, .int .u64 0, .int .u64 0, .int .i64 0, .int .u8 0, .int .i64 0, .int .i64 0, .int .i64 0]) (t := 35) ?hr ?_; (case hd => rfl); (case hg => rfl); (case hr => first | (go_simp; done) | (go_simp; rfl)); intro gb132 hg w30 hbox hb; have n0_ := Bx0 BK129 hb; have n1_ := Bx0 BK131 hb; have n2_ := Bs2 HB hb GE129.out GE131.out; have n3_ := Ax (hbox); have n4_ := Gw2 HB hg GE129.out GE131.out; have n5_ := Gw2 HB hg GE129.out GE131.out; have n6_ := Nl0 BK129 hg; have n7_ := Nr0 BK129 hg; have n8_ := Nl0 BK131 hg; have n9_ := Nr0 BK131 hg; clear BK129; clear BK131; clear HB; have BK129 := n0_; have BK131 := n1_; have HB := n2_; have BK132 := n3_; have GW132 := n4_; have GE132 := n5_; have NB129_132 := n6_; have NB132_129 := n7_; have NB131_132 := n8_; have NB132_131 := n9_; clear n0_ n1_ n2_ n3_ n4_ n5_ n6_ n7_ n8_ n9_; clear hb hbox hg; have hnb31 := NB132_129.out; have hnc31 := NB129_132.out; have hnb32 := NB132_131.out; have hnc32 := NB131_132.out; obtain ⟨hcz33_0, hcz33_1, hcz33_2, hcz33_3, hcz33_4, hcz33_5, hcz33_6, hcz33_7, hcz33_8, hcz33_9, hcz33_10, hcz33_11, hfz33_0, hfz33_1, hfz33_2, hfz33_3, hfz33_4, hfz33_5, hfz33_6, hfz33_7, hfz33_8, hfz33_9, hfz33_10, hfz33_11⟩ := cl12 BK132; have hnb34 := NB131_129.out; have hnc34 := NB129_131.out; obtain ⟨hcz35_0, hcz35_1, hcz35_2, hcz35_3, hcz35_4, hcz35_5, hcz35_6, hcz35_7, hcz35_8, hcz35_9, hcz35_10, hcz35_11, hfz35_0, hfz35_1, hfz35_2, hfz35_3, hfz35_4, hfz35_5, hfz35_6, hfz35_7, hfz35_8, hfz35_9, hfz35_10, hfz35_11⟩ := cl12 BK131))
        go_ret
        exact ⟨eS, bw3 HB.out GE129.out GE131.out GE132.out⟩
      ·replace c22 := Bool.eq_false_iff.mpr c22
       subst c22
       have H1 : (if a0_0 = 3 then ((msg_acts.f a0_8 a0_9).bind fun t133 => (if t133 = true then ((addr_Check.f kj14 a0_4 a0_5 a0_6 a0_7).bind fun t134 => (if t134 = 0 then (if (!(0 == 0) || (!(0 == 0) || (!(0 == 0) || (!(0 == 0) || (!(a0_10 == 0) || (!(a0_11 == 0))))))) = true then (some 2) else (some 0)) else (some 2))) else (some 2))) else (if a0_0 = 4 then (if true = true then ((addr_Check.f kj14 a0_4 a0_5 a0_6 a0_7).bind fun t137 => (if t137 = 0 then (if (!(0 == 0) || (!(0 == 0) || (!(0 == 0) || (!(0 == 0) || ((!(a0_8 == 0) || (!(a0_9 == 0))) || (!(a0_10 == 0) || (!(a0_11 == 0)))))))) = true then (some 2) else (some 0)) else (some 2))) else (some 2)) else (if a0_0 = 5 then ((msg_id.f a0_11).bind fun t143 => (if t143 = true then ((msg_iface.f a0_10).bind fun t144 => (if t144 = true then (if (!(0 == 0) || (!(0 == 0) || (!(0 == 0) || (!(0 == 0) || ((a0_4 || ((!(a0_5 == 0) || (!(a0_6 == 0))) || (!(a0_7 == 0)))) || ((!(a0_8 == 0) || (!(a0_9 == 0))))))))) = true then (some 2) else (some 0)) else (some 2))) else (some 2))) else (if a0_0 = 6 then (if true = true then ((msg_iface.f a0_10).bind fun t140 => (if t140 = true then (if (!(0 == 0) || (!(0 == 0) || (!(0 == 0) || (!(0 == 0) || ((a0_4 || ((!(a0_5 == 0) || (!(a0_6 == 0))) || (!(a0_7 == 0)))) || ((!(a0_8 == 0) || (!(a0_9 == 0))) || (!(a0_11 == 0)))))))) = true then (some 2) else (some 0)) else (some 2))) else (some 2)) else (some 2))))) = some r := by rw [if_neg (show ¬ (false = true) by decide)] at H; exact H
       clear H
       have H := H1
       clear H1
       by_cases c36 : a0_0 = 3
       ·rw [if_pos c36] at H
        have c36b0 : (a0_0 == 3) = true := beq_iff_eq.mpr c36
        have c36b1 : (a0_0 != 3) = false := bne_eq_false_iff_eq.mpr c36
        clear c36
        replace H := Option.bind_eq_some_iff.mp H
        obtain ⟨t133, A370, H⟩ := H
        replace H : (if t133 = true then ((addr_Check.f kj14 a0_4 a0_5 a0_6 a0_7).bind fun t134 => (if t134 = 0 then (if (!(0 == 0) || (!(0 == 0) || (!(0 == 0) || (!(0 == 0) || (!(a0_10 == 0) || (!(a0_11 == 0))))))) = true then (some 2) else (some 0)) else (some 2))) else (some 2)) = some r := H
        have A37 := Ax A370
        clear A370
        by_cases c38 : t133 = true
        ·subst c38
         have H1 : ((addr_Check.f kj14 a0_4 a0_5 a0_6 a0_7).bind fun t134 => (if t134 = 0 then (if (!(0 == 0) || (!(0 == 0) || (!(0 == 0) || (!(0 == 0) || (!(a0_10 == 0) || (!(a0_11 == 0))))))) = true then (some 2) else (some 0)) else (some 2))) = some r := by rw [if_pos rfl] at H; exact H
         clear H
         have H := H1
         clear H1
         replace H := Option.bind_eq_some_iff.mp H
         obtain ⟨t134, A390, H⟩ := H
         replace H : (if t134 = 0 then (if (!(0 == 0) || (!(0 == 0) || (!(0 == 0) || (!(0 == 0) || (!(a0_10 == 0) || (!(a0_11 == 0))))))) = true then (some 2) else (some 0)) else (some 2)) = some r := H
         have A39 := Ax A390
         clear A390
         by_cases c40 : t134 = 0
         ·rw [if_pos c40] at H
          have c40b0 : (t134 == 0) = true := beq_iff_eq.mpr c40
          have c40b1 : (t134 != 0) = false := bne_eq_false_iff_eq.mpr c40
          clear c40
          by_cases c41 : (!(0 == 0) || (!(0 == 0) || (!(0 == 0) || (!(0 == 0) || (!(a0_10 == 0) || (!(a0_11 == 0))))))) = true
          ·rw [if_pos c41] at H
           have c41b0 : (!(0 == 0) || (!(0 == 0) || (!(0 == 0) || (!(0 == 0) || (!(a0_10 == 0) || (!(a0_11 == 0))))))) = true := c41
           (try (have c41b1 : (!(a0_10 == 0) || (!(a0_11 == 0))) = true := by simpa using c41))
           clear c41
           obtain rfl := Option.some.inj H
           have hnb42 := NB131_129.out
           have hnc42 := NB129_131.out
           obtain ⟨hcz43_0, hcz43_1, hcz43_2, hcz43_3, hcz43_4, hcz43_5, hcz43_6, hcz43_7, hcz43_8, hcz43_9, hcz43_10, hcz43_11, hfz43_0, hfz43_1, hfz43_2, hfz43_3, hfz43_4, hfz43_5, hfz43_6, hfz43_7, hfz43_8, hfz43_9, hfz43_10, hfz43_11⟩ := cl12 BK131
           obtain ⟨hcz44_0, hcz44_1, hcz44_2, hcz44_3, hcz44_4, hcz44_5, hcz44_6, hcz44_7, hcz44_8, hcz44_9, hcz44_10, hcz44_11, hfz44_0, hfz44_1, hfz44_2, hfz44_3, hfz44_4, hfz44_5, hfz44_6, hfz44_7, hfz44_8, hfz44_9, hfz44_10, hfz44_11⟩ := cl12 BK129
           go_wp2_with (first | ((with_reducible refine gate_callee (f := 29) rfl ?_); refine goesL_ (some 52) rfl rfl Try.func29 (by kernel_rfl) rfl #[.agg #[.int .u8 a0_8, .int .i64 a0_9]] rfl gS ?_; (with_reducible refine (msg_acts.calls a0_8 a0_9 true _ A37.out).mono ?_); rintro e w45 ⟨rfl, hb⟩; refine ⟨_, rfl, ?_⟩; have n0_ := Bx2 BK129 hb NB129_131.out NB129_131.out; have n1_ := Ax (blk_below (g := gb131) (o := .cells #[.int .u8 0, .int .i64 0, .int .u64 0, .int .i64 0, .bool a0_4, .int .u64 a0_5, .int .u64 a0_6, .int .i64 a0_7, .int .u8 0, .int .i64 0, .int .i64 a0_10, .int .i64 a0_11] 35 (0, 0)) (by (with_reducible repeat (first | refine blk_drewN ?_ _ | refine blk_drew ?_ | refine blk_alloc ?_ _)); refine blk_put (cs := #[.int .u8 0, .int .i64 0, .int .u64 0, .int .i64 0, .bool a0_4, .int .u64 a0_5, .int .u64 a0_6, .int .i64 a0_7, .int .u8 0, .int .i64 a0_9, .int .i64 a0_10, .int .i64 a0_11]) ?_ 9 _ rfl; (with_reducible repeat (first | refine blk_drewN ?_ _ | refine blk_drew ?_ | refine blk_alloc ?_ _)); refine blk_put (cs := #[.int .u8 0, .int .i64 0, .int .u64 0, .int .i64 0, .bool a0_4, .int .u64 a0_5, .int .u64 a0_6, .int .i64 a0_7, .int .u8 a0_8, .int .i64 a0_9, .int .i64 a0_10, .int .i64 a0_11]) ?_ 8 _ rfl; (with_reducible repeat (first | refine blk_drewN ?_ _ | refine blk_drew ?_ | refine blk_alloc ?_ _)); exact BK131.out) hb); have n2_ := Bs2 HB hb GE129.out GE131.out; clear BK129; clear BK131; clear HB; have BK129 := n0_; have BK131 := n1_; have HB := n2_; clear n0_ n1_ n2_; (try clear hb); obtain ⟨hcz46_0, hcz46_1, hcz46_2, hcz46_3, hcz46_4, hcz46_5, hcz46_6, hcz46_7, hcz46_8, hcz46_9, hcz46_10, hcz46_11, hfz46_0, hfz46_1, hfz46_2, hfz46_3, hfz46_4, hfz46_5, hfz46_6, hfz46_7, hfz46_8, hfz46_9, hfz46_10, hfz46_11⟩ := cl12 BK131; obtain ⟨hcz47_0, hcz47_1, hcz47_2, hcz47_3, hcz47_4, hcz47_5, hcz47_6, hcz47_7, hcz47_8, hcz47_9, hcz47_10, hcz47_11, hfz47_0, hfz47_1, hfz47_2, hfz47_3, hfz47_4, hfz47_5, hfz47_6, hfz47_7, hfz47_8, hfz47_9, hfz47_10, hfz47_11⟩ := cl12 BK129) | (go_at_call 30; (with_reducible refine (addr_Check.calls kj14 a0_4 a0_5 a0_6 a0_7 t134 _ A39.out).mono ?_); rintro e w48 ⟨rfl, hb⟩; have n0_ := Bx4 BK129 hb NB129_131.out NB129_131.out NB129_131.out NB129_131.out; have n1_ := Ax (blk_below (g := gb131) (o := .cells #[.int .u8 0, .int .i64 0, .int .u64 0, .int .i64 0, .bool false, .int .u64 0, .int .u64 0, .int .i64 0, .int .u8 0, .int .i64 0, .int .i64 a0_10, .int .i64 a0_11] 35 (0, 0)) (by (with_reducible repeat (first | refine blk_drewN ?_ _ | refine blk_drew ?_ | refine blk_alloc ?_ _)); refine blk_put (cs := #[.int .u8 0, .int .i64 0, .int .u64 0, .int .i64 0, .bool false, .int .u64 0, .int .u64 0, .int .i64 a0_7, .int .u8 0, .int .i64 0, .int .i64 a0_10, .int .i64 a0_11]) ?_ 7 _ rfl; (with_reducible repeat (first | refine blk_drewN ?_ _ | refine blk_drew ?_ | refine blk_alloc ?_ _)); refine blk_put (cs := #[.int .u8 0, .int .i64 0, .int .u64 0, .int .i64 0, .bool false, .int .u64 0, .int .u64 a0_6, .int .i64 a0_7, .int .u8 0, .int .i64 0, .int .i64 a0_10, .int .i64 a0_11]) ?_ 6 _ rfl; (with_reducible repeat (first | refine blk_drewN ?_ _ | refine blk_drew ?_ | refine blk_alloc ?_ _)); refine blk_put (cs := #[.int .u8 0, .int .i64 0, .int .u64 0, .int .i64 0, .bool false, .int .u64 a0_5, .int .u64 a0_6, .int .i64 a0_7, .int .u8 0, .int .i64 0, .int .i64 a0_10, .int .i64 a0_11]) ?_ 5 _ rfl; (with_reducible repeat (first | refine blk_drewN ?_ _ | refine blk_drew ?_ | refine blk_alloc ?_ _)); refine blk_put (cs := #[.int .u8 0, .int .i64 0, .int .u64 0, .int .i64 0, .bool a0_4, .int .u64 a0_5, .int .u64 a0_6, .int .i64 a0_7, .int .u8 0, .int .i64 0, .int .i64 a0_10, .int .i64 a0_11]) ?_ 4 _ rfl; (with_reducible repeat (first | refine blk_drewN ?_ _ | refine blk_drew ?_ | refine blk_alloc ?_ _)); exact BK131.out) hb); have n2_ := Bs2 HB hb GE129.out GE131.out; clear BK129; clear BK131; clear HB; have BK129 := n0_; have BK131 := n1_; have HB := n2_; clear n0_ n1_ n2_; (try clear hb)) | ((with_reducible refine gate_dst (N := 5) rfl ?_); refine box_event ?hg (N := 5) ?hd (cs := #[.int .u8 0, .int .i64 0, .int .u64 0, .int .i64 0, .bool false, .int .u64 0, .int .u64 0, .int .i64 0, .int .u8 0, .int .i64 0, .int .i64 0, .int .i64 0]) (t := 35) ?hr ?_; (case hd => rfl); (case hg => rfl); (case hr => first | (go_simp; done) | (go_simp; rfl)); intro gb135 hg w49 hbox hb; have n0_ := Bx0 BK129 hb; have n1_ := Bx0 BK131 hb; have n2_ := Bs2 HB hb GE129.out GE131.out; have n3_ := Ax (hbox); have n4_ := Gw2 HB hg GE129.out GE131.out; have n5_ := Gw2 HB hg GE129.out GE131.out; have n6_ := Nl0 BK129 hg; have n7_ := Nr0 BK129 hg; have n8_ := Nl0 BK131 hg; have n9_ := Nr0 BK131 hg; clear BK129; clear BK131; clear HB; have BK129 := n0_; have BK131 := n1_; have HB := n2_; have BK135 := n3_; have GW135 := n4_; have GE135 := n5_; have NB129_135 := n6_; have NB135_129 := n7_; have NB131_135 := n8_; have NB135_131 := n9_; clear n0_ n1_ n2_ n3_ n4_ n5_ n6_ n7_ n8_ n9_; clear hb hbox hg; have hnb50 := NB135_129.out; have hnc50 := NB129_135.out; have hnb51 := NB135_131.out; have hnc51 := NB131_135.out; obtain ⟨hcz52_0, hcz52_1, hcz52_2, hcz52_3, hcz52_4, hcz52_5, hcz52_6, hcz52_7, hcz52_8, hcz52_9, hcz52_10, hcz52_11, hfz52_0, hfz52_1, hfz52_2, hfz52_3, hfz52_4, hfz52_5, hfz52_6, hfz52_7, hfz52_8, hfz52_9, hfz52_10, hfz52_11⟩ := cl12 BK135; obtain ⟨hcz53_0, hcz53_1, hcz53_2, hcz53_3, hcz53_4, hcz53_5, hcz53_6, hcz53_7, hcz53_8, hcz53_9, hcz53_10, hcz53_11, hfz53_0, hfz53_1, hfz53_2, hfz53_3, hfz53_4, hfz53_5, hfz53_6, hfz53_7, hfz53_8, hfz53_9, hfz53_10, hfz53_11⟩ := cl12 BK131))
           go_ret
           exact ⟨eS, bw3 HB.out GE129.out GE131.out GE135.out⟩
          ·rw [if_neg c41] at H
           have c41b0 : (!(0 == 0) || (!(0 == 0) || (!(0 == 0) || (!(0 == 0) || (!(a0_10 == 0) || (!(a0_11 == 0))))))) = false := by simpa using c41
           (try (have c41b1 : (!(a0_10 == 0) || (!(a0_11 == 0))) = false := by simpa using c41))
           clear c41
           obtain rfl := Option.some.inj H
           have hnb54 := NB131_129.out
           have hnc54 := NB129_131.out
           obtain ⟨hcz55_0, hcz55_1, hcz55_2, hcz55_3, hcz55_4, hcz55_5, hcz55_6, hcz55_7, hcz55_8, hcz55_9, hcz55_10, hcz55_11, hfz55_0, hfz55_1, hfz55_2, hfz55_3, hfz55_4, hfz55_5, hfz55_6, hfz55_7, hfz55_8, hfz55_9, hfz55_10, hfz55_11⟩ := cl12 BK131
           obtain ⟨hcz56_0, hcz56_1, hcz56_2, hcz56_3, hcz56_4, hcz56_5, hcz56_6, hcz56_7, hcz56_8, hcz56_9, hcz56_10, hcz56_11, hfz56_0, hfz56_1, hfz56_2, hfz56_3, hfz56_4, hfz56_5, hfz56_6, hfz56_7, hfz56_8, hfz56_9, hfz56_10, hfz56_11⟩ := cl12 BK129
           go_wp2_with (first | ((with_reducible refine gate_callee (f := 29) rfl ?_); refine goesL_ (some 52) rfl rfl Try.func29 (by kernel_rfl) rfl #[.agg #[.int .u8 a0_8, .int .i64 a0_9]] rfl gS ?_; (with_reducible refine (msg_acts.calls a0_8 a0_9 true _ A37.out).mono ?_); rintro e w57 ⟨rfl, hb⟩; refine ⟨_, rfl, ?_⟩; have n0_ := Bx2 BK129 hb NB129_131.out NB129_131.out; have n1_ := Ax (blk_below (g := gb131) (o := .cells #[.int .u8 0, .int .i64 0, .int .u64 0, .int .i64 0, .bool a0_4, .int .u64 a0_5, .int .u64 a0_6, .int .i64 a0_7, .int .u8 0, .int .i64 0, .int .i64 a0_10, .int .i64 a0_11] 35 (0, 0)) (by (with_reducible repeat (first | refine blk_drewN ?_ _ | refine blk_drew ?_ | refine blk_alloc ?_ _)); refine blk_put (cs := #[.int .u8 0, .int .i64 0, .int .u64 0, .int .i64 0, .bool a0_4, .int .u64 a0_5, .int .u64 a0_6, .int .i64 a0_7, .int .u8 0, .int .i64 a0_9, .int .i64 a0_10, .int .i64 a0_11]) ?_ 9 _ rfl; (with_reducible repeat (first | refine blk_drewN ?_ _ | refine blk_drew ?_ | refine blk_alloc ?_ _)); refine blk_put (cs := #[.int .u8 0, .int .i64 0, .int .u64 0, .int .i64 0, .bool a0_4, .int .u64 a0_5, .int .u64 a0_6, .int .i64 a0_7, .int .u8 a0_8, .int .i64 a0_9, .int .i64 a0_10, .int .i64 a0_11]) ?_ 8 _ rfl; (with_reducible repeat (first | refine blk_drewN ?_ _ | refine blk_drew ?_ | refine blk_alloc ?_ _)); exact BK131.out) hb); have n2_ := Bs2 HB hb GE129.out GE131.out; clear BK129; clear BK131; clear HB; have BK129 := n0_; have BK131 := n1_; have HB := n2_; clear n0_ n1_ n2_; (try clear hb); obtain ⟨hcz58_0, hcz58_1, hcz58_2, hcz58_3, hcz58_4, hcz58_5, hcz58_6, hcz58_7, hcz58_8, hcz58_9, hcz58_10, hcz58_11, hfz58_0, hfz58_1, hfz58_2, hfz58_3, hfz58_4, hfz58_5, hfz58_6, hfz58_7, hfz58_8, hfz58_9, hfz58_10, hfz58_11⟩ := cl12 BK131; obtain ⟨hcz59_0, hcz59_1, hcz59_2, hcz59_3, hcz59_4, hcz59_5, hcz59_6, hcz59_7, hcz59_8, hcz59_9, hcz59_10, hcz59_11, hfz59_0, hfz59_1, hfz59_2, hfz59_3, hfz59_4, hfz59_5, hfz59_6, hfz59_7, hfz59_8, hfz59_9, hfz59_10, hfz59_11⟩ := cl12 BK129) | (go_at_call 30; (with_reducible refine (addr_Check.calls kj14 a0_4 a0_5 a0_6 a0_7 t134 _ A39.out).mono ?_); rintro e w60 ⟨rfl, hb⟩; have n0_ := Bx4 BK129 hb NB129_131.out NB129_131.out NB129_131.out NB129_131.out; have n1_ := Ax (blk_below (g := gb131) (o := .cells #[.int .u8 0, .int .i64 0, .int .u64 0, .int .i64 0, .bool false, .int .u64 0, .int .u64 0, .int .i64 0, .int .u8 0, .int .i64 0, .int .i64 a0_10, .int .i64 a0_11] 35 (0, 0)) (by (with_reducible repeat (first | refine blk_drewN ?_ _ | refine blk_drew ?_ | refine blk_alloc ?_ _)); refine blk_put (cs := #[.int .u8 0, .int .i64 0, .int .u64 0, .int .i64 0, .bool false, .int .u64 0, .int .u64 0, .int .i64 a0_7, .int .u8 0, .int .i64 0, .int .i64 a0_10, .int .i64 a0_11]) ?_ 7 _ rfl; (with_reducible repeat (first | refine blk_drewN ?_ _ | refine blk_drew ?_ | refine blk_alloc ?_ _)); refine blk_put (cs := #[.int .u8 0, .int .i64 0, .int .u64 0, .int .i64 0, .bool false, .int .u64 0, .int .u64 a0_6, .int .i64 a0_7, .int .u8 0, .int .i64 0, .int .i64 a0_10, .int .i64 a0_11]) ?_ 6 _ rfl; (with_reducible repeat (first | refine blk_drewN ?_ _ | refine blk_drew ?_ | refine blk_alloc ?_ _)); refine blk_put (cs := #[.int .u8 0, .int .i64 0, .int .u64 0, .int .i64 0, .bool false, .int .u64 a0_5, .int .u64 a0_6, .int .i64 a0_7, .int .u8 0, .int .i64 0, .int .i64 a0_10, .int .i64 a0_11]) ?_ 5 _ rfl; (with_reducible repeat (first | refine blk_drewN ?_ _ | refine blk_drew ?_ | refine blk_alloc ?_ _)); refine blk_put (cs := #[.int .u8 0, .int .i64 0, .int .u64 0, .int .i64 0, .bool a0_4, .int .u64 a0_5, .int .u64 a0_6, .int .i64 a0_7, .int .u8 0, .int .i64 0, .int .i64 a0_10, .int .i64 a0_11]) ?_ 4 _ rfl; (with_reducible repeat (first | refine blk_drewN ?_ _ | refine blk_drew ?_ | refine blk_alloc ?_ _)); exact BK131.out) hb); have n2_ := Bs2 HB hb GE129.out GE131.out; clear BK129; clear BK131; clear HB; have BK129 := n0_; have BK131 := n1_; have HB := n2_; clear n0_ n1_ n2_; (try clear hb)) | ((with_reducible refine gate_dst (N := 5) rfl ?_); refine box_event ?hg (N := 5) ?hd (cs := #[.int .u8 0, .int .i64 0, .int .u64 0, .int .i64 0, .bool false, .int .u64 0, .int .u64 0, .int .i64 0, .int .u8 0, .int .i64 0, .int .i64 0, .int .i64 0]) (t := 35) ?hr ?_; (case hd => rfl); (case hg => rfl); (case hr => first | (go_simp; done) | (go_simp; rfl)); intro gb135 hg w61 hbox hb; have n0_ := Bx0 BK129 hb; have n1_ := Bx0 BK131 hb; have n2_ := Bs2 HB hb GE129.out GE131.out; have n3_ := Ax (hbox); have n4_ := Gw2 HB hg GE129.out GE131.out; have n5_ := Gw2 HB hg GE129.out GE131.out; have n6_ := Nl0 BK129 hg; have n7_ := Nr0 BK129 hg; have n8_ := Nl0 BK131 hg; have n9_ := Nr0 BK131 hg; clear BK129; clear BK131; clear HB; have BK129 := n0_; have BK131 := n1_; have HB := n2_; have BK135 := n3_; have GW135 := n4_; have GE135 := n5_; have NB129_135 := n6_; have NB135_129 := n7_; have NB131_135 := n8_; have NB135_131 := n9_; clear n0_ n1_ n2_ n3_ n4_ n5_ n6_ n7_ n8_ n9_; clear hb hbox hg; have hnb62 := NB135_129.out; have hnc62 := NB129_135.out; have hnb63 := NB135_131.out; have hnc63 := NB131_135.out; obtain ⟨hcz64_0, hcz64_1, hcz64_2, hcz64_3, hcz64_4, hcz64_5, hcz64_6, hcz64_7, hcz64_8, hcz64_9, hcz64_10, hcz64_11, hfz64_0, hfz64_1, hfz64_2, hfz64_3, hfz64_4, hfz64_5, hfz64_6, hfz64_7, hfz64_8, hfz64_9, hfz64_10, hfz64_11⟩ := cl12 BK135; obtain ⟨hcz65_0, hcz65_1, hcz65_2, hcz65_3, hcz65_4, hcz65_5, hcz65_6, hcz65_7, hcz65_8, hcz65_9, hcz65_10, hcz65_11, hfz65_0, hfz65_1, hfz65_2, hfz65_3, hfz65_4, hfz65_5, hfz65_6, hfz65_7, hfz65_8, hfz65_9, hfz65_10, hfz65_11⟩ := cl12 BK131))
           go_ret
           exact ⟨eS, bw3 HB.out GE129.out GE131.out GE135.out⟩
         ·rw [if_neg c40] at H
          have c40b0 : (t134 == 0) = false := beq_eq_false_iff_ne.mpr c40
          have c40b1 : (t134 != 0) = true := bne_iff_ne.mpr c40
          obtain rfl := Option.some.inj H
          have hnb66 := NB131_129.out
          have hnc66 := NB129_131.out
          obtain ⟨hcz67_0, hcz67_1, hcz67_2, hcz67_3, hcz67_4, hcz67_5, hcz67_6, hcz67_7, hcz67_8, hcz67_9, hcz67_10, hcz67_11, hfz67_0, hfz67_1, hfz67_2, hfz67_3, hfz67_4, hfz67_5, hfz67_6, hfz67_7, hfz67_8, hfz67_9, hfz67_10, hfz67_11⟩ := cl12 BK131
          obtain ⟨hcz68_0, hcz68_1, hcz68_2, hcz68_3, hcz68_4, hcz68_5, hcz68_6, hcz68_7, hcz68_8, hcz68_9, hcz68_10, hcz68_11, hfz68_0, hfz68_1, hfz68_2, hfz68_3, hfz68_4, hfz68_5, hfz68_6, hfz68_7, hfz68_8, hfz68_9, hfz68_10, hfz68_11⟩ := cl12 BK129
          go_wp2_with (first | ((with_reducible refine gate_callee (f := 29) rfl ?_); refine goesL_ (some 52) rfl rfl Try.func29 (by kernel_rfl) rfl #[.agg #[.int .u8 a0_8, .int .i64 a0_9]] rfl gS ?_; (with_reducible refine (msg_acts.calls a0_8 a0_9 true _ A37.out).mono ?_); rintro e w69 ⟨rfl, hb⟩; refine ⟨_, rfl, ?_⟩; have n0_ := Bx2 BK129 hb NB129_131.out NB129_131.out; have n1_ := Ax (blk_below (g := gb131) (o := .cells #[.int .u8 0, .int .i64 0, .int .u64 0, .int .i64 0, .bool a0_4, .int .u64 a0_5, .int .u64 a0_6, .int .i64 a0_7, .int .u8 0, .int .i64 0, .int .i64 a0_10, .int .i64 a0_11] 35 (0, 0)) (by (with_reducible repeat (first | refine blk_drewN ?_ _ | refine blk_drew ?_ | refine blk_alloc ?_ _)); refine blk_put (cs := #[.int .u8 0, .int .i64 0, .int .u64 0, .int .i64 0, .bool a0_4, .int .u64 a0_5, .int .u64 a0_6, .int .i64 a0_7, .int .u8 0, .int .i64 a0_9, .int .i64 a0_10, .int .i64 a0_11]) ?_ 9 _ rfl; (with_reducible repeat (first | refine blk_drewN ?_ _ | refine blk_drew ?_ | refine blk_alloc ?_ _)); refine blk_put (cs := #[.int .u8 0, .int .i64 0, .int .u64 0, .int .i64 0, .bool a0_4, .int .u64 a0_5, .int .u64 a0_6, .int .i64 a0_7, .int .u8 a0_8, .int .i64 a0_9, .int .i64 a0_10, .int .i64 a0_11]) ?_ 8 _ rfl; (with_reducible repeat (first | refine blk_drewN ?_ _ | refine blk_drew ?_ | refine blk_alloc ?_ _)); exact BK131.out) hb); have n2_ := Bs2 HB hb GE129.out GE131.out; clear BK129; clear BK131; clear HB; have BK129 := n0_; have BK131 := n1_; have HB := n2_; clear n0_ n1_ n2_; (try clear hb); obtain ⟨hcz70_0, hcz70_1, hcz70_2, hcz70_3, hcz70_4, hcz70_5, hcz70_6, hcz70_7, hcz70_8, hcz70_9, hcz70_10, hcz70_11, hfz70_0, hfz70_1, hfz70_2, hfz70_3, hfz70_4, hfz70_5, hfz70_6, hfz70_7, hfz70_8, hfz70_9, hfz70_10, hfz70_11⟩ := cl12 BK131; obtain ⟨hcz71_0, hcz71_1, hcz71_2, hcz71_3, hcz71_4, hcz71_5, hcz71_6, hcz71_7, hcz71_8, hcz71_9, hcz71_10, hcz71_11, hfz71_0, hfz71_1, hfz71_2, hfz71_3, hfz71_4, hfz71_5, hfz71_6, hfz71_7, hfz71_8, hfz71_9, hfz71_10, hfz71_11⟩ := cl12 BK129) | (go_at_call 30; (with_reducible refine (addr_Check.calls kj14 a0_4 a0_5 a0_6 a0_7 t134 _ A39.out).mono ?_); rintro e w72 ⟨rfl, hb⟩; have n0_ := Bx4 BK129 hb NB129_131.out NB129_131.out NB129_131.out NB129_131.out; have n1_ := Ax (blk_below (g := gb131) (o := .cells #[.int .u8 0, .int .i64 0, .int .u64 0, .int .i64 0, .bool false, .int .u64 0, .int .u64 0, .int .i64 0, .int .u8 0, .int .i64 0, .int .i64 a0_10, .int .i64 a0_11] 35 (0, 0)) (by (with_reducible repeat (first | refine blk_drewN ?_ _ | refine blk_drew ?_ | refine blk_alloc ?_ _)); refine blk_put (cs := #[.int .u8 0, .int .i64 0, .int .u64 0, .int .i64 0, .bool false, .int .u64 0, .int .u64 0, .int .i64 a0_7, .int .u8 0, .int .i64 0, .int .i64 a0_10, .int .i64 a0_11]) ?_ 7 _ rfl; (with_reducible repeat (first | refine blk_drewN ?_ _ | refine blk_drew ?_ | refine blk_alloc ?_ _)); refine blk_put (cs := #[.int .u8 0, .int .i64 0, .int .u64 0, .int .i64 0, .bool false, .int .u64 0, .int .u64 a0_6, .int .i64 a0_7, .int .u8 0, .int .i64 0, .int .i64 a0_10, .int .i64 a0_11]) ?_ 6 _ rfl; (with_reducible repeat (first | refine blk_drewN ?_ _ | refine blk_drew ?_ | refine blk_alloc ?_ _)); refine blk_put (cs := #[.int .u8 0, .int .i64 0, .int .u64 0, .int .i64 0, .bool false, .int .u64 a0_5, .int .u64 a0_6, .int .i64 a0_7, .int .u8 0, .int .i64 0, .int .i64 a0_10, .int .i64 a0_11]) ?_ 5 _ rfl; (with_reducible repeat (first | refine blk_drewN ?_ _ | refine blk_drew ?_ | refine blk_alloc ?_ _)); refine blk_put (cs := #[.int .u8 0, .int .i64 0, .int .u64 0, .int .i64 0, .bool a0_4, .int .u64 a0_5, .int .u64 a0_6, .int .i64 a0_7, .int .u8 0, .int .i64 0, .int .i64 a0_10, .int .i64 a0_11]) ?_ 4 _ rfl; (with_reducible repeat (first | refine blk_drewN ?_ _ | refine blk_drew ?_ | refine blk_alloc ?_ _)); exact BK131.out) hb); have n2_ := Bs2 HB hb GE129.out GE131.out; clear BK129; clear BK131; clear HB; have BK129 := n0_; have BK131 := n1_; have HB := n2_; clear n0_ n1_ n2_; (try clear hb)) | ((with_reducible refine gate_dst (N := 5) rfl ?_); refine box_event ?hg (N := 5) ?hd (cs := #[.int .u8 0, .int .i64 0, .int .u64 0, .int .i64 0, .bool false, .int .u64 0, .int .u64 0, .int .i64 0, .int .u8 0, .int .i64 0, .int .i64 0, .int .i64 0]) (t := 35) ?hr ?_; (case hd => rfl); (case hg => rfl); (case hr => first | (go_simp; done) | (go_simp; rfl)); intro gb135 hg w73 hbox hb; have n0_ := Bx0 BK129 hb; have n1_ := Bx0 BK131 hb; have n2_ := Bs2 HB hb GE129.out GE131.out; have n3_ := Ax (hbox); have n4_ := Gw2 HB hg GE129.out GE131.out; have n5_ := Gw2 HB hg GE129.out GE131.out; have n6_ := Nl0 BK129 hg; have n7_ := Nr0 BK129 hg; have n8_ := Nl0 BK131 hg; have n9_ := Nr0 BK131 hg; clear BK129; clear BK131; clear HB; have BK129 := n0_; have BK131 := n1_; have HB := n2_; have BK135 := n3_; have GW135 := n4_; have GE135 := n5_; have NB129_135 := n6_; have NB135_129 := n7_; have NB131_135 := n8_; have NB135_131 := n9_; clear n0_ n1_ n2_ n3_ n4_ n5_ n6_ n7_ n8_ n9_; clear hb hbox hg; have hnb74 := NB135_129.out; have hnc74 := NB129_135.out; have hnb75 := NB135_131.out; have hnc75 := NB131_135.out; obtain ⟨hcz76_0, hcz76_1, hcz76_2, hcz76_3, hcz76_4, hcz76_5, hcz76_6, hcz76_7, hcz76_8, hcz76_9, hcz76_10, hcz76_11, hfz76_0, hfz76_1, hfz76_2, hfz76_3, hfz76_4, hfz76_5, hfz76_6, hfz76_7, hfz76_8, hfz76_9, hfz76_10, hfz76_11⟩ := cl12 BK135))
          go_ret
          exact ⟨eS, bw3 HB.out GE129.out GE131.out GE135.out⟩
        ·replace c38 := Bool.eq_false_iff.mpr c38
         subst c38
         have H1 : (some 2) = some r := by rw [if_neg (show ¬ (false = true) by decide)] at H; exact H
         clear H
         have H := H1
         clear H1
         obtain rfl := Option.some.inj H
         have hnb77 := NB131_129.out
         have hnc77 := NB129_131.out
         obtain ⟨hcz78_0, hcz78_1, hcz78_2, hcz78_3, hcz78_4, hcz78_5, hcz78_6, hcz78_7, hcz78_8, hcz78_9, hcz78_10, hcz78_11, hfz78_0, hfz78_1, hfz78_2, hfz78_3, hfz78_4, hfz78_5, hfz78_6, hfz78_7, hfz78_8, hfz78_9, hfz78_10, hfz78_11⟩ := cl12 BK131
         obtain ⟨hcz79_0, hcz79_1, hcz79_2, hcz79_3, hcz79_4, hcz79_5, hcz79_6, hcz79_7, hcz79_8, hcz79_9, hcz79_10, hcz79_11, hfz79_0, hfz79_1, hfz79_2, hfz79_3, hfz79_4, hfz79_5, hfz79_6, hfz79_7, hfz79_8, hfz79_9, hfz79_10, hfz79_11⟩ := cl12 BK129
         go_wp2_with (first | ((with_reducible refine gate_callee (f := 29) rfl ?_); refine goesL_ (some 52) rfl rfl Try.func29 (by kernel_rfl) rfl #[.agg #[.int .u8 a0_8, .int .i64 a0_9]] rfl gS ?_; (with_reducible refine (msg_acts.calls a0_8 a0_9 false _ A37.out).mono ?_); rintro e w80 ⟨rfl, hb⟩; refine ⟨_, rfl, ?_⟩; have n0_ := Bx2 BK129 hb NB129_131.out NB129_131.out; have n1_ := Ax (blk_below (g := gb131) (o := .cells #[.int .u8 0, .int .i64 0, .int .u64 0, .int .i64 0, .bool a0_4, .int .u64 a0_5, .int .u64 a0_6, .int .i64 a0_7, .int .u8 0, .int .i64 0, .int .i64 a0_10, .int .i64 a0_11] 35 (0, 0)) (by (with_reducible repeat (first | refine blk_drewN ?_ _ | refine blk_drew ?_ | refine blk_alloc ?_ _)); refine blk_put (cs := #[.int .u8 0, .int .i64 0, .int .u64 0, .int .i64 0, .bool a0_4, .int .u64 a0_5, .int .u64 a0_6, .int .i64 a0_7, .int .u8 0, .int .i64 a0_9, .int .i64 a0_10, .int .i64 a0_11]) ?_ 9 _ rfl; (with_reducible repeat (first | refine blk_drewN ?_ _ | refine blk_drew ?_ | refine blk_alloc ?_ _)); refine blk_put (cs := #[.int .u8 0, .int .i64 0, .int .u64 0, .int .i64 0, .bool a0_4, .int .u64 a0_5, .int .u64 a0_6, .int .i64 a0_7, .int .u8 a0_8, .int .i64 a0_9, .int .i64 a0_10, .int .i64 a0_11]) ?_ 8 _ rfl; (with_reducible repeat (first | refine blk_drewN ?_ _ | refine blk_drew ?_ | refine blk_alloc ?_ _)); exact BK131.out) hb); have n2_ := Bs2 HB hb GE129.out GE131.out; clear BK129; clear BK131; clear HB; have BK129 := n0_; have BK131 := n1_; have HB := n2_; clear n0_ n1_ n2_; (try clear hb); obtain ⟨hcz81_0, hcz81_1, hcz81_2, hcz81_3, hcz81_4, hcz81_5, hcz81_6, hcz81_7, hcz81_8, hcz81_9, hcz81_10, hcz81_11, hfz81_0, hfz81_1, hfz81_2, hfz81_3, hfz81_4, hfz81_5, hfz81_6, hfz81_7, hfz81_8, hfz81_9, hfz81_10, hfz81_11⟩ := cl12 BK131) | ((with_reducible refine gate_dst (N := 5) rfl ?_); refine box_event ?hg (N := 5) ?hd (cs := #[.int .u8 0, .int .i64 0, .int .u64 0, .int .i64 0, .bool false, .int .u64 0, .int .u64 0, .int .i64 0, .int .u8 0, .int .i64 0, .int .i64 0, .int .i64 0]) (t := 35) ?hr ?_; (case hd => rfl); (case hg => rfl); (case hr => first | (go_simp; done) | (go_simp; rfl)); intro gb136 hg w82 hbox hb; have n0_ := Bx4 BK129 hb NB129_131.out NB129_131.out NB129_131.out NB129_131.out; have n1_ := Ax (blk_below (g := gb131) (o := .cells #[.int .u8 0, .int .i64 0, .int .u64 0, .int .i64 0, .bool false, .int .u64 0, .int .u64 0, .int .i64 0, .int .u8 0, .int .i64 0, .int .i64 a0_10, .int .i64 a0_11] 35 (0, 0)) (by (with_reducible repeat (first | refine blk_drewN ?_ _ | refine blk_drew ?_ | refine blk_alloc ?_ _)); refine blk_put (cs := #[.int .u8 0, .int .i64 0, .int .u64 0, .int .i64 0, .bool false, .int .u64 0, .int .u64 0, .int .i64 a0_7, .int .u8 0, .int .i64 0, .int .i64 a0_10, .int .i64 a0_11]) ?_ 7 _ rfl; (with_reducible repeat (first | refine blk_drewN ?_ _ | refine blk_drew ?_ | refine blk_alloc ?_ _)); refine blk_put (cs := #[.int .u8 0, .int .i64 0, .int .u64 0, .int .i64 0, .bool false, .int .u64 0, .int .u64 a0_6, .int .i64 a0_7, .int .u8 0, .int .i64 0, .int .i64 a0_10, .int .i64 a0_11]) ?_ 6 _ rfl; (with_reducible repeat (first | refine blk_drewN ?_ _ | refine blk_drew ?_ | refine blk_alloc ?_ _)); refine blk_put (cs := #[.int .u8 0, .int .i64 0, .int .u64 0, .int .i64 0, .bool false, .int .u64 a0_5, .int .u64 a0_6, .int .i64 a0_7, .int .u8 0, .int .i64 0, .int .i64 a0_10, .int .i64 a0_11]) ?_ 5 _ rfl; (with_reducible repeat (first | refine blk_drewN ?_ _ | refine blk_drew ?_ | refine blk_alloc ?_ _)); refine blk_put (cs := #[.int .u8 0, .int .i64 0, .int .u64 0, .int .i64 0, .bool a0_4, .int .u64 a0_5, .int .u64 a0_6, .int .i64 a0_7, .int .u8 0, .int .i64 0, .int .i64 a0_10, .int .i64 a0_11]) ?_ 4 _ rfl; (with_reducible repeat (first | refine blk_drewN ?_ _ | refine blk_drew ?_ | refine blk_alloc ?_ _)); exact BK131.out) hb); have n2_ := Bs2 HB hb GE129.out GE131.out; have n3_ := Ax (hbox); have n4_ := Gw2 HB hg GE129.out GE131.out; have n5_ := Gw2 HB hg GE129.out GE131.out; have n6_ := Nl4 BK129 hg NB129_131.out NB129_131.out NB129_131.out NB129_131.out; have n7_ := Nr4 BK129 hg NB129_131.out NB129_131.out NB129_131.out NB129_131.out; have n8_ := Ax ((by rw [hg]; exact Nat.ne_of_lt (blk_lt (g := gb131) (o := .cells #[.int .u8 0, .int .i64 0, .int .u64 0, .int .i64 0, .bool false, .int .u64 0, .int .u64 0, .int .i64 0, .int .u8 0, .int .i64 0, .int .i64 a0_10, .int .i64 a0_11] 35 (0, 0)) (by (with_reducible repeat (first | refine blk_drewN ?_ _ | refine blk_drew ?_ | refine blk_alloc ?_ _)); refine blk_put (cs := #[.int .u8 0, .int .i64 0, .int .u64 0, .int .i64 0, .bool false, .int .u64 0, .int .u64 0, .int .i64 a0_7, .int .u8 0, .int .i64 0, .int .i64 a0_10, .int .i64 a0_11]) ?_ 7 _ rfl; (with_reducible repeat (first | refine blk_drewN ?_ _ | refine blk_drew ?_ | refine blk_alloc ?_ _)); refine blk_put (cs := #[.int .u8 0, .int .i64 0, .int .u64 0, .int .i64 0, .bool false, .int .u64 0, .int .u64 a0_6, .int .i64 a0_7, .int .u8 0, .int .i64 0, .int .i64 a0_10, .int .i64 a0_11]) ?_ 6 _ rfl; (with_reducible repeat (first | refine blk_drewN ?_ _ | refine blk_drew ?_ | refine blk_alloc ?_ _)); refine blk_put (cs := #[.int .u8 0, .int .i64 0, .int .u64 0, .int .i64 0, .bool false, .int .u64 a0_5, .int .u64 a0_6, .int .i64 a0_7, .int .u8 0, .int .i64 0, .int .i64 a0_10, .int .i64 a0_11]) ?_ 5 _ rfl; (with_reducible repeat (first | refine blk_drewN ?_ _ | refine blk_drew ?_ | refine blk_alloc ?_ _)); refine blk_put (cs := #[.int .u8 0, .int .i64 0, .int .u64 0, .int .i64 0, .bool a0_4, .int .u64 a0_5, .int .u64 a0_6, .int .i64 a0_7, .int .u8 0, .int .i64 0, .int .i64 a0_10, .int .i64 a0_11]) ?_ 4 _ rfl; (with_reducible repeat (first | refine blk_drewN ?_ _ | refine blk_drew ?_ | refine blk_alloc ?_ _)); exact BK131.out)) : gb131 ≠ gb136)); have n9_ := Ax ((by rw [hg]; exact Nat.ne_of_gt (blk_lt (g := gb131) (o := .cells #[.int .u8 0, .int .i64 0, .int .u64 0, .int .i64 0, .bool false, .int .u64 0, .int .u64 0, .int .i64 0, .int .u8 0, .int .i64 0, .int .i64 a0_10, .int .i64 a0_11] 35 (0, 0)) (by (with_reducible repeat (first | refine blk_drewN ?_ _ | refine blk_drew ?_ | refine blk_alloc ?_ _)); refine blk_put (cs := #[.int .u8 0, .int .i64 0, .int .u64 0, .int .i64 0, .bool false, .int .u64 0, .int .u64 0, .int .i64 a0_7, .int .u8 0, .int .i64 0, .int .i64 a0_10, .int .i64 a0_11]) ?_ 7 _ rfl; (with_reducible repeat (first | refine blk_drewN ?_ _ | refine blk_drew ?_ | refine blk_alloc ?_ _)); refine blk_put (cs := #[.int .u8 0, .int .i64 0, .int .u64 0, .int .i64 0, .bool false, .int .u64 0, .int .u64 a0_6, .int .i64 a0_7, .int .u8 0, .int .i64 0, .int .i64 a0_10, .int .i64 a0_11]) ?_ 6 _ rfl; (with_reducible repeat (first | refine blk_drewN ?_ _ | refine blk_drew ?_ | refine blk_alloc ?_ _)); refine blk_put (cs := #[.int .u8 0, .int .i64 0, .int .u64 0, .int .i64 0, .bool false, .int .u64 a0_5, .int .u64 a0_6, .int .i64 a0_7, .int .u8 0, .int .i64 0, .int .i64 a0_10, .int .i64 a0_11]) ?_ 5 _ rfl; (with_reducible repeat (first | refine blk_drewN ?_ _ | refine blk_drew ?_ | refine blk_alloc ?_ _)); refine blk_put (cs := #[.int .u8 0, .int .i64 0, .int .u64 0, .int .i64 0, .bool a0_4, .int .u64 a0_5, .int .u64 a0_6, .int .i64 a0_7, .int .u8 0, .int .i64 0, .int .i64 a0_10, .int .i64 a0_11]) ?_ 4 _ rfl; (with_reducible repeat (first | refine blk_drewN ?_ _ | refine blk_drew ?_ | refine blk_alloc ?_ _)); exact BK131.out)) : gb136 ≠ gb131)); clear BK129; clear BK131; clear HB; have BK129 := n0_; have BK131 := n1_; have HB := n2_; have BK136 := n3_; have GW136 := n4_; have GE136 := n5_; have NB129_136 := n6_; have NB136_129 := n7_; have NB131_136 := n8_; have NB136_131 := n9_; clear n0_ n1_ n2_ n3_ n4_ n5_ n6_ n7_ n8_ n9_; clear hb hbox hg; have hnb83 := NB136_129.out; have hnc83 := NB129_136.out; have hnb84 := NB136_131.out; have hnc84 := NB131_136.out; obtain ⟨hcz85_0, hcz85_1, hcz85_2, hcz85_3, hcz85_4, hcz85_5, hcz85_6, hcz85_7, hcz85_8, hcz85_9, hcz85_10, hcz85_11, hfz85_0, hfz85_1, hfz85_2, hfz85_3, hfz85_4, hfz85_5, hfz85_6, hfz85_7, hfz85_8, hfz85_9, hfz85_10, hfz85_11⟩ := cl12 BK136))
         go_ret
         exact ⟨eS, bw3 HB.out GE129.out GE131.out GE136.out⟩
       ·rw [if_neg c36] at H
        have c36b0 : (a0_0 == 3) = false := beq_eq_false_iff_ne.mpr c36
        have c36b1 : (a0_0 != 3) = true := bne_iff_ne.mpr c36
        by_cases c86 : a0_0 = 4
        ·rw [if_pos c86] at H
         have c86b0 : (a0_0 == 4) = true := beq_iff_eq.mpr c86
         have c86b1 : (a0_0 != 4) = false := bne_eq_false_iff_eq.mpr c86
         clear c86
         replace H : ((addr_Check.f kj14 a0_4 a0_5 a0_6 a0_7).bind fun t137 => (if t137 = 0 then (if (!(0 == 0) || (!(0 == 0) || (!(0 == 0) || (!(0 == 0) || ((!(a0_8 == 0) || (!(a0_9 == 0))) || (!(a0_10 == 0) || (!(a0_11 == 0)))))))) = true then (some 2) else (some 0)) else (some 2))) = some r := by rw [if_pos rfl] at H; exact H
         replace H := Option.bind_eq_some_iff.mp H
         obtain ⟨t137, A870, H⟩ := H
         replace H : (if t137 = 0 then (if (!(0 == 0) || (!(0 == 0) || (!(0 == 0) || (!(0 == 0) || ((!(a0_8 == 0) || (!(a0_9 == 0))) || (!(a0_10 == 0) || (!(a0_11 == 0)))))))) = true then (some 2) else (some 0)) else (some 2)) = some r := H
         have A87 := Ax A870
         clear A870
         by_cases c88 : t137 = 0
         ·rw [if_pos c88] at H
          have c88b0 : (t137 == 0) = true := beq_iff_eq.mpr c88
          have c88b1 : (t137 != 0) = false := bne_eq_false_iff_eq.mpr c88
          clear c88
          by_cases c89 : (!(0 == 0) || (!(0 == 0) || (!(0 == 0) || (!(0 == 0) || ((!(a0_8 == 0) || (!(a0_9 == 0))) || (!(a0_10 == 0) || (!(a0_11 == 0)))))))) = true
          ·rw [if_pos c89] at H
           have c89b0 : (!(0 == 0) || (!(0 == 0) || (!(0 == 0) || (!(0 == 0) || ((!(a0_8 == 0) || (!(a0_9 == 0))) || (!(a0_10 == 0) || (!(a0_11 == 0)))))))) = true := c89
           (try (have c89b1 : ((!(a0_8 == 0) || (!(a0_9 == 0))) || (!(a0_10 == 0) || (!(a0_11 == 0)))) = true := by simpa using c89))
           clear c89
           obtain rfl := Option.some.inj H
           have hnb90 := NB131_129.out
           have hnc90 := NB129_131.out
           obtain ⟨hcz91_0, hcz91_1, hcz91_2, hcz91_3, hcz91_4, hcz91_5, hcz91_6, hcz91_7, hcz91_8, hcz91_9, hcz91_10, hcz91_11, hfz91_0, hfz91_1, hfz91_2, hfz91_3, hfz91_4, hfz91_5, hfz91_6, hfz91_7, hfz91_8, hfz91_9, hfz91_10, hfz91_11⟩ := cl12 BK131
           obtain ⟨hcz92_0, hcz92_1, hcz92_2, hcz92_3, hcz92_4, hcz92_5, hcz92_6, hcz92_7, hcz92_8, hcz92_9, hcz92_10, hcz92_11, hfz92_0, hfz92_1, hfz92_2, hfz92_3, hfz92_4, hfz92_5, hfz92_6, hfz92_7, hfz92_8, hfz92_9, hfz92_10, hfz92_11⟩ := cl12 BK129
           go_wp2_with (first | (go_at_call 30; (with_reducible refine (addr_Check.calls kj14 a0_4 a0_5 a0_6 a0_7 t137 _ A87.out).mono ?_); rintro e w93 ⟨rfl, hb⟩; have n0_ := Bx4 BK129 hb NB129_131.out NB129_131.out NB129_131.out NB129_131.out; have n1_ := Ax (blk_below (g := gb131) (o := .cells #[.int .u8 0, .int .i64 0, .int .u64 0, .int .i64 0, .bool false, .int .u64 0, .int .u64 0, .int .i64 0, .int .u8 a0_8, .int .i64 a0_9, .int .i64 a0_10, .int .i64 a0_11] 35 (0, 0)) (by (with_reducible repeat (first | refine blk_drewN ?_ _ | refine blk_drew ?_ | refine blk_alloc ?_ _)); refine blk_put (cs := #[.int .u8 0, .int .i64 0, .int .u64 0, .int .i64 0, .bool false, .int .u64 0, .int .u64 0, .int .i64 a0_7, .int .u8 a0_8, .int .i64 a0_9, .int .i64 a0_10, .int .i64 a0_11]) ?_ 7 _ rfl; (with_reducible repeat (first | refine blk_drewN ?_ _ | refine blk_drew ?_ | refine blk_alloc ?_ _)); refine blk_put (cs := #[.int .u8 0, .int .i64 0, .int .u64 0, .int .i64 0, .bool false, .int .u64 0, .int .u64 a0_6, .int .i64 a0_7, .int .u8 a0_8, .int .i64 a0_9, .int .i64 a0_10, .int .i64 a0_11]) ?_ 6 _ rfl; (with_reducible repeat (first | refine blk_drewN ?_ _ | refine blk_drew ?_ | refine blk_alloc ?_ _)); refine blk_put (cs := #[.int .u8 0, .int .i64 0, .int .u64 0, .int .i64 0, .bool false, .int .u64 a0_5, .int .u64 a0_6, .int .i64 a0_7, .int .u8 a0_8, .int .i64 a0_9, .int .i64 a0_10, .int .i64 a0_11]) ?_ 5 _ rfl; (with_reducible repeat (first | refine blk_drewN ?_ _ | refine blk_drew ?_ | refine blk_alloc ?_ _)); refine blk_put (cs := #[.int .u8 0, .int .i64 0, .int .u64 0, .int .i64 0, .bool a0_4, .int .u64 a0_5, .int .u64 a0_6, .int .i64 a0_7, .int .u8 a0_8, .int .i64 a0_9, .int .i64 a0_10, .int .i64 a0_11]) ?_ 4 _ rfl; (with_reducible repeat (first | refine blk_drewN ?_ _ | refine blk_drew ?_ | refine blk_alloc ?_ _)); exact BK131.out) hb); have n2_ := Bs2 HB hb GE129.out GE131.out; clear BK129; clear BK131; clear HB; have BK129 := n0_; have BK131 := n1_; have HB := n2_; clear n0_ n1_ n2_; (try clear hb)) | ((with_reducible refine gate_dst (N := 5) rfl ?_); refine box_event ?hg (N := 5) ?hd (cs := #[.int .u8 0, .int .i64 0, .int .u64 0, .int .i64 0, .bool false, .int .u64 0, .int .u64 0, .int .i64 0, .int .u8 0, .int .i64 0, .int .i64 0, .int .i64 0]) (t := 35) ?hr ?_; (case hd => rfl); (case hg => rfl); (case hr => first | (go_simp; done) | (go_simp; rfl)); intro gb138 hg w94 hbox hb; have n0_ := Bx0 BK129 hb; have n1_ := Bx0 BK131 hb; have n2_ := Bs2 HB hb GE129.out GE131.out; have n3_ := Ax (hbox); have n4_ := Gw2 HB hg GE129.out GE131.out; have n5_ := Gw2 HB hg GE129.out GE131.out; have n6_ := Nl0 BK129 hg; have n7_ := Nr0 BK129 hg; have n8_ := Nl0 BK131 hg; have n9_ := Nr0 BK131 hg; clear BK129; clear BK131; clear HB; have BK129 := n0_; have BK131 := n1_; have HB := n2_; have BK138 := n3_; have GW138 := n4_; have GE138 := n5_; have NB129_138 := n6_; have NB138_129 := n7_; have NB131_138 := n8_; have NB138_131 := n9_; clear n0_ n1_ n2_ n3_ n4_ n5_ n6_ n7_ n8_ n9_; clear hb hbox hg; have hnb95 := NB138_129.out; have hnc95 := NB129_138.out; have hnb96 := NB138_131.out; have hnc96 := NB131_138.out; obtain ⟨hcz97_0, hcz97_1, hcz97_2, hcz97_3, hcz97_4, hcz97_5, hcz97_6, hcz97_7, hcz97_8, hcz97_9, hcz97_10, hcz97_11, hfz97_0, hfz97_1, hfz97_2, hfz97_3, hfz97_4, hfz97_5, hfz97_6, hfz97_7, hfz97_8, hfz97_9, hfz97_10, hfz97_11⟩ := cl12 BK138; obtain ⟨hcz98_0, hcz98_1, hcz98_2, hcz98_3, hcz98_4, hcz98_5, hcz98_6, hcz98_7, hcz98_8, hcz98_9, hcz98_10, hcz98_11, hfz98_0, hfz98_1, hfz98_2, hfz98_3, hfz98_4, hfz98_5, hfz98_6, hfz98_7, hfz98_8, hfz98_9, hfz98_10, hfz98_11⟩ := cl12 BK131))
           go_ret
           exact ⟨eS, bw3 HB.out GE129.out GE131.out GE138.out⟩
          ·rw [if_neg c89] at H
           have c89b0 : (!(0 == 0) || (!(0 == 0) || (!(0 == 0) || (!(0 == 0) || ((!(a0_8 == 0) || (!(a0_9 == 0))) || (!(a0_10 == 0) || (!(a0_11 == 0)))))))) = false := by simpa using c89
           (try (have c89b1 : ((!(a0_8 == 0) || (!(a0_9 == 0))) || (!(a0_10 == 0) || (!(a0_11 == 0)))) = false := by simpa using c89))
           clear c89
           obtain rfl := Option.some.inj H
           have hnb99 := NB131_129.out
           have hnc99 := NB129_131.out
           obtain ⟨hcz100_0, hcz100_1, hcz100_2, hcz100_3, hcz100_4, hcz100_5, hcz100_6, hcz100_7, hcz100_8, hcz100_9, hcz100_10, hcz100_11, hfz100_0, hfz100_1, hfz100_2, hfz100_3, hfz100_4, hfz100_5, hfz100_6, hfz100_7, hfz100_8, hfz100_9, hfz100_10, hfz100_11⟩ := cl12 BK131
           obtain ⟨hcz101_0, hcz101_1, hcz101_2, hcz101_3, hcz101_4, hcz101_5, hcz101_6, hcz101_7, hcz101_8, hcz101_9, hcz101_10, hcz101_11, hfz101_0, hfz101_1, hfz101_2, hfz101_3, hfz101_4, hfz101_5, hfz101_6, hfz101_7, hfz101_8, hfz101_9, hfz101_10, hfz101_11⟩ := cl12 BK129
           go_wp2_with (first | (go_at_call 30; (with_reducible refine (addr_Check.calls kj14 a0_4 a0_5 a0_6 a0_7 t137 _ A87.out).mono ?_); rintro e w102 ⟨rfl, hb⟩; have n0_ := Bx4 BK129 hb NB129_131.out NB129_131.out NB129_131.out NB129_131.out; have n1_ := Ax (blk_below (g := gb131) (o := .cells #[.int .u8 0, .int .i64 0, .int .u64 0, .int .i64 0, .bool false, .int .u64 0, .int .u64 0, .int .i64 0, .int .u8 a0_8, .int .i64 a0_9, .int .i64 a0_10, .int .i64 a0_11] 35 (0, 0)) (by (with_reducible repeat (first | refine blk_drewN ?_ _ | refine blk_drew ?_ | refine blk_alloc ?_ _)); refine blk_put (cs := #[.int .u8 0, .int .i64 0, .int .u64 0, .int .i64 0, .bool false, .int .u64 0, .int .u64 0, .int .i64 a0_7, .int .u8 a0_8, .int .i64 a0_9, .int .i64 a0_10, .int .i64 a0_11]) ?_ 7 _ rfl; (with_reducible repeat (first | refine blk_drewN ?_ _ | refine blk_drew ?_ | refine blk_alloc ?_ _)); refine blk_put (cs := #[.int .u8 0, .int .i64 0, .int .u64 0, .int .i64 0, .bool false, .int .u64 0, .int .u64 a0_6, .int .i64 a0_7, .int .u8 a0_8, .int .i64 a0_9, .int .i64 a0_10, .int .i64 a0_11]) ?_ 6 _ rfl; (with_reducible repeat (first | refine blk_drewN ?_ _ | refine blk_drew ?_ | refine blk_alloc ?_ _)); refine blk_put (cs := #[.int .u8 0, .int .i64 0, .int .u64 0, .int .i64 0, .bool false, .int .u64 a0_5, .int .u64 a0_6, .int .i64 a0_7, .int .u8 a0_8, .int .i64 a0_9, .int .i64 a0_10, .int .i64 a0_11]) ?_ 5 _ rfl; (with_reducible repeat (first | refine blk_drewN ?_ _ | refine blk_drew ?_ | refine blk_alloc ?_ _)); refine blk_put (cs := #[.int .u8 0, .int .i64 0, .int .u64 0, .int .i64 0, .bool a0_4, .int .u64 a0_5, .int .u64 a0_6, .int .i64 a0_7, .int .u8 a0_8, .int .i64 a0_9, .int .i64 a0_10, .int .i64 a0_11]) ?_ 4 _ rfl; (with_reducible repeat (first | refine blk_drewN ?_ _ | refine blk_drew ?_ | refine blk_alloc ?_ _)); exact BK131.out) hb); have n2_ := Bs2 HB hb GE129.out GE131.out; clear BK129; clear BK131; clear HB; have BK129 := n0_; have BK131 := n1_; have HB := n2_; clear n0_ n1_ n2_; (try clear hb)) | ((with_reducible refine gate_dst (N := 5) rfl ?_); refine box_event ?hg (N := 5) ?hd (cs := #[.int .u8 0, .int .i64 0, .int .u64 0, .int .i64 0, .bool false, .int .u64 0, .int .u64 0, .int .i64 0, .int .u8 0, .int .i64 0, .int .i64 0, .int .i64 0]) (t := 35) ?hr ?_; (case hd => rfl); (case hg => rfl); (case hr => first | (go_simp; done) | (go_simp; rfl)); intro gb138 hg w103 hbox hb; have n0_ := Bx0 BK129 hb; have n1_ := Bx0 BK131 hb; have n2_ := Bs2 HB hb GE129.out GE131.out; have n3_ := Ax (hbox); have n4_ := Gw2 HB hg GE129.out GE131.out; have n5_ := Gw2 HB hg GE129.out GE131.out; have n6_ := Nl0 BK129 hg; have n7_ := Nr0 BK129 hg; have n8_ := Nl0 BK131 hg; have n9_ := Nr0 BK131 hg; clear BK129; clear BK131; clear HB; have BK129 := n0_; have BK131 := n1_; have HB := n2_; have BK138 := n3_; have GW138 := n4_; have GE138 := n5_; have NB129_138 := n6_; have NB138_129 := n7_; have NB131_138 := n8_; have NB138_131 := n9_; clear n0_ n1_ n2_ n3_ n4_ n5_ n6_ n7_ n8_ n9_; clear hb hbox hg; have hnb104 := NB138_129.out; have hnc104 := NB129_138.out; have hnb105 := NB138_131.out; have hnc105 := NB131_138.out; obtain ⟨hcz106_0, hcz106_1, hcz106_2, hcz106_3, hcz106_4, hcz106_5, hcz106_6, hcz106_7, hcz106_8, hcz106_9, hcz106_10, hcz106_11, hfz106_0, hfz106_1, hfz106_2, hfz106_3, hfz106_4, hfz106_5, hfz106_6, hfz106_7, hfz106_8, hfz106_9, hfz106_10, hfz106_11⟩ := cl12 BK138; obtain ⟨hcz107_0, hcz107_1, hcz107_2, hcz107_3, hcz107_4, hcz107_5, hcz107_6, hcz107_7, hcz107_8, hcz107_9, hcz107_10, hcz107_11, hfz107_0, hfz107_1, hfz107_2, hfz107_3, hfz107_4, hfz107_5, hfz107_6, hfz107_7, hfz107_8, hfz107_9, hfz107_10, hfz107_11⟩ := cl12 BK131))
           go_ret
           exact ⟨eS, bw3 HB.out GE129.out GE131.out GE138.out⟩
         ·rw [if_neg c88] at H
          have c88b0 : (t137 == 0) = false := beq_eq_false_iff_ne.mpr c88
          have c88b1 : (t137 != 0) = true := bne_iff_ne.mpr c88
          obtain rfl := Option.some.inj H
          have hnb108 := NB131_129.out
          have hnc108 := NB129_131.out
          obtain ⟨hcz109_0, hcz109_1, hcz109_2, hcz109_3, hcz109_4, hcz109_5, hcz109_6, hcz109_7, hcz109_8, hcz109_9, hcz109_10, hcz109_11, hfz109_0, hfz109_1, hfz109_2, hfz109_3, hfz109_4, hfz109_5, hfz109_6, hfz109_7, hfz109_8, hfz109_9, hfz109_10, hfz109_11⟩ := cl12 BK131
          obtain ⟨hcz110_0, hcz110_1, hcz110_2, hcz110_3, hcz110_4, hcz110_5, hcz110_6, hcz110_7, hcz110_8, hcz110_9, hcz110_10, hcz110_11, hfz110_0, hfz110_1, hfz110_2, hfz110_3, hfz110_4, hfz110_5, hfz110_6, hfz110_7, hfz110_8, hfz110_9, hfz110_10, hfz110_11⟩ := cl12 BK129
          go_wp2_with (first | (go_at_call 30; (with_reducible refine (addr_Check.calls kj14 a0_4 a0_5 a0_6 a0_7 t137 _ A87.out).mono ?_); rintro e w111 ⟨rfl, hb⟩; have n0_ := Bx4 BK129 hb NB129_131.out NB129_131.out NB129_131.out NB129_131.out; have n1_ := Ax (blk_below (g := gb131) (o := .cells #[.int .u8 0, .int .i64 0, .int .u64 0, .int .i64 0, .bool false, .int .u64 0, .int .u64 0, .int .i64 0, .int .u8 a0_8, .int .i64 a0_9, .int .i64 a0_10, .int .i64 a0_11] 35 (0, 0)) (by (with_reducible repeat (first | refine blk_drewN ?_ _ | refine blk_drew ?_ | refine blk_alloc ?_ _)); refine blk_put (cs := #[.int .u8 0, .int .i64 0, .int .u64 0, .int .i64 0, .bool false, .int .u64 0, .int .u64 0, .int .i64 a0_7, .int .u8 a0_8, .int .i64 a0_9, .int .i64 a0_10, .int .i64 a0_11]) ?_ 7 _ rfl; (with_reducible repeat (first | refine blk_drewN ?_ _ | refine blk_drew ?_ | refine blk_alloc ?_ _)); refine blk_put (cs := #[.int .u8 0, .int .i64 0, .int .u64 0, .int .i64 0, .bool false, .int .u64 0, .int .u64 a0_6, .int .i64 a0_7, .int .u8 a0_8, .int .i64 a0_9, .int .i64 a0_10, .int .i64 a0_11]) ?_ 6 _ rfl; (with_reducible repeat (first | refine blk_drewN ?_ _ | refine blk_drew ?_ | refine blk_alloc ?_ _)); refine blk_put (cs := #[.int .u8 0, .int .i64 0, .int .u64 0, .int .i64 0, .bool false, .int .u64 a0_5, .int .u64 a0_6, .int .i64 a0_7, .int .u8 a0_8, .int .i64 a0_9, .int .i64 a0_10, .int .i64 a0_11]) ?_ 5 _ rfl; (with_reducible repeat (first | refine blk_drewN ?_ _ | refine blk_drew ?_ | refine blk_alloc ?_ _)); refine blk_put (cs := #[.int .u8 0, .int .i64 0, .int .u64 0, .int .i64 0, .bool a0_4, .int .u64 a0_5, .int .u64 a0_6, .int .i64 a0_7, .int .u8 a0_8, .int .i64 a0_9, .int .i64 a0_10, .int .i64 a0_11]) ?_ 4 _ rfl; (with_reducible repeat (first | refine blk_drewN ?_ _ | refine blk_drew ?_ | refine blk_alloc ?_ _)); exact BK131.out) hb); have n2_ := Bs2 HB hb GE129.out GE131.out; clear BK129; clear BK131; clear HB; have BK129 := n0_; have BK131 := n1_; have HB := n2_; clear n0_ n1_ n2_; (try clear hb)) | ((with_reducible refine gate_dst (N := 5) rfl ?_); refine box_event ?hg (N := 5) ?hd (cs := #[.int .u8 0, .int .i64 0, .int .u64 0, .int .i64 0, .bool false, .int .u64 0, .int .u64 0, .int .i64 0, .int .u8 0, .int .i64 0, .int .i64 0, .int .i64 0]) (t := 35) ?hr ?_; (case hd => rfl); (case hg => rfl); (case hr => first | (go_simp; done) | (go_simp; rfl)); intro gb138 hg w112 hbox hb; have n0_ := Bx0 BK129 hb; have n1_ := Bx0 BK131 hb; have n2_ := Bs2 HB hb GE129.out GE131.out; have n3_ := Ax (hbox); have n4_ := Gw2 HB hg GE129.out GE131.out; have n5_ := Gw2 HB hg GE129.out GE131.out; have n6_ := Nl0 BK129 hg; have n7_ := Nr0 BK129 hg; have n8_ := Nl0 BK131 hg; have n9_ := Nr0 BK131 hg; clear BK129; clear BK131; clear HB; have BK129 := n0_; have BK131 := n1_; have HB := n2_; have BK138 := n3_; have GW138 := n4_; have GE138 := n5_; have NB129_138 := n6_; have NB138_129 := n7_; have NB131_138 := n8_; have NB138_131 := n9_; clear n0_ n1_ n2_ n3_ n4_ n5_ n6_ n7_ n8_ n9_; clear hb hbox hg; have hnb113 := NB138_129.out; have hnc113 := NB129_138.out; have hnb114 := NB138_131.out; have hnc114 := NB131_138.out; obtain ⟨hcz115_0, hcz115_1, hcz115_2, hcz115_3, hcz115_4, hcz115_5, hcz115_6, hcz115_7, hcz115_8, hcz115_9, hcz115_10, hcz115_11, hfz115_0, hfz115_1, hfz115_2, hfz115_3, hfz115_4, hfz115_5, hfz115_6, hfz115_7, hfz115_8, hfz115_9, hfz115_10, hfz115_11⟩ := cl12 BK138))
          go_ret
          exact ⟨eS, bw3 HB.out GE129.out GE131.out GE138.out⟩
        ·rw [if_neg c86] at H
         have c86b0 : (a0_0 == 4) = false := beq_eq_false_iff_ne.mpr c86
         have c86b1 : (a0_0 != 4) = true := bne_iff_ne.mpr c86
         by_cases c116 : a0_0 = 5
         ·rw [if_pos c116] at H
          have c116b0 : (a0_0 == 5) = true := beq_iff_eq.mpr c116
          have c116b1 : (a0_0 != 5) = false := bne_eq_false_iff_eq.mpr c116
          clear c116
          replace H := Option.bind_eq_some_iff.mp H
          obtain ⟨t143, A1170, H⟩ := H
          replace H : (if t143 = true then ((msg_iface.f a0_10).bind fun t144 => (if t144 = true then (if (!(0 == 0) || (!(0 == 0) || (!(0 == 0) || (!(0 == 0) || ((a0_4 || ((!(a0_5 == 0) || (!(a0_6 == 0))) || (!(a0_7 == 0)))) || ((!(a0_8 == 0) || (!(a0_9 == 0))))))))) = true then (some 2) else (some 0)) else (some 2))) else (some 2)) = some r := H
          have A117 := Ax A1170
          clear A1170
          by_cases c118 : t143 = true
          ·subst c118
           have H1 : ((msg_iface.f a0_10).bind fun t144 => (if t144 = true then (if (!(0 == 0) || (!(0 == 0) || (!(0 == 0) || (!(0 == 0) || ((a0_4 || ((!(a0_5 == 0) || (!(a0_6 == 0))) || (!(a0_7 == 0)))) || ((!(a0_8 == 0) || (!(a0_9 == 0))))))))) = true then (some 2) else (some 0)) else (some 2))) = some r := by rw [if_pos rfl] at H; exact H
           clear H
           have H := H1
           clear H1
           replace H := Option.bind_eq_some_iff.mp H
           obtain ⟨t144, A1190, H⟩ := H
           replace H : (if t144 = true then (if (!(0 == 0) || (!(0 == 0) || (!(0 == 0) || (!(0 == 0) || ((a0_4 || ((!(a0_5 == 0) || (!(a0_6 == 0))) || (!(a0_7 == 0)))) || ((!(a0_8 == 0) || (!(a0_9 == 0))))))))) = true then (some 2) else (some 0)) else (some 2)) = some r := H
           have A119 := Ax A1190
           clear A1190
           by_cases c120 : t144 = true
           ·subst c120
            have H1 : (if (!(0 == 0) || (!(0 == 0) || (!(0 == 0) || (!(0 == 0) || ((a0_4 || ((!(a0_5 == 0) || (!(a0_6 == 0))) || (!(a0_7 == 0)))) || ((!(a0_8 == 0) || (!(a0_9 == 0))))))))) = true then (some 2) else (some 0)) = some r := by rw [if_pos rfl] at H; exact H
            clear H
            have H := H1
            clear H1
            by_cases c121 : (!(0 == 0) || (!(0 == 0) || (!(0 == 0) || (!(0 == 0) || ((a0_4 || ((!(a0_5 == 0) || (!(a0_6 == 0))) || (!(a0_7 == 0)))) || ((!(a0_8 == 0) || (!(a0_9 == 0))))))))) = true
            ·rw [if_pos c121] at H
             have c121b0 : (!(0 == 0) || (!(0 == 0) || (!(0 == 0) || (!(0 == 0) || ((a0_4 || ((!(a0_5 == 0) || (!(a0_6 == 0))) || (!(a0_7 == 0)))) || ((!(a0_8 == 0) || (!(a0_9 == 0))))))))) = true := c121
             (try (have c121b1 : ((a0_4 || ((!(a0_5 == 0) || (!(a0_6 == 0))) || (!(a0_7 == 0)))) || ((!(a0_8 == 0) || (!(a0_9 == 0))))) = true := by simpa using c121))
             clear c121
             obtain rfl := Option.some.inj H
             have hnb122 := NB131_129.out
             have hnc122 := NB129_131.out
             obtain ⟨hcz123_0, hcz123_1, hcz123_2, hcz123_3, hcz123_4, hcz123_5, hcz123_6, hcz123_7, hcz123_8, hcz123_9, hcz123_10, hcz123_11, hfz123_0, hfz123_1, hfz123_2, hfz123_3, hfz123_4, hfz123_5, hfz123_6, hfz123_7, hfz123_8, hfz123_9, hfz123_10, hfz123_11⟩ := cl12 BK131
             obtain ⟨hcz124_0, hcz124_1, hcz124_2, hcz124_3, hcz124_4, hcz124_5, hcz124_6, hcz124_7, hcz124_8, hcz124_9, hcz124_10, hcz124_11, hfz124_0, hfz124_1, hfz124_2, hfz124_3, hfz124_4, hfz124_5, hfz124_6, hfz124_7, hfz124_8, hfz124_9, hfz124_10, hfz124_11⟩ := cl12 BK129
             go_wp2_with (first | ((with_reducible refine gate_callee (f := 28) rfl ?_); refine goesL_ (some 65) rfl rfl Try.func28 (by kernel_rfl) rfl #[.int .i64 a0_11] rfl gS ?_; (with_reducible refine (msg_id.calls a0_11 true _ A117.out).mono ?_); rintro e w' ⟨rfl, ⟨nd, rfl⟩⟩; refine ⟨_, rfl, ?_⟩) | (go_at_call 31; (with_reducible refine (msg_iface.calls a0_10 true _ A119.out).mono ?_); rintro e w' ⟨rfl, ⟨nd, rfl⟩⟩) | ((with_reducible refine gate_dst (N := 5) rfl ?_); refine box_event ?hg (N := 5) ?hd (cs := #[.int .u8 0, .int .i64 0, .int .u64 0, .int .i64 0, .bool false, .int .u64 0, .int .u64 0, .int .i64 0, .int .u8 0, .int .i64 0, .int .i64 0, .int .i64 0]) (t := 35) ?hr ?_; (case hd => rfl); (case hg => rfl); (case hr => first | (go_simp; done) | (go_simp; rfl)); intro gb145 hg w125 hbox hb; have n0_ := Bx2 BK129 hb NB129_131.out NB129_131.out; have n1_ := Ax (blk_below (g := gb131) (o := .cells #[.int .u8 0, .int .i64 0, .int .u64 0, .int .i64 0, .bool a0_4, .int .u64 a0_5, .int .u64 a0_6, .int .i64 a0_7, .int .u8 a0_8, .int .i64 a0_9, .int .i64 0, .int .i64 0] 35 (0, 0)) (by (with_reducible repeat (first | refine blk_drewN ?_ _ | refine blk_drew ?_ | refine blk_alloc ?_ _)); refine blk_put (cs := #[.int .u8 0, .int .i64 0, .int .u64 0, .int .i64 0, .bool a0_4, .int .u64 a0_5, .int .u64 a0_6, .int .i64 a0_7, .int .u8 a0_8, .int .i64 a0_9, .int .i64 a0_10, .int .i64 0]) ?_ 10 _ rfl; (with_reducible repeat (first | refine blk_drewN ?_ _ | refine blk_drew ?_ | refine blk_alloc ?_ _)); refine blk_put (cs := #[.int .u8 0, .int .i64 0, .int .u64 0, .int .i64 0, .bool a0_4, .int .u64 a0_5, .int .u64 a0_6, .int .i64 a0_7, .int .u8 a0_8, .int .i64 a0_9, .int .i64 a0_10, .int .i64 a0_11]) ?_ 11 _ rfl; (with_reducible repeat (first | refine blk_drewN ?_ _ | refine blk_drew ?_ | refine blk_alloc ?_ _)); exact BK131.out) hb); have n2_ := Bs2 HB hb GE129.out GE131.out; have n3_ := Ax (hbox); have n4_ := Gw2 HB hg GE129.out GE131.out; have n5_ := Gw2 HB hg GE129.out GE131.out; have n6_ := Nl2 BK129 hg NB129_131.out NB129_131.out; have n7_ := Nr2 BK129 hg NB129_131.out NB129_131.out; have n8_ := Ax ((by rw [hg]; exact Nat.ne_of_lt (blk_lt (g := gb131) (o := .cells #[.int .u8 0, .int .i64 0, .int .u64 0, .int .i64 0, .bool a0_4, .int .u64 a0_5, .int .u64 a0_6, .int .i64 a0_7, .int .u8 a0_8, .int .i64 a0_9, .int .i64 0, .int .i64 0] 35 (0, 0)) (by (with_reducible repeat (first | refine blk_drewN ?_ _ | refine blk_drew ?_ | refine blk_alloc ?_ _)); refine blk_put (cs := #[.int .u8 0, .int .i64 0, .int .u64 0, .int .i64 0, .bool a0_4, .int .u64 a0_5, .int .u64 a0_6, .int .i64 a0_7, .int .u8 a0_8, .int .i64 a0_9, .int .i64 a0_10, .int .i64 0]) ?_ 10 _ rfl; (with_reducible repeat (first | refine blk_drewN ?_ _ | refine blk_drew ?_ | refine blk_alloc ?_ _)); refine blk_put (cs := #[.int .u8 0, .int .i64 0, .int .u64 0, .int .i64 0, .bool a0_4, .int .u64 a0_5, .int .u64 a0_6, .int .i64 a0_7, .int .u8 a0_8, .int .i64 a0_9, .int .i64 a0_10, .int .i64 a0_11]) ?_ 11 _ rfl; (with_reducible repeat (first | refine blk_drewN ?_ _ | refine blk_drew ?_ | refine blk_alloc ?_ _)); exact BK131.out)) : gb131 ≠ gb145)); have n9_ := Ax ((by rw [hg]; exact Nat.ne_of_gt (blk_lt (g := gb131) (o := .cells #[.int .u8 0, .int .i64 0, .int .u64 0, .int .i64 0, .bool a0_4, .int .u64 a0_5, .int .u64 a0_6, .int .i64 a0_7, .int .u8 a0_8, .int .i64 a0_9, .int .i64 0, .int .i64 0] 35 (0, 0)) (by (with_reducible repeat (first | refine blk_drewN ?_ _ | refine blk_drew ?_ | refine blk_alloc ?_ _)); refine blk_put (cs := #[.int .u8 0, .int .i64 0, .int .u64 0, .int .i64 0, .bool a0_4, .int .u64 a0_5, .int .u64 a0_6, .int .i64 a0_7, .int .u8 a0_8, .int .i64 a0_9, .int .i64 a0_10, .int .i64 0]) ?_ 10 _ rfl; (with_reducible repeat (first | refine blk_drewN ?_ _ | refine blk_drew ?_ | refine blk_alloc ?_ _)); refine blk_put (cs := #[.int .u8 0, .int .i64 0, .int .u64 0, .int .i64 0, .bool a0_4, .int .u64 a0_5, .int .u64 a0_6, .int .i64 a0_7, .int .u8 a0_8, .int .i64 a0_9, .int .i64 a0_10, .int .i64 a0_11]) ?_ 11 _ rfl; (with_reducible repeat (first | refine blk_drewN ?_ _ | refine blk_drew ?_ | refine blk_alloc ?_ _)); exact BK131.out)) : gb145 ≠ gb131)); clear BK129; clear BK131; clear HB; have BK129 := n0_; have BK131 := n1_; have HB := n2_; have BK145 := n3_; have GW145 := n4_; have GE145 := n5_; have NB129_145 := n6_; have NB145_129 := n7_; have NB131_145 := n8_; have NB145_131 := n9_; clear n0_ n1_ n2_ n3_ n4_ n5_ n6_ n7_ n8_ n9_; clear hb hbox hg; have hnb126 := NB145_129.out; have hnc126 := NB129_145.out; have hnb127 := NB145_131.out; have hnc127 := NB131_145.out; obtain ⟨hcz128_0, hcz128_1, hcz128_2, hcz128_3, hcz128_4, hcz128_5, hcz128_6, hcz128_7, hcz128_8, hcz128_9, hcz128_10, hcz128_11, hfz128_0, hfz128_1, hfz128_2, hfz128_3, hfz128_4, hfz128_5, hfz128_6, hfz128_7, hfz128_8, hfz128_9, hfz128_10, hfz128_11⟩ := cl12 BK145; obtain ⟨hcz129_0, hcz129_1, hcz129_2, hcz129_3, hcz129_4, hcz129_5, hcz129_6, hcz129_7, hcz129_8, hcz129_9, hcz129_10, hcz129_11, hfz129_0, hfz129_1, hfz129_2, hfz129_3, hfz129_4, hfz129_5, hfz129_6, hfz129_7, hfz129_8, hfz129_9, hfz129_10, hfz129_11⟩ := cl12 BK131))
             go_ret
             exact ⟨eS, bw3 HB.out GE129.out GE131.out GE145.out⟩
            ·rw [if_neg c121] at H
             have c121b0 : (!(0 == 0) || (!(0 == 0) || (!(0 == 0) || (!(0 == 0) || ((a0_4 || ((!(a0_5 == 0) || (!(a0_6 == 0))) || (!(a0_7 == 0)))) || ((!(a0_8 == 0) || (!(a0_9 == 0))))))))) = false := by simpa using c121
             (try (have c121b1 : ((a0_4 || ((!(a0_5 == 0) || (!(a0_6 == 0))) || (!(a0_7 == 0)))) || ((!(a0_8 == 0) || (!(a0_9 == 0))))) = false := by simpa using c121))
             clear c121
             obtain rfl := Option.some.inj H
             have hnb130 := NB131_129.out
             have hnc130 := NB129_131.out
             obtain ⟨hcz131_0, hcz131_1, hcz131_2, hcz131_3, hcz131_4, hcz131_5, hcz131_6, hcz131_7, hcz131_8, hcz131_9, hcz131_10, hcz131_11, hfz131_0, hfz131_1, hfz131_2, hfz131_3, hfz131_4, hfz131_5, hfz131_6, hfz131_7, hfz131_8, hfz131_9, hfz131_10, hfz131_11⟩ := cl12 BK131
             obtain ⟨hcz132_0, hcz132_1, hcz132_2, hcz132_3, hcz132_4, hcz132_5, hcz132_6, hcz132_7, hcz132_8, hcz132_9, hcz132_10, hcz132_11, hfz132_0, hfz132_1, hfz132_2, hfz132_3, hfz132_4, hfz132_5, hfz132_6, hfz132_7, hfz132_8, hfz132_9, hfz132_10, hfz132_11⟩ := cl12 BK129
             go_wp2_with (first | ((with_reducible refine gate_callee (f := 28) rfl ?_); refine goesL_ (some 65) rfl rfl Try.func28 (by kernel_rfl) rfl #[.int .i64 a0_11] rfl gS ?_; (with_reducible refine (msg_id.calls a0_11 true _ A117.out).mono ?_); rintro e w' ⟨rfl, ⟨nd, rfl⟩⟩; refine ⟨_, rfl, ?_⟩) | (go_at_call 31; (with_reducible refine (msg_iface.calls a0_10 true _ A119.out).mono ?_); rintro e w' ⟨rfl, ⟨nd, rfl⟩⟩) | ((with_reducible refine gate_dst (N := 5) rfl ?_); refine box_event ?hg (N := 5) ?hd (cs := #[.int .u8 0, .int .i64 0, .int .u64 0, .int .i64 0, .bool false, .int .u64 0, .int .u64 0, .int .i64 0, .int .u8 0, .int .i64 0, .int .i64 0, .int .i64 0]) (t := 35) ?hr ?_; (case hd => rfl); (case hg => rfl); (case hr => first | (go_simp; done) | (go_simp; rfl)); intro gb145 hg w133 hbox hb; have n0_ := Bx2 BK129 hb NB129_131.out NB129_131.out; have n1_ := Ax (blk_below (g := gb131) (o := .cells #[.int .u8 0, .int .i64 0, .int .u64 0, .int .i64 0, .bool a0_4, .int .u64 a0_5, .int .u64 a0_6, .int .i64 a0_7, .int .u8 a0_8, .int .i64 a0_9, .int .i64 0, .int .i64 0] 35 (0, 0)) (by (with_reducible repeat (first | refine blk_drewN ?_ _ | refine blk_drew ?_ | refine blk_alloc ?_ _)); refine blk_put (cs := #[.int .u8 0, .int .i64 0, .int .u64 0, .int .i64 0, .bool a0_4, .int .u64 a0_5, .int .u64 a0_6, .int .i64 a0_7, .int .u8 a0_8, .int .i64 a0_9, .int .i64 a0_10, .int .i64 0]) ?_ 10 _ rfl; (with_reducible repeat (first | refine blk_drewN ?_ _ | refine blk_drew ?_ | refine blk_alloc ?_ _)); refine blk_put (cs := #[.int .u8 0, .int .i64 0, .int .u64 0, .int .i64 0, .bool a0_4, .int .u64 a0_5, .int .u64 a0_6, .int .i64 a0_7, .int .u8 a0_8, .int .i64 a0_9, .int .i64 a0_10, .int .i64 a0_11]) ?_ 11 _ rfl; (with_reducible repeat (first | refine blk_drewN ?_ _ | refine blk_drew ?_ | refine blk_alloc ?_ _)); exact BK131.out) hb); have n2_ := Bs2 HB hb GE129.out GE131.out; have n3_ := Ax (hbox); have n4_ := Gw2 HB hg GE129.out GE131.out; have n5_ := Gw2 HB hg GE129.out GE131.out; have n6_ := Nl2 BK129 hg NB129_131.out NB129_131.out; have n7_ := Nr2 BK129 hg NB129_131.out NB129_131.out; have n8_ := Ax ((by rw [hg]; exact Nat.ne_of_lt (blk_lt (g := gb131) (o := .cells #[.int .u8 0, .int .i64 0, .int .u64 0, .int .i64 0, .bool a0_4, .int .u64 a0_5, .int .u64 a0_6, .int .i64 a0_7, .int .u8 a0_8, .int .i64 a0_9, .int .i64 0, .int .i64 0] 35 (0, 0)) (by (with_reducible repeat (first | refine blk_drewN ?_ _ | refine blk_drew ?_ | refine blk_alloc ?_ _)); refine blk_put (cs := #[.int .u8 0, .int .i64 0, .int .u64 0, .int .i64 0, .bool a0_4, .int .u64 a0_5, .int .u64 a0_6, .int .i64 a0_7, .int .u8 a0_8, .int .i64 a0_9, .int .i64 a0_10, .int .i64 0]) ?_ 10 _ rfl; (with_reducible repeat (first | refine blk_drewN ?_ _ | refine blk_drew ?_ | refine blk_alloc ?_ _)); refine blk_put (cs := #[.int .u8 0, .int .i64 0, .int .u64 0, .int .i64 0, .bool a0_4, .int .u64 a0_5, .int .u64 a0_6, .int .i64 a0_7, .int .u8 a0_8, .int .i64 a0_9, .int .i64 a0_10, .int .i64 a0_11]) ?_ 11 _ rfl; (with_reducible repeat (first | refine blk_drewN ?_ _ | refine blk_drew ?_ | refine blk_alloc ?_ _)); exact BK131.out)) : gb131 ≠ gb145)); have n9_ := Ax ((by rw [hg]; exact Nat.ne_of_gt (blk_lt (g := gb131) (o := .cells #[.int .u8 0, .int .i64 0, .int .u64 0, .int .i64 0, .bool a0_4, .int .u64 a0_5, .int .u64 a0_6, .int .i64 a0_7, .int .u8 a0_8, .int .i64 a0_9, .int .i64 0, .int .i64 0] 35 (0, 0)) (by (with_reducible repeat (first | refine blk_drewN ?_ _ | refine blk_drew ?_ | refine blk_alloc ?_ _)); refine blk_put (cs := #[.int .u8 0, .int .i64 0, .int .u64 0, .int .i64 0, .bool a0_4, .int .u64 a0_5, .int .u64 a0_6, .int .i64 a0_7, .int .u8 a0_8, .int .i64 a0_9, .int .i64 a0_10, .int .i64 0]) ?_ 10 _ rfl; (with_reducible repeat (first | refine blk_drewN ?_ _ | refine blk_drew ?_ | refine blk_alloc ?_ _)); refine blk_put (cs := #[.int .u8 0, .int .i64 0, .int .u64 0, .int .i64 0, .bool a0_4, .int .u64 a0_5, .int .u64 a0_6, .int .i64 a0_7, .int .u8 a0_8, .int .i64 a0_9, .int .i64 a0_10, .int .i64 a0_11]) ?_ 11 _ rfl; (with_reducible repeat (first | refine blk_drewN ?_ _ | refine blk_drew ?_ | refine blk_alloc ?_ _)); exact BK131.out)) : gb145 ≠ gb131)); clear BK129; clear BK131; clear HB; have BK129 := n0_; have BK131 := n1_; have HB := n2_; have BK145 := n3_; have GW145 := n4_; have GE145 := n5_; have NB129_145 := n6_; have NB145_129 := n7_; have NB131_145 := n8_; have NB145_131 := n9_; clear n0_ n1_ n2_ n3_ n4_ n5_ n6_ n7_ n8_ n9_; clear hb hbox hg; have hnb134 := NB145_129.out; have hnc134 := NB129_145.out; have hnb135 := NB145_131.out; have hnc135 := NB131_145.out; obtain ⟨hcz136_0, hcz136_1, hcz136_2, hcz136_3, hcz136_4, hcz136_5, hcz136_6, hcz136_7, hcz136_8, hcz136_9, hcz136_10, hcz136_11, hfz136_0, hfz136_1, hfz136_2, hfz136_3, hfz136_4, hfz136_5, hfz136_6, hfz136_7, hfz136_8, hfz136_9, hfz136_10, hfz136_11⟩ := cl12 BK145; obtain ⟨hcz137_0, hcz137_1, hcz137_2, hcz137_3, hcz137_4, hcz137_5, hcz137_6, hcz137_7, hcz137_8, hcz137_9, hcz137_10, hcz137_11, hfz137_0, hfz137_1, hfz137_2, hfz137_3, hfz137_4, hfz137_5, hfz137_6, hfz137_7, hfz137_8, hfz137_9, hfz137_10, hfz137_11⟩ := cl12 BK131))
             go_ret
             exact ⟨eS, bw3 HB.out GE129.out GE131.out GE145.out⟩
           ·replace c120 := Bool.eq_false_iff.mpr c120
            subst c120
            have H1 : (some 2) = some r := by rw [if_neg (show ¬ (false = true) by decide)] at H; exact H
            clear H
            have H := H1
            clear H1
            obtain rfl := Option.some.inj H
            have hnb138 := NB131_129.out
            have hnc138 := NB129_131.out
            obtain ⟨hcz139_0, hcz139_1, hcz139_2, hcz139_3, hcz139_4, hcz139_5, hcz139_6, hcz139_7, hcz139_8, hcz139_9, hcz139_10, hcz139_11, hfz139_0, hfz139_1, hfz139_2, hfz139_3, hfz139_4, hfz139_5, hfz139_6, hfz139_7, hfz139_8, hfz139_9, hfz139_10, hfz139_11⟩ := cl12 BK131
            obtain ⟨hcz140_0, hcz140_1, hcz140_2, hcz140_3, hcz140_4, hcz140_5, hcz140_6, hcz140_7, hcz140_8, hcz140_9, hcz140_10, hcz140_11, hfz140_0, hfz140_1, hfz140_2, hfz140_3, hfz140_4, hfz140_5, hfz140_6, hfz140_7, hfz140_8, hfz140_9, hfz140_10, hfz140_11⟩ := cl12 BK129
            go_wp2_with (first | ((with_reducible refine gate_callee (f := 28) rfl ?_); refine goesL_ (some 65) rfl rfl Try.func28 (by kernel_rfl) rfl #[.int .i64 a0_11] rfl gS ?_; (with_reducible refine (msg_id.calls a0_11 true _ A117.out).mono ?_); rintro e w' ⟨rfl, ⟨nd, rfl⟩⟩; refine ⟨_, rfl, ?_⟩) | (go_at_call 31; (with_reducible refine (msg_iface.calls a0_10 false _ A119.out).mono ?_); rintro e w' ⟨rfl, ⟨nd, rfl⟩⟩) | ((with_reducible refine gate_dst (N := 5) rfl ?_); refine box_event ?hg (N := 5) ?hd (cs := #[.int .u8 0, .int .i64 0, .int .u64 0, .int .i64 0, .bool false, .int .u64 0, .int .u64 0, .int .i64 0, .int .u8 0, .int .i64 0, .int .i64 0, .int .i64 0]) (t := 35) ?hr ?_; (case hd => rfl); (case hg => rfl); (case hr => first | (go_simp; done) | (go_simp; rfl)); intro gb145 hg w141 hbox hb; have n0_ := Bx2 BK129 hb NB129_131.out NB129_131.out; have n1_ := Ax (blk_below (g := gb131) (o := .cells #[.int .u8 0, .int .i64 0, .int .u64 0, .int .i64 0, .bool a0_4, .int .u64 a0_5, .int .u64 a0_6, .int .i64 a0_7, .int .u8 a0_8, .int .i64 a0_9, .int .i64 0, .int .i64 0] 35 (0, 0)) (by (with_reducible repeat (first | refine blk_drewN ?_ _ | refine blk_drew ?_ | refine blk_alloc ?_ _)); refine blk_put (cs := #[.int .u8 0, .int .i64 0, .int .u64 0, .int .i64 0, .bool a0_4, .int .u64 a0_5, .int .u64 a0_6, .int .i64 a0_7, .int .u8 a0_8, .int .i64 a0_9, .int .i64 a0_10, .int .i64 0]) ?_ 10 _ rfl; (with_reducible repeat (first | refine blk_drewN ?_ _ | refine blk_drew ?_ | refine blk_alloc ?_ _)); refine blk_put (cs := #[.int .u8 0, .int .i64 0, .int .u64 0, .int .i64 0, .bool a0_4, .int .u64 a0_5, .int .u64 a0_6, .int .i64 a0_7, .int .u8 a0_8, .int .i64 a0_9, .int .i64 a0_10, .int .i64 a0_11]) ?_ 11 _ rfl; (with_reducible repeat (first | refine blk_drewN ?_ _ | refine blk_drew ?_ | refine blk_alloc ?_ _)); exact BK131.out) hb); have n2_ := Bs2 HB hb GE129.out GE131.out; have n3_ := Ax (hbox); have n4_ := Gw2 HB hg GE129.out GE131.out; have n5_ := Gw2 HB hg GE129.out GE131.out; have n6_ := Nl2 BK129 hg NB129_131.out NB129_131.out; have n7_ := Nr2 BK129 hg NB129_131.out NB129_131.out; have n8_ := Ax ((by rw [hg]; exact Nat.ne_of_lt (blk_lt (g := gb131) (o := .cells #[.int .u8 0, .int .i64 0, .int .u64 0, .int .i64 0, .bool a0_4, .int .u64 a0_5, .int .u64 a0_6, .int .i64 a0_7, .int .u8 a0_8, .int .i64 a0_9, .int .i64 0, .int .i64 0] 35 (0, 0)) (by (with_reducible repeat (first | refine blk_drewN ?_ _ | refine blk_drew ?_ | refine blk_alloc ?_ _)); refine blk_put (cs := #[.int .u8 0, .int .i64 0, .int .u64 0, .int .i64 0, .bool a0_4, .int .u64 a0_5, .int .u64 a0_6, .int .i64 a0_7, .int .u8 a0_8, .int .i64 a0_9, .int .i64 a0_10, .int .i64 0]) ?_ 10 _ rfl; (with_reducible repeat (first | refine blk_drewN ?_ _ | refine blk_drew ?_ | refine blk_alloc ?_ _)); refine blk_put (cs := #[.int .u8 0, .int .i64 0, .int .u64 0, .int .i64 0, .bool a0_4, .int .u64 a0_5, .int .u64 a0_6, .int .i64 a0_7, .int .u8 a0_8, .int .i64 a0_9, .int .i64 a0_10, .int .i64 a0_11]) ?_ 11 _ rfl; (with_reducible repeat (first | refine blk_drewN ?_ _ | refine blk_drew ?_ | refine blk_alloc ?_ _)); exact BK131.out)) : gb131 ≠ gb145)); have n9_ := Ax ((by rw [hg]; exact Nat.ne_of_gt (blk_lt (g := gb131) (o := .cells #[.int .u8 0, .int .i64 0, .int .u64 0, .int .i64 0, .bool a0_4, .int .u64 a0_5, .int .u64 a0_6, .int .i64 a0_7, .int .u8 a0_8, .int .i64 a0_9, .int .i64 0, .int .i64 0] 35 (0, 0)) (by (with_reducible repeat (first | refine blk_drewN ?_ _ | refine blk_drew ?_ | refine blk_alloc ?_ _)); refine blk_put (cs := #[.int .u8 0, .int .i64 0, .int .u64 0, .int .i64 0, .bool a0_4, .int .u64 a0_5, .int .u64 a0_6, .int .i64 a0_7, .int .u8 a0_8, .int .i64 a0_9, .int .i64 a0_10, .int .i64 0]) ?_ 10 _ rfl; (with_reducible repeat (first | refine blk_drewN ?_ _ | refine blk_drew ?_ | refine blk_alloc ?_ _)); refine blk_put (cs := #[.int .u8 0, .int .i64 0, .int .u64 0, .int .i64 0, .bool a0_4, .int .u64 a0_5, .int .u64 a0_6, .int .i64 a0_7, .int .u8 a0_8, .int .i64 a0_9, .int .i64 a0_10, .int .i64 a0_11]) ?_ 11 _ rfl; (with_reducible repeat (first | refine blk_drewN ?_ _ | refine blk_drew ?_ | refine blk_alloc ?_ _)); exact BK131.out)) : gb145 ≠ gb131)); clear BK129; clear BK131; clear HB; have BK129 := n0_; have BK131 := n1_; have HB := n2_; have BK145 := n3_; have GW145 := n4_; have GE145 := n5_; have NB129_145 := n6_; have NB145_129 := n7_; have NB131_145 := n8_; have NB145_131 := n9_; clear n0_ n1_ n2_ n3_ n4_ n5_ n6_ n7_ n8_ n9_; clear hb hbox hg; have hnb142 := NB145_129.out; have hnc142 := NB129_145.out; have hnb143 := NB145_131.out; have hnc143 := NB131_145.out; obtain ⟨hcz144_0, hcz144_1, hcz144_2, hcz144_3, hcz144_4, hcz144_5, hcz144_6, hcz144_7, hcz144_8, hcz144_9, hcz144_10, hcz144_11, hfz144_0, hfz144_1, hfz144_2, hfz144_3, hfz144_4, hfz144_5, hfz144_6, hfz144_7, hfz144_8, hfz144_9, hfz144_10, hfz144_11⟩ := cl12 BK145))
            go_ret
            exact ⟨eS, bw3 HB.out GE129.out GE131.out GE145.out⟩
          ·replace c118 := Bool.eq_false_iff.mpr c118
           subst c118
           have H1 : (some 2) = some r := by rw [if_neg (show ¬ (false = true) by decide)] at H; exact H
           clear H
           have H := H1
           clear H1
           obtain rfl := Option.some.inj H
           have hnb145 := NB131_129.out
           have hnc145 := NB129_131.out
           obtain ⟨hcz146_0, hcz146_1, hcz146_2, hcz146_3, hcz146_4, hcz146_5, hcz146_6, hcz146_7, hcz146_8, hcz146_9, hcz146_10, hcz146_11, hfz146_0, hfz146_1, hfz146_2, hfz146_3, hfz146_4, hfz146_5, hfz146_6, hfz146_7, hfz146_8, hfz146_9, hfz146_10, hfz146_11⟩ := cl12 BK131
           obtain ⟨hcz147_0, hcz147_1, hcz147_2, hcz147_3, hcz147_4, hcz147_5, hcz147_6, hcz147_7, hcz147_8, hcz147_9, hcz147_10, hcz147_11, hfz147_0, hfz147_1, hfz147_2, hfz147_3, hfz147_4, hfz147_5, hfz147_6, hfz147_7, hfz147_8, hfz147_9, hfz147_10, hfz147_11⟩ := cl12 BK129
           go_wp2_with (first | ((with_reducible refine gate_callee (f := 28) rfl ?_); refine goesL_ (some 65) rfl rfl Try.func28 (by kernel_rfl) rfl #[.int .i64 a0_11] rfl gS ?_; (with_reducible refine (msg_id.calls a0_11 false _ A117.out).mono ?_); rintro e w' ⟨rfl, ⟨nd, rfl⟩⟩; refine ⟨_, rfl, ?_⟩) | ((with_reducible refine gate_dst (N := 5) rfl ?_); refine box_event ?hg (N := 5) ?hd (cs := #[.int .u8 0, .int .i64 0, .int .u64 0, .int .i64 0, .bool false, .int .u64 0, .int .u64 0, .int .i64 0, .int .u8 0, .int .i64 0, .int .i64 0, .int .i64 0]) (t := 35) ?hr ?_; (case hd => rfl); (case hg => rfl); (case hr => first | (go_simp; done) | (go_simp; rfl)); intro gb146 hg w148 hbox hb; have n0_ := Bx2 BK129 hb NB129_131.out NB129_131.out; have n1_ := Ax (blk_below (g := gb131) (o := .cells #[.int .u8 0, .int .i64 0, .int .u64 0, .int .i64 0, .bool a0_4, .int .u64 a0_5, .int .u64 a0_6, .int .i64 a0_7, .int .u8 a0_8, .int .i64 a0_9, .int .i64 0, .int .i64 0] 35 (0, 0)) (by (with_reducible repeat (first | refine blk_drewN ?_ _ | refine blk_drew ?_ | refine blk_alloc ?_ _)); refine blk_put (cs := #[.int .u8 0, .int .i64 0, .int .u64 0, .int .i64 0, .bool a0_4, .int .u64 a0_5, .int .u64 a0_6, .int .i64 a0_7, .int .u8 a0_8, .int .i64 a0_9, .int .i64 a0_10, .int .i64 0]) ?_ 10 _ rfl; (with_reducible repeat (first | refine blk_drewN ?_ _ | refine blk_drew ?_ | refine blk_alloc ?_ _)); refine blk_put (cs := #[.int .u8 0, .int .i64 0, .int .u64 0, .int .i64 0, .bool a0_4, .int .u64 a0_5, .int .u64 a0_6, .int .i64 a0_7, .int .u8 a0_8, .int .i64 a0_9, .int .i64 a0_10, .int .i64 a0_11]) ?_ 11 _ rfl; (with_reducible repeat (first | refine blk_drewN ?_ _ | refine blk_drew ?_ | refine blk_alloc ?_ _)); exact BK131.out) hb); have n2_ := Bs2 HB hb GE129.out GE131.out; have n3_ := Ax (hbox); have n4_ := Gw2 HB hg GE129.out GE131.out; have n5_ := Gw2 HB hg GE129.out GE131.out; have n6_ := Nl2 BK129 hg NB129_131.out NB129_131.out; have n7_ := Nr2 BK129 hg NB129_131.out NB129_131.out; have n8_ := Ax ((by rw [hg]; exact Nat.ne_of_lt (blk_lt (g := gb131) (o := .cells #[.int .u8 0, .int .i64 0, .int .u64 0, .int .i64 0, .bool a0_4, .int .u64 a0_5, .int .u64 a0_6, .int .i64 a0_7, .int .u8 a0_8, .int .i64 a0_9, .int .i64 0, .int .i64 0] 35 (0, 0)) (by (with_reducible repeat (first | refine blk_drewN ?_ _ | refine blk_drew ?_ | refine blk_alloc ?_ _)); refine blk_put (cs := #[.int .u8 0, .int .i64 0, .int .u64 0, .int .i64 0, .bool a0_4, .int .u64 a0_5, .int .u64 a0_6, .int .i64 a0_7, .int .u8 a0_8, .int .i64 a0_9, .int .i64 a0_10, .int .i64 0]) ?_ 10 _ rfl; (with_reducible repeat (first | refine blk_drewN ?_ _ | refine blk_drew ?_ | refine blk_alloc ?_ _)); refine blk_put (cs := #[.int .u8 0, .int .i64 0, .int .u64 0, .int .i64 0, .bool a0_4, .int .u64 a0_5, .int .u64 a0_6, .int .i64 a0_7, .int .u8 a0_8, .int .i64 a0_9, .int .i64 a0_10, .int .i64 a0_11]) ?_ 11 _ rfl; (with_reducible repeat (first | refine blk_drewN ?_ _ | refine blk_drew ?_ | refine blk_alloc ?_ _)); exact BK131.out)) : gb131 ≠ gb146)); have n9_ := Ax ((by rw [hg]; exact Nat.ne_of_gt (blk_lt (g := gb131) (o := .cells #[.int .u8 0, .int .i64 0, .int .u64 0, .int .i64 0, .bool a0_4, .int .u64 a0_5, .int .u64 a0_6, .int .i64 a0_7, .int .u8 a0_8, .int .i64 a0_9, .int .i64 0, .int .i64 0] 35 (0, 0)) (by (with_reducible repeat (first | refine blk_drewN ?_ _ | refine blk_drew ?_ | refine blk_alloc ?_ _)); refine blk_put (cs := #[.int .u8 0, .int .i64 0, .int .u64 0, .int .i64 0, .bool a0_4, .int .u64 a0_5, .int .u64 a0_6, .int .i64 a0_7, .int .u8 a0_8, .int .i64 a0_9, .int .i64 a0_10, .int .i64 0]) ?_ 10 _ rfl; (with_reducible repeat (first | refine blk_drewN ?_ _ | refine blk_drew ?_ | refine blk_alloc ?_ _)); refine blk_put (cs := #[.int .u8 0, .int .i64 0, .int .u64 0, .int .i64 0, .bool a0_4, .int .u64 a0_5, .int .u64 a0_6, .int .i64 a0_7, .int .u8 a0_8, .int .i64 a0_9, .int .i64 a0_10, .int .i64 a0_11]) ?_ 11 _ rfl; (with_reducible repeat (first | refine blk_drewN ?_ _ | refine blk_drew ?_ | refine blk_alloc ?_ _)); exact BK131.out)) : gb146 ≠ gb131)); clear BK129; clear BK131; clear HB; have BK129 := n0_; have BK131 := n1_; have HB := n2_; have BK146 := n3_; have GW146 := n4_; have GE146 := n5_; have NB129_146 := n6_; have NB146_129 := n7_; have NB131_146 := n8_; have NB146_131 := n9_; clear n0_ n1_ n2_ n3_ n4_ n5_ n6_ n7_ n8_ n9_; clear hb hbox hg; have hnb149 := NB146_129.out; have hnc149 := NB129_146.out; have hnb150 := NB146_131.out; have hnc150 := NB131_146.out; obtain ⟨hcz151_0, hcz151_1, hcz151_2, hcz151_3, hcz151_4, hcz151_5, hcz151_6, hcz151_7, hcz151_8, hcz151_9, hcz151_10, hcz151_11, hfz151_0, hfz151_1, hfz151_2, hfz151_3, hfz151_4, hfz151_5, hfz151_6, hfz151_7, hfz151_8, hfz151_9, hfz151_10, hfz151_11⟩ := cl12 BK146))
           go_ret
           exact ⟨eS, bw3 HB.out GE129.out GE131.out GE146.out⟩
         ·rw [if_neg c116] at H
          have c116b0 : (a0_0 == 5) = false := beq_eq_false_iff_ne.mpr c116
          have c116b1 : (a0_0 != 5) = true := bne_iff_ne.mpr c116
          by_cases c152 : a0_0 = 6
          ·rw [if_pos c152] at H
           have c152b0 : (a0_0 == 6) = true := beq_iff_eq.mpr c152
           have c152b1 : (a0_0 != 6) = false := bne_eq_false_iff_eq.mpr c152
           clear c152
           replace H : ((msg_iface.f a0_10).bind fun t140 => (if t140 = true then (if (!(0 == 0) || (!(0 == 0) || (!(0 == 0) || (!(0 == 0) || ((a0_4 || ((!(a0_5 == 0) || (!(a0_6 == 0))) || (!(a0_7 == 0)))) || ((!(a0_8 == 0) || (!(a0_9 == 0))) || (!(a0_11 == 0)))))))) = true then (some 2) else (some 0)) else (some 2))) = some r := by rw [if_pos rfl] at H; exact H
           replace H := Option.bind_eq_some_iff.mp H
           obtain ⟨t140, A1530, H⟩ := H
           replace H : (if t140 = true then (if (!(0 == 0) || (!(0 == 0) || (!(0 == 0) || (!(0 == 0) || ((a0_4 || ((!(a0_5 == 0) || (!(a0_6 == 0))) || (!(a0_7 == 0)))) || ((!(a0_8 == 0) || (!(a0_9 == 0))) || (!(a0_11 == 0)))))))) = true then (some 2) else (some 0)) else (some 2)) = some r := H
           have A153 := Ax A1530
           clear A1530
           by_cases c154 : t140 = true
           ·subst c154
            have H1 : (if (!(0 == 0) || (!(0 == 0) || (!(0 == 0) || (!(0 == 0) || ((a0_4 || ((!(a0_5 == 0) || (!(a0_6 == 0))) || (!(a0_7 == 0)))) || ((!(a0_8 == 0) || (!(a0_9 == 0))) || (!(a0_11 == 0)))))))) = true then (some 2) else (some 0)) = some r := by rw [if_pos rfl] at H; exact H
            clear H
            have H := H1
            clear H1
            by_cases c155 : (!(0 == 0) || (!(0 == 0) || (!(0 == 0) || (!(0 == 0) || ((a0_4 || ((!(a0_5 == 0) || (!(a0_6 == 0))) || (!(a0_7 == 0)))) || ((!(a0_8 == 0) || (!(a0_9 == 0))) || (!(a0_11 == 0)))))))) = true
            ·rw [if_pos c155] at H
             have c155b0 : (!(0 == 0) || (!(0 == 0) || (!(0 == 0) || (!(0 == 0) || ((a0_4 || ((!(a0_5 == 0) || (!(a0_6 == 0))) || (!(a0_7 == 0)))) || ((!(a0_8 == 0) || (!(a0_9 == 0))) || (!(a0_11 == 0)))))))) = true := c155
             (try (have c155b1 : ((a0_4 || ((!(a0_5 == 0) || (!(a0_6 == 0))) || (!(a0_7 == 0)))) || ((!(a0_8 == 0) || (!(a0_9 == 0))) || (!(a0_11 == 0)))) = true := by simpa using c155))
             clear c155
             obtain rfl := Option.some.inj H
             have hnb156 := NB131_129.out
             have hnc156 := NB129_131.out
             obtain ⟨hcz157_0, hcz157_1, hcz157_2, hcz157_3, hcz157_4, hcz157_5, hcz157_6, hcz157_7, hcz157_8, hcz157_9, hcz157_10, hcz157_11, hfz157_0, hfz157_1, hfz157_2, hfz157_3, hfz157_4, hfz157_5, hfz157_6, hfz157_7, hfz157_8, hfz157_9, hfz157_10, hfz157_11⟩ := cl12 BK131
             obtain ⟨hcz158_0, hcz158_1, hcz158_2, hcz158_3, hcz158_4, hcz158_5, hcz158_6, hcz158_7, hcz158_8, hcz158_9, hcz158_10, hcz158_11, hfz158_0, hfz158_1, hfz158_2, hfz158_3, hfz158_4, hfz158_5, hfz158_6, hfz158_7, hfz158_8, hfz158_9, hfz158_10, hfz158_11⟩ := cl12 BK129
             go_wp2_with (first | (go_at_call 31; (with_reducible refine (msg_iface.calls a0_10 true _ A153.out).mono ?_); rintro e w' ⟨rfl, ⟨nd, rfl⟩⟩) | ((with_reducible refine gate_dst (N := 5) rfl ?_); refine box_event ?hg (N := 5) ?hd (cs := #[.int .u8 0, .int .i64 0, .int .u64 0, .int .i64 0, .bool false, .int .u64 0, .int .u64 0, .int .i64 0, .int .u8 0, .int .i64 0, .int .i64 0, .int .i64 0]) (t := 35) ?hr ?_; (case hd => rfl); (case hg => rfl); (case hr => first | (go_simp; done) | (go_simp; rfl)); intro gb141 hg w159 hbox hb; have n0_ := Bx1 BK129 hb NB129_131.out; have n1_ := Ax (blk_below (g := gb131) (o := .cells #[.int .u8 0, .int .i64 0, .int .u64 0, .int .i64 0, .bool a0_4, .int .u64 a0_5, .int .u64 a0_6, .int .i64 a0_7, .int .u8 a0_8, .int .i64 a0_9, .int .i64 0, .int .i64 a0_11] 35 (0, 0)) (by (with_reducible repeat (first | refine blk_drewN ?_ _ | refine blk_drew ?_ | refine blk_alloc ?_ _)); refine blk_put (cs := #[.int .u8 0, .int .i64 0, .int .u64 0, .int .i64 0, .bool a0_4, .int .u64 a0_5, .int .u64 a0_6, .int .i64 a0_7, .int .u8 a0_8, .int .i64 a0_9, .int .i64 a0_10, .int .i64 a0_11]) ?_ 10 _ rfl; (with_reducible repeat (first | refine blk_drewN ?_ _ | refine blk_drew ?_ | refine blk_alloc ?_ _)); exact BK131.out) hb); have n2_ := Bs2 HB hb GE129.out GE131.out; have n3_ := Ax (hbox); have n4_ := Gw2 HB hg GE129.out GE131.out; have n5_ := Gw2 HB hg GE129.out GE131.out; have n6_ := Nl1 BK129 hg NB129_131.out; have n7_ := Nr1 BK129 hg NB129_131.out; have n8_ := Ax ((by rw [hg]; exact Nat.ne_of_lt (blk_lt (g := gb131) (o := .cells #[.int .u8 0, .int .i64 0, .int .u64 0, .int .i64 0, .bool a0_4, .int .u64 a0_5, .int .u64 a0_6, .int .i64 a0_7, .int .u8 a0_8, .int .i64 a0_9, .int .i64 0, .int .i64 a0_11] 35 (0, 0)) (by (with_reducible repeat (first | refine blk_drewN ?_ _ | refine blk_drew ?_ | refine blk_alloc ?_ _)); refine blk_put (cs := #[.int .u8 0, .int .i64 0, .int .u64 0, .int .i64 0, .bool a0_4, .int .u64 a0_5, .int .u64 a0_6, .int .i64 a0_7, .int .u8 a0_8, .int .i64 a0_9, .int .i64 a0_10, .int .i64 a0_11]) ?_ 10 _ rfl; (with_reducible repeat (first | refine blk_drewN ?_ _ | refine blk_drew ?_ | refine blk_alloc ?_ _)); exact BK131.out)) : gb131 ≠ gb141)); have n9_ := Ax ((by rw [hg]; exact Nat.ne_of_gt (blk_lt (g := gb131) (o := .cells #[.int .u8 0, .int .i64 0, .int .u64 0, .int .i64 0, .bool a0_4, .int .u64 a0_5, .int .u64 a0_6, .int .i64 a0_7, .int .u8 a0_8, .int .i64 a0_9, .int .i64 0, .int .i64 a0_11] 35 (0, 0)) (by (with_reducible repeat (first | refine blk_drewN ?_ _ | refine blk_drew ?_ | refine blk_alloc ?_ _)); refine blk_put (cs := #[.int .u8 0, .int .i64 0, .int .u64 0, .int .i64 0, .bool a0_4, .int .u64 a0_5, .int .u64 a0_6, .int .i64 a0_7, .int .u8 a0_8, .int .i64 a0_9, .int .i64 a0_10, .int .i64 a0_11]) ?_ 10 _ rfl; (with_reducible repeat (first | refine blk_drewN ?_ _ | refine blk_drew ?_ | refine blk_alloc ?_ _)); exact BK131.out)) : gb141 ≠ gb131)); clear BK129; clear BK131; clear HB; have BK129 := n0_; have BK131 := n1_; have HB := n2_; have BK141 := n3_; have GW141 := n4_; have GE141 := n5_; have NB129_141 := n6_; have NB141_129 := n7_; have NB131_141 := n8_; have NB141_131 := n9_; clear n0_ n1_ n2_ n3_ n4_ n5_ n6_ n7_ n8_ n9_; clear hb hbox hg; have hnb160 := NB141_129.out; have hnc160 := NB129_141.out; have hnb161 := NB141_131.out; have hnc161 := NB131_141.out; obtain ⟨hcz162_0, hcz162_1, hcz162_2, hcz162_3, hcz162_4, hcz162_5, hcz162_6, hcz162_7, hcz162_8, hcz162_9, hcz162_10, hcz162_11, hfz162_0, hfz162_1, hfz162_2, hfz162_3, hfz162_4, hfz162_5, hfz162_6, hfz162_7, hfz162_8, hfz162_9, hfz162_10, hfz162_11⟩ := cl12 BK141; obtain ⟨hcz163_0, hcz163_1, hcz163_2, hcz163_3, hcz163_4, hcz163_5, hcz163_6, hcz163_7, hcz163_8, hcz163_9, hcz163_10, hcz163_11, hfz163_0, hfz163_1, hfz163_2, hfz163_3, hfz163_4, hfz163_5, hfz163_6, hfz163_7, hfz163_8, hfz163_9, hfz163_10, hfz163_11⟩ := cl12 BK131))
             go_ret
             exact ⟨eS, bw3 HB.out GE129.out GE131.out GE141.out⟩
            ·rw [if_neg c155] at H
             have c155b0 : (!(0 == 0) || (!(0 == 0) || (!(0 == 0) || (!(0 == 0) || ((a0_4 || ((!(a0_5 == 0) || (!(a0_6 == 0))) || (!(a0_7 == 0)))) || ((!(a0_8 == 0) || (!(a0_9 == 0))) || (!(a0_11 == 0)))))))) = false := by simpa using c155
             (try (have c155b1 : ((a0_4 || ((!(a0_5 == 0) || (!(a0_6 == 0))) || (!(a0_7 == 0)))) || ((!(a0_8 == 0) || (!(a0_9 == 0))) || (!(a0_11 == 0)))) = false := by simpa using c155))
             clear c155
             obtain rfl := Option.some.inj H
             have hnb164 := NB131_129.out
             have hnc164 := NB129_131.out
             obtain ⟨hcz165_0, hcz165_1, hcz165_2, hcz165_3, hcz165_4, hcz165_5, hcz165_6, hcz165_7, hcz165_8, hcz165_9, hcz165_10, hcz165_11, hfz165_0, hfz165_1, hfz165_2, hfz165_3, hfz165_4, hfz165_5, hfz165_6, hfz165_7, hfz165_8, hfz165_9, hfz165_10, hfz165_11⟩ := cl12 BK131
             obtain ⟨hcz166_0, hcz166_1, hcz166_2, hcz166_3, hcz166_4, hcz166_5, hcz166_6, hcz166_7, hcz166_8, hcz166_9, hcz166_10, hcz166_11, hfz166_0, hfz166_1, hfz166_2, hfz166_3, hfz166_4, hfz166_5, hfz166_6, hfz166_7, hfz166_8, hfz166_9, hfz166_10, hfz166_11⟩ := cl12 BK129
             go_wp2_with (first | (go_at_call 31; (with_reducible refine (msg_iface.calls a0_10 true _ A153.out).mono ?_); rintro e w' ⟨rfl, ⟨nd, rfl⟩⟩) | ((with_reducible refine gate_dst (N := 5) rfl ?_); refine box_event ?hg (N := 5) ?hd (cs := #[.int .u8 0, .int .i64 0, .int .u64 0, .int .i64 0, .bool false, .int .u64 0, .int .u64 0, .int .i64 0, .int .u8 0, .int .i64 0, .int .i64 0, .int .i64 0]) (t := 35) ?hr ?_; (case hd => rfl); (case hg => rfl); (case hr => first | (go_simp; done) | (go_simp; rfl)); intro gb141 hg w167 hbox hb; have n0_ := Bx1 BK129 hb NB129_131.out; have n1_ := Ax (blk_below (g := gb131) (o := .cells #[.int .u8 0, .int .i64 0, .int .u64 0, .int .i64 0, .bool a0_4, .int .u64 a0_5, .int .u64 a0_6, .int .i64 a0_7, .int .u8 a0_8, .int .i64 a0_9, .int .i64 0, .int .i64 a0_11] 35 (0, 0)) (by (with_reducible repeat (first | refine blk_drewN ?_ _ | refine blk_drew ?_ | refine blk_alloc ?_ _)); refine blk_put (cs := #[.int .u8 0, .int .i64 0, .int .u64 0, .int .i64 0, .bool a0_4, .int .u64 a0_5, .int .u64 a0_6, .int .i64 a0_7, .int .u8 a0_8, .int .i64 a0_9, .int .i64 a0_10, .int .i64 a0_11]) ?_ 10 _ rfl; (with_reducible repeat (first | refine blk_drewN ?_ _ | refine blk_drew ?_ | refine blk_alloc ?_ _)); exact BK131.out) hb); have n2_ := Bs2 HB hb GE129.out GE131.out; have n3_ := Ax (hbox); have n4_ := Gw2 HB hg GE129.out GE131.out; have n5_ := Gw2 HB hg GE129.out GE131.out; have n6_ := Nl1 BK129 hg NB129_131.out; have n7_ := Nr1 BK129 hg NB129_131.out; have n8_ := Ax ((by rw [hg]; exact Nat.ne_of_lt (blk_lt (g := gb131) (o := .cells #[.int .u8 0, .int .i64 0, .int .u64 0, .int .i64 0, .bool a0_4, .int .u64 a0_5, .int .u64 a0_6, .int .i64 a0_7, .int .u8 a0_8, .int .i64 a0_9, .int .i64 0, .int .i64 a0_11] 35 (0, 0)) (by (with_reducible repeat (first | refine blk_drewN ?_ _ | refine blk_drew ?_ | refine blk_alloc ?_ _)); refine blk_put (cs := #[.int .u8 0, .int .i64 0, .int .u64 0, .int .i64 0, .bool a0_4, .int .u64 a0_5, .int .u64 a0_6, .int .i64 a0_7, .int .u8 a0_8, .int .i64 a0_9, .int .i64 a0_10, .int .i64 a0_11]) ?_ 10 _ rfl; (with_reducible repeat (first | refine blk_drewN ?_ _ | refine blk_drew ?_ | refine blk_alloc ?_ _)); exact BK131.out)) : gb131 ≠ gb141)); have n9_ := Ax ((by rw [hg]; exact Nat.ne_of_gt (blk_lt (g := gb131) (o := .cells #[.int .u8 0, .int .i64 0, .int .u64 0, .int .i64 0, .bool a0_4, .int .u64 a0_5, .int .u64 a0_6, .int .i64 a0_7, .int .u8 a0_8, .int .i64 a0_9, .int .i64 0, .int .i64 a0_11] 35 (0, 0)) (by (with_reducible repeat (first | refine blk_drewN ?_ _ | refine blk_drew ?_ | refine blk_alloc ?_ _)); refine blk_put (cs := #[.int .u8 0, .int .i64 0, .int .u64 0, .int .i64 0, .bool a0_4, .int .u64 a0_5, .int .u64 a0_6, .int .i64 a0_7, .int .u8 a0_8, .int .i64 a0_9, .int .i64 a0_10, .int .i64 a0_11]) ?_ 10 _ rfl; (with_reducible repeat (first | refine blk_drewN ?_ _ | refine blk_drew ?_ | refine blk_alloc ?_ _)); exact BK131.out)) : gb141 ≠ gb131)); clear BK129; clear BK131; clear HB; have BK129 := n0_; have BK131 := n1_; have HB := n2_; have BK141 := n3_; have GW141 := n4_; have GE141 := n5_; have NB129_141 := n6_; have NB141_129 := n7_; have NB131_141 := n8_; have NB141_131 := n9_; clear n0_ n1_ n2_ n3_ n4_ n5_ n6_ n7_ n8_ n9_; clear hb hbox hg; have hnb168 := NB141_129.out; have hnc168 := NB129_141.out; have hnb169 := NB141_131.out; have hnc169 := NB131_141.out; obtain ⟨hcz170_0, hcz170_1, hcz170_2, hcz170_3, hcz170_4, hcz170_5, hcz170_6, hcz170_7, hcz170_8, hcz170_9, hcz170_10, hcz170_11, hfz170_0, hfz170_1, hfz170_2, hfz170_3, hfz170_4, hfz170_5, hfz170_6, hfz170_7, hfz170_8, hfz170_9, hfz170_10, hfz170_11⟩ := cl12 BK141; obtain ⟨hcz171_0, hcz171_1, hcz171_2, hcz171_3, hcz171_4, hcz171_5, hcz171_6, hcz171_7, hcz171_8, hcz171_9, hcz171_10, hcz171_11, hfz171_0, hfz171_1, hfz171_2, hfz171_3, hfz171_4, hfz171_5, hfz171_6, hfz171_7, hfz171_8, hfz171_9, hfz171_10, hfz171_11⟩ := cl12 BK131))
             go_ret
             exact ⟨eS, bw3 HB.out GE129.out GE131.out GE141.out⟩
           ·replace c154 := Bool.eq_false_iff.mpr c154
            subst c154
            have H1 : (some 2) = some r := by rw [if_neg (show ¬ (false = true) by decide)] at H; exact H
            clear H
            have H := H1
            clear H1
            obtain rfl := Option.some.inj H
            have hnb172 := NB131_129.out
            have hnc172 := NB129_131.out
            obtain ⟨hcz173_0, hcz173_1, hcz173_2, hcz173_3, hcz173_4, hcz173_5, hcz173_6, hcz173_7, hcz173_8, hcz173_9, hcz173_10, hcz173_11, hfz173_0, hfz173_1, hfz173_2, hfz173_3, hfz173_4, hfz173_5, hfz173_6, hfz173_7, hfz173_8, hfz173_9, hfz173_10, hfz173_11⟩ := cl12 BK131
            obtain ⟨hcz174_0, hcz174_1, hcz174_2, hcz174_3, hcz174_4, hcz174_5, hcz174_6, hcz174_7, hcz174_8, hcz174_9, hcz174_10, hcz174_11, hfz174_0, hfz174_1, hfz174_2, hfz174_3, hfz174_4, hfz174_5, hfz174_6, hfz174_7, hfz174_8, hfz174_9, hfz174_10, hfz174_11⟩ := cl12 BK129
            go_wp2_with (first | (go_at_call 31; (with_reducible refine (msg_iface.calls a0_10 false _ A153.out).mono ?_); rintro e w' ⟨rfl, ⟨nd, rfl⟩⟩) | ((with_reducible refine gate_dst (N := 5) rfl ?_); refine box_event ?hg (N := 5) ?hd (cs := #[.int .u8 0, .int .i64 0, .int .u64 0, .int .i64 0, .bool false, .int .u64 0, .int .u64 0, .int .i64 0, .int .u8 0, .int .i64 0, .int .i64 0, .int .i64 0]) (t := 35) ?hr ?_; (case hd => rfl); (case hg => rfl); (case hr => first | (go_simp; done) | (go_simp; rfl)); intro gb141 hg w175 hbox hb; have n0_ := Bx1 BK129 hb NB129_131.out; have n1_ := Ax (blk_below (g := gb131) (o := .cells #[.int .u8 0, .int .i64 0, .int .u64 0, .int .i64 0, .bool a0_4, .int .u64 a0_5, .int .u64 a0_6, .int .i64 a0_7, .int .u8 a0_8, .int .i64 a0_9, .int .i64 0, .int .i64 a0_11] 35 (0, 0)) (by (with_reducible repeat (first | refine blk_drewN ?_ _ | refine blk_drew ?_ | refine blk_alloc ?_ _)); refine blk_put (cs := #[.int .u8 0, .int .i64 0, .int .u64 0, .int .i64 0, .bool a0_4, .int .u64 a0_5, .int .u64 a0_6, .int .i64 a0_7, .int .u8 a0_8, .int .i64 a0_9, .int .i64 a0_10, .int .i64 a0_11]) ?_ 10 _ rfl; (with_reducible repeat (first | refine blk_drewN ?_ _ | refine blk_drew ?_ | refine blk_alloc ?_ _)); exact BK131.out) hb); have n2_ := Bs2 HB hb GE129.out GE131.out; have n3_ := Ax (hbox); have n4_ := Gw2 HB hg GE129.out GE131.out; have n5_ := Gw2 HB hg GE129.out GE131.out; have n6_ := Nl1 BK129 hg NB129_131.out; have n7_ := Nr1 BK129 hg NB129_131.out; have n8_ := Ax ((by rw [hg]; exact Nat.ne_of_lt (blk_lt (g := gb131) (o := .cells #[.int .u8 0, .int .i64 0, .int .u64 0, .int .i64 0, .bool a0_4, .int .u64 a0_5, .int .u64 a0_6, .int .i64 a0_7, .int .u8 a0_8, .int .i64 a0_9, .int .i64 0, .int .i64 a0_11] 35 (0, 0)) (by (with_reducible repeat (first | refine blk_drewN ?_ _ | refine blk_drew ?_ | refine blk_alloc ?_ _)); refine blk_put (cs := #[.int .u8 0, .int .i64 0, .int .u64 0, .int .i64 0, .bool a0_4, .int .u64 a0_5, .int .u64 a0_6, .int .i64 a0_7, .int .u8 a0_8, .int .i64 a0_9, .int .i64 a0_10, .int .i64 a0_11]) ?_ 10 _ rfl; (with_reducible repeat (first | refine blk_drewN ?_ _ | refine blk_drew ?_ | refine blk_alloc ?_ _)); exact BK131.out)) : gb131 ≠ gb141)); have n9_ := Ax ((by rw [hg]; exact Nat.ne_of_gt (blk_lt (g := gb131) (o := .cells #[.int .u8 0, .int .i64 0, .int .u64 0, .int .i64 0, .bool a0_4, .int .u64 a0_5, .int .u64 a0_6, .int .i64 a0_7, .int .u8 a0_8, .int .i64 a0_9, .int .i64 0, .int .i64 a0_11] 35 (0, 0)) (by (with_reducible repeat (first | refine blk_drewN ?_ _ | refine blk_drew ?_ | refine blk_alloc ?_ _)); refine blk_put (cs := #[.int .u8 0, .int .i64 0, .int .u64 0, .int .i64 0, .bool a0_4, .int .u64 a0_5, .int .u64 a0_6, .int .i64 a0_7, .int .u8 a0_8, .int .i64 a0_9, .int .i64 a0_10, .int .i64 a0_11]) ?_ 10 _ rfl; (with_reducible repeat (first | refine blk_drewN ?_ _ | refine blk_drew ?_ | refine blk_alloc ?_ _)); exact BK131.out)) : gb141 ≠ gb131)); clear BK129; clear BK131; clear HB; have BK129 := n0_; have BK131 := n1_; have HB := n2_; have BK141 := n3_; have GW141 := n4_; have GE141 := n5_; have NB129_141 := n6_; have NB141_129 := n7_; have NB131_141 := n8_; have NB141_131 := n9_; clear n0_ n1_ n2_ n3_ n4_ n5_ n6_ n7_ n8_ n9_; clear hb hbox hg; have hnb176 := NB141_129.out; have hnc176 := NB129_141.out; have hnb177 := NB141_131.out; have hnc177 := NB131_141.out; obtain ⟨hcz178_0, hcz178_1, hcz178_2, hcz178_3, hcz178_4, hcz178_5, hcz178_6, hcz178_7, hcz178_8, hcz178_9, hcz178_10, hcz178_11, hfz178_0, hfz178_1, hfz178_2, hfz178_3, hfz178_4, hfz178_5, hfz178_6, hfz178_7, hfz178_8, hfz178_9, hfz178_10, hfz178_11⟩ := cl12 BK141))
            go_ret
            exact ⟨eS, bw3 HB.out GE129.out GE131.out GE141.out⟩
          ·rw [if_neg c152] at H
           have c152b0 : (a0_0 == 6) = false := beq_eq_false_iff_ne.mpr c152
           have c152b1 : (a0_0 != 6) = true := bne_iff_ne.mpr c152
           obtain rfl := Option.some.inj H
           go_wp2
           go_ret
           exact ⟨eS, bw2 HB.out GE129.out GE131.out⟩
def msg_action.f (k : Nat) (l0 : List Int) (a1_0 : Int) (a1_1 : Int) : Option (List Int) := if l0.length < 140737488355328 then ((some (l0 ++ [a1_0] : List Int)).bind fun y148 => (if a1_0 = 1 then ((num_Add.f k y148 (IntKind.u64.wrap (a1_1))).bind fun t151 => (some t151)) else (some y148))) else (none)
set_option maxHeartbeats 8000000 in
set_option maxRecDepth 100000 in
theorem msg_action.calls (k : Nat) (P0_ : Nat → Prop) (u9000_ : Value) (l0 : List Int) (a1_0 : Int) (a1_1 : Int) (r : List Int) (w0 w : World) (hB : Below w0.heap.size w0 w) (ho0 : Kd.R (Kd.int .u8) 5 w w0.heap.size P0_ u9000_ l0) (h : msg_action.f k l0 a1_0 a1_1 = some r) :
  Calls Try.prog 14 #[u9000_, .agg #[.int .u8 a1_0, .int .i64 a1_1]] w fun e w' => ∃ v0_ : Value, e = .returned (v0_) ∧ Kd.R (Kd.int .u8) 5 w' w0.heap.size (fun k_ => (P0_ k_ ∨ w.heap.size ≤ k_)) v0_ r ∧ Below w0.heap.size w0 w' ∧ Kept w w' (fun k_ => P0_ k_) := by
 have hu33 := Try.underlying33
 have HO0 := Ax (show Kd.R (Kd.int .u8) 5 w w0.heap.size (fun k_ => (P0_ k_ ∨ w.heap.size ≤ k_)) u9000_ l0 from Kd.R_mono ho0 (fun k_ hk => (.inl hk)))
 have HK := Ax (Kept.refl w (fun k_ => P0_ k_))
 have HW0 := Ax hB.size
 have HB := Ax hB
 clear hB
 have H : (if l0.length < 140737488355328 then ((some (l0 ++ [a1_0] : List Int)).bind fun y148 => (if a1_0 = 1 then ((num_Add.f k y148 (IntKind.u64.wrap (a1_1))).bind fun t151 => (some t151)) else (some y148))) else (none)) = some r := h
 clear h
 by_cases c3 : l0.length < 140737488355328
 ·rw [if_pos c3] at H
  have LMc3 := Ax c3
  clear c3
  obtain ⟨y148, hy148⟩ : ∃ y_ : List Int, y_ = (l0 ++ [a1_0]) := ⟨_, rfl⟩
  replace H : (if a1_0 = 1 then ((num_Add.f k y148 (IntKind.u64.wrap (a1_1))).bind fun t151 => (some t151)) else (some y148)) = some r := by first | (rw [hy148]; with_reducible exact H) | (have H2_ := (Option.bind_some _ _).symm.trans H; rw [hy148]; with_reducible exact H2_) | (have H2_ := (Option.bind_some _ _).symm.trans H; with_reducible exact H2_) | with_reducible exact H | (rw [hy148]; exact H) | exact H
  have Ny148 := Ax hy148
  clear hy148
  by_cases c4 : a1_0 = 1
  ·rw [if_pos c4] at H
   have c4b0 : (a1_0 == 1) = true := beq_iff_eq.mpr c4
   have c4b1 : (a1_0 != 1) = false := bne_eq_false_iff_eq.mpr c4
   clear c4
   replace H := Option.bind_eq_some_iff.mp H
   obtain ⟨t151, A50, H⟩ := H
   replace H : (some t151) = some r := H
   have A5 := Ax A50
   clear A50
   obtain rfl := Option.some.inj H
   go_enter Try.func14, Try.ntmps14
   go_wp2_with (first | ((with_reducible refine gate_dst (N := 3) rfl ?_); refine box_event ?hg (N := 3) ?hd (cs := #[.int .u8 a1_0, .int .i64 a1_1]) (t := 33) ?hr ?_; (case hd => rfl); (case hg => rfl); (case hr => first | (go_simp; done) | (go_simp; rfl)); intro gb147 hg w6 hbox hb; have n0_ := Ax (Kd.R_below (by (with_reducible repeat (first | apply Kd.R_alloc | apply Kd.R_drewN | apply Kd.R_drew)); exact HO0.out) hb); have n1_ := Ax (Kept.below (S := (fun k_ => P0_ k_)) (by repeat (first | (with_reducible first | exact HK.out | apply Kept.alloc | apply Kept.drewN | apply Kept.drew) | exact HK.out)) hb); have n2_ := Bs0 HB hb; have n3_ := Ax (hbox); have n4_ := Ax ((by rw [hg]; exact (by first | exact HK.out.1 | exact (show Kept w _ (fun k_ => P0_ k_) from by repeat (first | (with_reducible first | exact HK.out | apply Kept.alloc | apply Kept.drewN | apply Kept.drew) | exact HK.out)).1) : w.heap.size ≤ gb147)); have n5_ := Ax ((by rw [hg]; exact (below_size (bw0 HB.out)) : w0.heap.size ≤ gb147)); clear HO0; clear HK; clear HB; have HO0 := n0_; have HK := n1_; have HB := n2_; have BK147 := n3_; have GW147 := n4_; have GE147 := n5_; clear n0_ n1_ n2_ n3_ n4_ n5_; clear hb hbox hg; obtain ⟨hcz7_0, hcz7_1, hfz7_0, hfz7_1⟩ := cl2 BK147) | ((with_reducible refine gate_builtin (b := .append) (xs := #[.tmp 5, .tmp 8]) rfl ?_); at_builtin; refine Kd.R_append (Kd.int .u8) (w0 := w0) w0.heap.size rfl (.tmp 5) (.tmp 8) 23 5 (.int .u8 0) 1 rfl Try.underlying23 info5 rfl (by decide) (by omega) u9000_ l0 a1_0 [.int .u8 a1_0] (fun k_ => (P0_ k_ ∨ w.heap.size ≤ k_)) (fun _ => False) rfl rfl ?aP (fun _ hk => hk.elim) ?aF ?aO ?aB ?aS ?aL ?_; (case aP => exact rfl); (case aB => exact (bw1 HB.out GE147.out)); (case aF => exact (fun k_ hk => (.inr (Nat.le_trans (by first | exact HK.out.1 | exact (show Kept w _ (fun k_ => P0_ k_) from by repeat (first | (with_reducible first | exact HK.out | apply Kept.alloc | apply Kept.drewN | apply Kept.drew | refine Kept.setCell ?_ (.inr GW147.out) _) | exact HK.out)).1) hk)))); (case aO => exact (by (with_reducible repeat (first | apply Kd.R_alloc | apply Kd.R_drewN | apply Kd.R_drew)); exact HO0.out)); (case aS => exact (below_size (bw1 HB.out GE147.out))); (case aL => have := LMc3.out; omega); intro v149 w8 ho hb hg hat; rw [← Ny148.out] at ho; have n0_ := Ax (blk_grown (g := gb147) (o := .cells #[.int .u8 a1_0, .int .i64 a1_1] 33 (0, 0)) (bf0 BK147.out) hg (Kd.R_ne HO0.out BK147.out (by decide))); have n1_ := Ax (hb); have n2_ := Ax (Kept.of_grown (S := (fun k_ => P0_ k_)) hg (by repeat (first | (with_reducible first | exact HK.out | apply Kept.alloc | apply Kept.drewN | apply Kept.drew | refine Kept.setCell ?_ (.inr GW147.out) _) | exact HK.out)) (fun k_ e_ => (HO0.out.1 k_ e_))); have n3_ := Ax (ho); clear BK147; clear HB; clear HK; clear HO0; have BK147 := n0_; have HB := n1_; have HK := n2_; have HO150 := n3_; clear n0_ n1_ n2_ n3_; clear ho hb hg hat; obtain ⟨hcz9_0, hcz9_1, hfz9_0, hfz9_1⟩ := cl2 BK147; obtain ⟨Ao10, co10, eo10⟩ := Kd.R_slice HO150.out; subst eo10) | ((with_reducible refine gate_callee (f := 13) rfl ?_); refine goesL_ (some 17) rfl rfl Try.func13 (by kernel_rfl) rfl #[.slice Ao10 y148.length co10, .int .u64 (IntKind.u64.wrap (a1_1))] rfl gS ?_; (with_reducible refine (num_Add.calls k (fun k_ => some k_ = (.slice Ao10 y148.length co10 : Value).ownBlock) (.slice Ao10 y148.length co10) y148 (IntKind.u64.wrap (a1_1)) t151 w0 _ ?side1 ?side2 A5.out).mono ?_); (case side1 => repeat (first | (with_reducible first | exact HB.out | apply below_alloc | apply pw_below_drewN | apply below_drew1 | refine below_set ?_ GE147.out) | exact HB.out)); (case side2 => exact Kd.R_tight rfl HO150.out); rintro e w11 ⟨v152, rfl, ho0, hb, hkp⟩; refine ⟨_, rfl, ?_⟩; have n0_ := Ax (blk_kept (bf0 BK147.out) hkp (fun hs_ => (fun e_ => (Kd.R_ne HO150.out BK147.out (by decide)) e_) hs_)); have n1_ := Ax (Kd.R_mono (ok' := fun k_ => (P0_ k_ ∨ w.heap.size ≤ k_)) ho0 (fun k_ hk_ => Or.elim hk_ (fun hs_ => (HO150.out.1 k_ (hs_).symm)) (fun hn_ => (.inr (Nat.le_trans (by first | exact HK.out.1 | exact (show Kept w _ (fun k_ => P0_ k_) from by repeat (first | (with_reducible first | exact HK.out | apply Kept.alloc | apply Kept.drewN | apply Kept.drew | refine Kept.setCell ?_ (.inr GW147.out) _) | exact HK.out)).1) hn_))))); have n2_ := Ax (Kept.then_ (S := (fun k_ => P0_ k_)) (by repeat (first | (with_reducible first | exact HK.out | apply Kept.alloc | apply Kept.drewN | apply Kept.drew | refine Kept.setCell ?_ (.inr GW147.out) _) | exact HK.out)) hkp (fun k_ hs_ => (fun e_ => (HO150.out.1 k_ e_.symm)) hs_)); have n3_ := Ax (hb); clear BK147; clear HK; clear HB; clear HO150; have BK147 := n0_; have HO153 := n1_; have HK := n2_; have HB := n3_; clear n0_ n1_ n2_ n3_; (try clear hb); (try clear hkp); (try clear ho0)))
   go_ret
   exact ⟨_, eS, by (with_reducible repeat (first | apply Kd.R_alloc | apply Kd.R_drewN | apply Kd.R_drew)); exact HO153.out, bw1 HB.out GE147.out, by repeat (first | (with_reducible first | exact HK.out | apply Kept.alloc | apply Kept.drewN | apply Kept.drew | refine Kept.setCell ?_ (.inr GW147.out) _) | exact HK.out)⟩
  ·rw [if_neg c4] at H
   have c4b0 : (a1_0 == 1) = false := beq_eq_false_iff_ne.mpr c4
   have c4b1 : (a1_0 != 1) = true := bne_iff_ne.mpr c4
   obtain rfl := Option.some.inj H
   go_enter Try.func14, Try.ntmps14
   go_wp2_with (first | ((with_reducible refine gate_dst (N := 3) rfl ?_); refine box_event ?hg (N := 3) ?hd (cs := #[.int .u8 a1_0, .int .i64 a1_1]) (t := 33) ?hr ?_; (case hd => rfl); (case hg => rfl); (case hr => first | (go_simp; done) | (go_simp; rfl)); intro gb147 hg w12 hbox hb; have n0_ := Ax (Kd.R_below (by (with_reducible repeat (first | apply Kd.R_alloc | apply Kd.R_drewN | apply Kd.R_drew)); exact HO0.out) hb); have n1_ := Ax (Kept.below (S := (fun k_ => P0_ k_)) (by repeat (first | (with_reducible first | exact HK.out | apply Kept.alloc | apply Kept.drewN | apply Kept.drew) | exact HK.out)) hb); have n2_ := Bs0 HB hb; have n3_ := Ax (hbox); have n4_ := Ax ((by rw [hg]; exact (by first | exact HK.out.1 | exact (show Kept w _ (fun k_ => P0_ k_) from by repeat (first | (with_reducible first | exact HK.out | apply Kept.alloc | apply Kept.drewN | apply Kept.drew) | exact HK.out)).1) : w.heap.size ≤ gb147)); have n5_ := Ax ((by rw [hg]; exact (below_size (bw0 HB.out)) : w0.heap.size ≤ gb147)); clear HO0; clear HK; clear HB; have HO0 := n0_; have HK := n1_; have HB := n2_; have BK147 := n3_; have GW147 := n4_; have GE147 := n5_; clear n0_ n1_ n2_ n3_ n4_ n5_; clear hb hbox hg; obtain ⟨hcz13_0, hcz13_1, hfz13_0, hfz13_1⟩ := cl2 BK147) | ((with_reducible refine gate_builtin (b := .append) (xs := #[.tmp 5, .tmp 8]) rfl ?_); at_builtin; refine Kd.R_append (Kd.int .u8) (w0 := w0) w0.heap.size rfl (.tmp 5) (.tmp 8) 23 5 (.int .u8 0) 1 rfl Try.underlying23 info5 rfl (by decide) (by omega) u9000_ l0 a1_0 [.int .u8 a1_0] (fun k_ => (P0_ k_ ∨ w.heap.size ≤ k_)) (fun _ => False) rfl rfl ?aP (fun _ hk => hk.elim) ?aF ?aO ?aB ?aS ?aL ?_; (case aP => exact rfl); (case aB => exact (bw1 HB.out GE147.out)); (case aF => exact (fun k_ hk => (.inr (Nat.le_trans (by first | exact HK.out.1 | exact (show Kept w _ (fun k_ => P0_ k_) from by repeat (first | (with_reducible first | exact HK.out | apply Kept.alloc | apply Kept.drewN | apply Kept.drew | refine Kept.setCell ?_ (.inr GW147.out) _) | exact HK.out)).1) hk)))); (case aO => exact (by (with_reducible repeat (first | apply Kd.R_alloc | apply Kd.R_drewN | apply Kd.R_drew)); exact HO0.out)); (case aS => exact (below_size (bw1 HB.out GE147.out))); (case aL => have := LMc3.out; omega); intro v149 w14 ho hb hg hat; rw [← Ny148.out] at ho; have n0_ := Ax (blk_grown (g := gb147) (o := .cells #[.int .u8 a1_0, .int .i64 a1_1] 33 (0, 0)) (bf0 BK147.out) hg (Kd.R_ne HO0.out BK147.out (by decide))); have n1_ := Ax (hb); have n2_ := Ax (Kept.of_grown (S := (fun k_ => P0_ k_)) hg (by repeat (first | (with_reducible first | exact HK.out | apply Kept.alloc | apply Kept.drewN | apply Kept.drew | refine Kept.setCell ?_ (.inr GW147.out) _) | exact HK.out)) (fun k_ e_ => (HO0.out.1 k_ e_))); have n3_ := Ax (ho); clear BK147; clear HB; clear HK; clear HO0; have BK147 := n0_; have HB := n1_; have HK := n2_; have HO150 := n3_; clear n0_ n1_ n2_ n3_; clear ho hb hg hat; obtain ⟨hcz15_0, hcz15_1, hfz15_0, hfz15_1⟩ := cl2 BK147))
   go_ret
   exact ⟨_, eS, by (with_reducible repeat (first | apply Kd.R_alloc | apply Kd.R_drewN | apply Kd.R_drew)); exact HO150.out, bw1 HB.out GE147.out, by repeat (first | (with_reducible first | exact HK.out | apply Kept.alloc | apply Kept.drewN | apply Kept.drew | refine Kept.setCell ?_ (.inr GW147.out) _) | exact HK.out)⟩
 ·rw [if_neg c3] at H
  exact absurd H (by simp)
end Go.Proofs.Ytcnkiigobcigbaa.Q
end
section
namespace Go.Proofs.Ytcnkiigobcigbaa.Q
open Go.RowKit Go.Proofs.YtcnkiigobcigbaaW.PrintWords Go.Proofs.YtcnkiigobcigbaaW.PrintLast Go.Proofs.YtcnkiigobcigbaaW.PrintMore
attribute [local go_sem] max2_int min2_int max_two min_two max_three min_three max_four min_four   -- for this text's walks alone
set_option linter.unusedVariables false
set_option linter.unusedSimpArgs false
def byt8 (n : Int) : List Int := [n / 72057594037927936 % 256, n / 281474976710656 % 256, n / 1099511627776 % 256, n / 4294967296 % 256, n / 16777216 % 256, n / 65536 % 256, n / 256 % 256, n % 256]
def PreI (w0 w W : World) (P0 : Nat → Prop) (v : Value) (xs : List Int) : Prop :=
  W.ownsRow w0.heap.size 5 1 v xs.length (nums .u8 xs) ∧ (∀ k, v.ownBlock = some k → P0 k ∨ w.heap.size ≤ k) ∧ Kept w W P0 ∧ Below w0.heap.size w0 W
theorem PreI.grow {w0 w W w1 : World} {P0 : Nat → Prop} {v v1 : Value} {xs ys : List Int} (h : PreI w0 w W P0 v xs) (ho : w1.ownsRow w0.heap.size 5 1 v1 (xs ++ ys).length (nums .u8 (xs ++ ys))) (hb : Below w0.heap.size w0 w1) (hg : W.grownBy w1 v.ownBlock)
    (hat : v1.ownBlock = v.ownBlock ∨ ∃ b, v1.ownBlock = some b ∧ W.heap.size ≤ b) : PreI w0 w w1 P0 v1 (xs ++ ys) := by
  obtain ⟨_, h2, h3, _⟩ := h
  refine ⟨ho, fun k hk => ?_, ⟨Nat.le_trans h3.1 hg.size, fun i hi hn => ?_⟩, hb⟩
  · rcases hat with e | ⟨b, e, hl⟩
    · exact h2 k (e ▸ hk)
    · rw [e] at hk
      obtain rfl := Option.some.inj hk
      exact .inr (Nat.le_trans h3.1 hl)
  · refine (hg.block i (Nat.lt_of_lt_of_le hi h3.1) (fun e => ?_)).trans (h3.2 i hi hn)
    rcases h2 i e.symm with hp | hp
    · exact hn hp
    · omega
theorem PreI.below {w0 w W w1 : World} {P0 : Nat → Prop} {v : Value} {xs : List Int} (h : PreI w0 w W P0 v xs) (hb : Below W.heap.size W w1) : PreI w0 w w1 P0 v xs :=
  ⟨pw_own_below h.1 hb, h.2.1, Kept.below h.2.2.1 hb, below_then h.2.2.2 h.2.2.2.size hb⟩
theorem PreI.drew {w0 w W : World} {P0 : Nat → Prop} {v : Value} {xs : List Int} (h : PreI w0 w W P0 v xs) : PreI w0 w W.drew P0 v xs := ⟨h.1, h.2.1, h.2.2.1, below_drew1 h.2.2.2⟩
theorem PreI.alloc {w0 w W : World} {P0 : Nat → Prop} {v : Value} {xs : List Int} (h : PreI w0 w W P0 v xs) (o : Obj) : PreI w0 w (W.alloc o) P0 v xs := h.below (below_alloc (Below.refl _ _) o)
theorem blk_not_row {W : World} {B t e base size k : Nat} {cs : Array Value} {fr : Nat × Nat} (h : W.heap[B]? = some (.cells cs t fr)) (hte : t ≠ e) {v : Value} {xs : List Value} (hr : W.ownsRow base e size v k xs) : some B ≠ v.ownBlock := by
  rcases hr.2 with ⟨rfl, _⟩ | ⟨g, cap, cur, rfl, _, hgb, _⟩
  · simp [Value.ownBlock]
  · intro e'
    obtain rfl : B = g := by simpa [Value.ownBlock] using e'
    have := h.symm.trans hgb
    simp at this
    exact hte this.2.1
theorem PreI.blk0 {w0 w W w1 : World} {P0 : Nat → Prop} {v : Value} {xs : List Int} (h : PreI w0 w W P0 v xs) {B t : Nat} {cs : Array Value} (h1 : W.heap[B]? = some (.cells cs t (0, 0))) (ht : t ≠ 5) (hg : W.grownBy w1 v.ownBlock) : w1.heap[B]? = some (.cells cs t (0, 0)) :=
  (hg.block B (blk_lt h1) (blk_not_row h1 ht h.1)).trans h1
theorem PreI.blk {w0 w W w1 : World} {P0 : Nat → Prop} {v : Value} {xs : List Int} (h : PreI w0 w W P0 v xs) {B t : Nat} {cs : Array Value} (hB : W.heap[B]? = some (.cells cs t (0, 0))) (ht : t ≠ 5) {o : Obj} (hg : (W.alloc o).grownBy w1 v.ownBlock) : w1.heap[B]? = some (.cells cs t (0, 0)) := by
  have h1 := blk_alloc hB o
  exact (hg.block B (blk_lt h1) (blk_not_row h1 ht (h.alloc o).1)).trans h1
theorem PreI.set {w0 w W : World} {P0 : Nat → Prop} {v : Value} {xs : List Int} (h : PreI w0 w W P0 v xs) {B t : Nat} {cs : Array Value} (hB : W.heap[B]? = some (.cells cs t (0, 0))) (ht : t ≠ 5) (hw : w.heap.size ≤ B) (j : Nat) (u : Value) (hb0 : w0.heap.size ≤ w.heap.size) : PreI w0 w (W.setCell ⟨B, j, none⟩ u) P0 v xs := by
  obtain ⟨h1, h2, h3, h4⟩ := h
  refine ⟨own_setCell h1 (blk_not_row hB ht h1) u, h2, ⟨by simpa [World.setCell] using h3.1, fun i hi hn => (Below.heap_setCell W ⟨B, j, none⟩ u i (by simp; omega)).trans (h3.2 i hi hn)⟩, h4.setCell (p := ⟨B, j, none⟩) (by simp; omega) u⟩
theorem reads2 {w : World} {g : Nat} {x y : Int} (h : w.heap[g]? = some (.cells #[.int .u8 x, .int .u8 y] 5 (0, 0))) : ReadsInt w .u8 (some ⟨g, 0, none⟩) 2 [x, y] := by
  refine ⟨rfl, by omega, fun _ => ⟨_, rfl, fun j hj => ?_⟩⟩
  have e : (⟨g, 0, none⟩ : Addr).add j = ⟨g, j, none⟩ := by unfold Addr.add; split <;> simp_all
  rw [e, blk_cell h]
  have : j = 0 ∨ j = 1 := by omega
  rcases this with rfl | rfl <;> rfl
def pre_word (six : Bool) (hi lo : Int) : List Int := if six then byt8 hi ++ byt8 lo else byt8 (lo * 4294967296 % 18446744073709551616) ++ byt8 0
def msg_prefix.f (l0 : List Int) (a1_0 : Bool) (a1_1 a1_2 a1_3 : Int) : Option (List Int) :=
  if 0 ≤ a1_3 ∧ a1_3 ≤ 128 ∧ 0 ≤ a1_1 ∧ a1_1 ≤ 18446744073709551615 ∧ 0 ≤ a1_2 ∧ a1_2 ≤ 18446744073709551615 ∧ l0.length < 140737488355000 then some (l0 ++ ([if a1_0 then 6 else 4, a1_3] ++ (pre_word a1_0 a1_1 a1_2).take ((a1_3.toNat + 7) / 8))) else none
set_option maxHeartbeats 8000000 in
set_option maxRecDepth 100000 in
theorem msg_prefix.calls (P0_ : Nat → Prop) (u9000_ : Value) (l0 : List Int) (a1_0 : Bool) (a1_1 a1_2 a1_3 : Int) (r : List Int) (w0 w : World) (hB : Below w0.heap.size w0 w) (ho0 : Kd.R (Kd.int .u8) 5 w w0.heap.size P0_ u9000_ l0) (h : msg_prefix.f l0 a1_0 a1_1 a1_2 a1_3 = some r) :
    Calls Try.prog 15 #[u9000_, .agg #[.bool a1_0, .int .u64 a1_1, .int .u64 a1_2, .int .i64 a1_3]] w fun e w' => ∃ v0_ : Value, e = .returned (v0_) ∧ Kd.R (Kd.int .u8) 5 w' w0.heap.size (fun k_ => (P0_ k_ ∨ w.heap.size ≤ k_)) v0_ r ∧ Below w0.heap.size w0 w' ∧ Kept w w' (fun k_ => P0_ k_) := by
  unfold msg_prefix.f at h
  by_cases c : 0 ≤ a1_3 ∧ a1_3 ≤ 128 ∧ 0 ≤ a1_1 ∧ a1_1 ≤ 18446744073709551615 ∧ 0 ≤ a1_2 ∧ a1_2 ≤ 18446744073709551615 ∧ l0.length < 140737488355000
  · rw [if_pos c] at h
    have HR := Aside0.mk (Option.some.inj h)
    clear h
    obtain ⟨ln, rfl⟩ : ∃ ln : Nat, a1_3 = ln := ⟨a1_3.toNat, by omega⟩
    obtain ⟨c1, c2, c3, c4, c5, c6, c7⟩ := c
    have HI0 : Aside0 (PreI w0 w w P0_ u9000_ l0) := ⟨Kd.own_of_R ho0, fun k hk => .inl (ho0.1 k hk), Kept.refl _ _, hB⟩
    have hw0 := hB.size
    clear ho0 hB
    go_enter Try.func15, Try.ntmps15
    go_wp2
    have bp : (w.alloc (.cells #[.bool a1_0, .int .u64 a1_1, .int .u64 a1_2, .int .i64 ln] 30)).heap[w.heap.size]? = some (.cells #[.bool a1_0, .int .u64 a1_1, .int .u64 a1_2, .int .i64 ln] 30 (0, 0)) := heap_alloc_new _ _
    have HI1 := Aside0.mk (HI0.out.alloc (.cells #[.bool a1_0, .int .u64 a1_1, .int .u64 a1_2, .int .i64 ln] 30))
    have hsz1 : (w.alloc (.cells #[.bool a1_0, .int .u64 a1_1, .int .u64 a1_2, .int .i64 ln] 30)).heap.size = w.heap.size + 1 := by simp
    generalize (w.alloc (.cells #[.bool a1_0, .int .u64 a1_1, .int .u64 a1_2, .int .i64 ln] 30)) = w1 at bp HI1 hsz1 ⊢
    obtain ⟨gp, hgp⟩ : ∃ gp, w.heap.size = gp := ⟨_, rfl⟩
    rw [hgp] at bp hsz1 ⊢
    have HGP := Aside0.mk hgp
    have HSZ1 := Aside0.mk hsz1
    clear hgp hsz1 HI0
    have hp2 : w1.drew.cell? ⟨gp, 2, none⟩ = some (.int .u64 a1_2) := (blk_cell bp 2).trans rfl
    have hp0 : w1.cell? ⟨gp, 0, none⟩ = some (.bool a1_0) := (blk_cell bp 0).trans rfl
    have hp2b : w1.cell? ⟨gp, 2, none⟩ = some (.int .u64 a1_2) := (blk_cell bp 2).trans rfl
    have hp2c : (w1.alloc (.cells #[.int .u64 0, .int .u64 0] 81)).cell? ⟨gp, 2, none⟩ = some (.int .u64 a1_2) := (blk_cell (blk_alloc bp _) 2).trans rfl
    have BP := Aside0.mk bp
    clear bp
    go_region
    have bw : (w1.alloc (.cells #[.int .u64 (IntKind.u64.wrap (a1_2 * 4294967296)), .int .u64 0] 81)).drew.heap[w1.heap.size]? = some (.cells #[.int .u64 (IntKind.u64.wrap (a1_2 * 4294967296)), .int .u64 0] 81 (0, 0)) := heap_alloc_new w1 _
    have bp2 : (w1.alloc (.cells #[.int .u64 (IntKind.u64.wrap (a1_2 * 4294967296)), .int .u64 0] 81)).drew.heap[gp]? = some (.cells #[.bool a1_0, .int .u64 a1_1, .int .u64 a1_2, .int .i64 ln] 30 (0, 0)) := blk_alloc BP.out _
    have HI2 : Aside0 (PreI w0 w (w1.alloc (.cells #[.int .u64 (IntKind.u64.wrap (a1_2 * 4294967296)), .int .u64 0] 81)).drew P0_ u9000_ l0) := ⟨(HI1.out.alloc _).drew⟩
    have HGW : Aside0 (w.heap.size ≤ w1.heap.size ∧ gp ≠ w1.heap.size) := ⟨by have := HSZ1.out; have := HGP.out; omega⟩
    clear hp2 hp0 hp2b hp2c
    generalize (w1.alloc (.cells #[.int .u64 (IntKind.u64.wrap (a1_2 * 4294967296)), .int .u64 0] 81)).drew = w2 at bw bp2 HI2 ⊢
    generalize w1.heap.size = gw at bw HGW ⊢
    have hb0 : w2.cell? ⟨gp, 0, none⟩ = some (.bool a1_0) := (blk_cell bp2 0).trans rfl
    have hb3 : w2.cell? ⟨gp, 3, none⟩ = some (.int .i64 ln) := (blk_cell bp2 3).trans rfl
    have BW := Aside0.mk bw
    have BP2 := Aside0.mk bp2
    clear bw bp2
    cases a1_0
    · have BW3 := BW
      have BP3 := BP2
      have HI3 := HI2
      obtain ⟨W0, hW0⟩ : ∃ W0, IntKind.u64.wrap (a1_2 * 4294967296) = W0 := ⟨_, rfl⟩
      have hW0' : a1_2 * 4294967296 % 18446744073709551616 = W0 := by rw [← hW0]; simp [IntKind.wrap, IntKind.bits, IntKind.signed]
      rw [hW0] at BW3 ⊢
      have HW0 := Aside0.mk hW0'
      clear hW0 hW0'
      go_wp2_with (first | ((with_reducible refine gate_builtin (b := .append) (xs := #[.tmp 22, .tmp 27]) rfl ?_); at_builtin; refine print_append_row (w0 := w0) w0.heap.size rfl (.tmp 22) (.tmp 27) 23 5 .u8 1 rfl Try.underlying23 info5 (by decide) u9000_ l0 [4, (ln : Int)] _ 2 2 rfl rfl (HI3.out.alloc _).1 (reads2 (heap_alloc_new _ _)) (HI3.out.alloc _).2.2.2 (HI3.out.alloc _).2.2.2.size (by omega) ?_; intro v1 w4 hown hb hg hat; have HI4 := Aside0.mk ((HI3.out.alloc _).grow hown hb hg hat); have BW4 := Aside0.mk (HI3.out.blk BW3.out (by decide) hg); have BP4 := Aside0.mk (HI3.out.blk BP3.out (by decide) hg); have hp3 := (blk_cell BP4.out 3).trans rfl; clear hown hb hg hat))
      go_loopg [34, 0] 17 (fun kq v34 v0 w' => ∃ (i : Nat), i ≤ (ln + 7) / 8 ∧ kq = 17 - i ∧ v34 = .int .i64 (i : Int) ∧ Aside0 (PreI w0 w w' P0_ v0 (l0 ++ [4, (ln : Int)] ++ (byt8 W0 ++ byt8 0).take i)) ∧ Aside0 (w'.heap[gw]? = some (.cells #[.int .u64 W0, .int .u64 0] 81 (0, 0))))
      case atStart => exact ⟨0, by omega, rfl, rfl, ⟨by simpa using HI4.out⟩, BW4⟩
      case round =>
        obtain ⟨i, hi, rfl, rfl, HI, HW⟩ := hrel
        have hw00 := (blk_cell HW.out 0).trans rfl
        have hw01 := (blk_cell HW.out 1).trans rfl
        have hxl : Aside0 ((l0 ++ [4, (ln : Int)] ++ (byt8 W0 ++ byt8 0).take i).length ≤ 140737488355100) := ⟨by simp [byt8]; omega⟩
        by_cases hlt : i < (ln + 7) / 8
        · match i, hi, hlt, HI, hxl with
          | 0, _, hlt, HI, hxl =>
            have hd : decide ((0 : Int) < ((ln : Int) + 8 - 1) / 8) = true := decide_eq_true (by omega)
            go_wp2_with (first | ((with_reducible refine gate_builtin (b := .append) (xs := #[.tmp 37, .tmp 48]) rfl ?_); at_builtin; refine print_append_num (w0 := w0) w0.heap.size rfl (.tmp 37) (.tmp 48) 23 5 .u8 1 rfl Try.underlying23 info5 (by decide) _ _ _ rfl rfl HI.out.1 HI.out.2.2.2 HI.out.2.2.2.size (by have := hxl.out; omega) ?_; intro v1 w5 hown hb hg hat; have HI5 := Aside0.mk (HI.out.grow hown hb hg hat); have HW5 := Aside0.mk (HI.out.blk0 HW.out (by decide) hg); clear hown hb hg hat))
            go_roundg (17 - (0 + 1))
            case measure => omega
            case rel => exact ⟨0 + 1, by omega, rfl, rfl, ⟨by have := HI5.out; simpa [byt8] using this⟩, HW5⟩
          | 1, _, hlt, HI, hxl =>
            have hd : decide ((1 : Int) < ((ln : Int) + 8 - 1) / 8) = true := decide_eq_true (by omega)
            go_wp2_with (first | ((with_reducible refine gate_builtin (b := .append) (xs := #[.tmp 37, .tmp 48]) rfl ?_); at_builtin; refine print_append_num (w0 := w0) w0.heap.size rfl (.tmp 37) (.tmp 48) 23 5 .u8 1 rfl Try.underlying23 info5 (by decide) _ _ _ rfl rfl HI.out.1 HI.out.2.2.2 HI.out.2.2.2.size (by have := hxl.out; omega) ?_; intro v1 w5 hown hb hg hat; have HI5 := Aside0.mk (HI.out.grow hown hb hg hat); have HW5 := Aside0.mk (HI.out.blk0 HW.out (by decide) hg); clear hown hb hg hat))
            go_roundg (17 - (1 + 1))
            case measure => omega
            case rel => exact ⟨1 + 1, by omega, rfl, rfl, ⟨by have := HI5.out; simpa [byt8] using this⟩, HW5⟩
          | 2, _, hlt, HI, hxl =>
            have hd : decide ((2 : Int) < ((ln : Int) + 8 - 1) / 8) = true := decide_eq_true (by omega)
            go_wp2_with (first | ((with_reducible refine gate_builtin (b := .append) (xs := #[.tmp 37, .tmp 48]) rfl ?_); at_builtin; refine print_append_num (w0 := w0) w0.heap.size rfl (.tmp 37) (.tmp 48) 23 5 .u8 1 rfl Try.underlying23 info5 (by decide) _ _ _ rfl rfl HI.out.1 HI.out.2.2.2 HI.out.2.2.2.size (by have := hxl.out; omega) ?_; intro v1 w5 hown hb hg hat; have HI5 := Aside0.mk (HI.out.grow hown hb hg hat); have HW5 := Aside0.mk (HI.out.blk0 HW.out (by decide) hg); clear hown hb hg hat))
            go_roundg (17 - (2 + 1))
            case measure => omega
            case rel => exact ⟨2 + 1, by omega, rfl, rfl, ⟨by have := HI5.out; simpa [byt8] using this⟩, HW5⟩
          | 3, _, hlt, HI, hxl =>
            have hd : decide ((3 : Int) < ((ln : Int) + 8 - 1) / 8) = true := decide_eq_true (by omega)
            go_wp2_with (first | ((with_reducible refine gate_builtin (b := .append) (xs := #[.tmp 37, .tmp 48]) rfl ?_); at_builtin; refine print_append_num (w0 := w0) w0.heap.size rfl (.tmp 37) (.tmp 48) 23 5 .u8 1 rfl Try.underlying23 info5 (by decide) _ _ _ rfl rfl HI.out.1 HI.out.2.2.2 HI.out.2.2.2.size (by have := hxl.out; omega) ?_; intro v1 w5 hown hb hg hat; have HI5 := Aside0.mk (HI.out.grow hown hb hg hat); have HW5 := Aside0.mk (HI.out.blk0 HW.out (by decide) hg); clear hown hb hg hat))
            go_roundg (17 - (3 + 1))
            case measure => omega
            case rel => exact ⟨3 + 1, by omega, rfl, rfl, ⟨by have := HI5.out; simpa [byt8] using this⟩, HW5⟩
          | 4, _, hlt, HI, hxl =>
            have hd : decide ((4 : Int) < ((ln : Int) + 8 - 1) / 8) = true := decide_eq_true (by omega)
            go_wp2_with (first | ((with_reducible refine gate_builtin (b := .append) (xs := #[.tmp 37, .tmp 48]) rfl ?_); at_builtin; refine print_append_num (w0 := w0) w0.heap.size rfl (.tmp 37) (.tmp 48) 23 5 .u8 1 rfl Try.underlying23 info5 (by decide) _ _ _ rfl rfl HI.out.1 HI.out.2.2.2 HI.out.2.2.2.size (by have := hxl.out; omega) ?_; intro v1 w5 hown hb hg hat; have HI5 := Aside0.mk (HI.out.grow hown hb hg hat); have HW5 := Aside0.mk (HI.out.blk0 HW.out (by decide) hg); clear hown hb hg hat))
            go_roundg (17 - (4 + 1))
            case measure => omega
            case rel => exact ⟨4 + 1, by omega, rfl, rfl, ⟨by have := HI5.out; simpa [byt8] using this⟩, HW5⟩
          | 5, _, hlt, HI, hxl =>
            have hd : decide ((5 : Int) < ((ln : Int) + 8 - 1) / 8) = true := decide_eq_true (by omega)
            go_wp2_with (first | ((with_reducible refine gate_builtin (b := .append) (xs := #[.tmp 37, .tmp 48]) rfl ?_); at_builtin; refine print_append_num (w0 := w0) w0.heap.size rfl (.tmp 37) (.tmp 48) 23 5 .u8 1 rfl Try.underlying23 info5 (by decide) _ _ _ rfl rfl HI.out.1 HI.out.2.2.2 HI.out.2.2.2.size (by have := hxl.out; omega) ?_; intro v1 w5 hown hb hg hat; have HI5 := Aside0.mk (HI.out.grow hown hb hg hat); have HW5 := Aside0.mk (HI.out.blk0 HW.out (by decide) hg); clear hown hb hg hat))
            go_roundg (17 - (5 + 1))
            case measure => omega
            case rel => exact ⟨5 + 1, by omega, rfl, rfl, ⟨by have := HI5.out; simpa [byt8] using this⟩, HW5⟩
          | 6, _, hlt, HI, hxl =>
            have hd : decide ((6 : Int) < ((ln : Int) + 8 - 1) / 8) = true := decide_eq_true (by omega)
            go_wp2_with (first | ((with_reducible refine gate_builtin (b := .append) (xs := #[.tmp 37, .tmp 48]) rfl ?_); at_builtin; refine print_append_num (w0 := w0) w0.heap.size rfl (.tmp 37) (.tmp 48) 23 5 .u8 1 rfl Try.underlying23 info5 (by decide) _ _ _ rfl rfl HI.out.1 HI.out.2.2.2 HI.out.2.2.2.size (by have := hxl.out; omega) ?_; intro v1 w5 hown hb hg hat; have HI5 := Aside0.mk (HI.out.grow hown hb hg hat); have HW5 := Aside0.mk (HI.out.blk0 HW.out (by decide) hg); clear hown hb hg hat))
            go_roundg (17 - (6 + 1))
            case measure => omega
            case rel => exact ⟨6 + 1, by omega, rfl, rfl, ⟨by have := HI5.out; simpa [byt8] using this⟩, HW5⟩
          | 7, _, hlt, HI, hxl =>
            have hd : decide ((7 : Int) < ((ln : Int) + 8 - 1) / 8) = true := decide_eq_true (by omega)
            go_wp2_with (first | ((with_reducible refine gate_builtin (b := .append) (xs := #[.tmp 37, .tmp 48]) rfl ?_); at_builtin; refine print_append_num (w0 := w0) w0.heap.size rfl (.tmp 37) (.tmp 48) 23 5 .u8 1 rfl Try.underlying23 info5 (by decide) _ _ _ rfl rfl HI.out.1 HI.out.2.2.2 HI.out.2.2.2.size (by have := hxl.out; omega) ?_; intro v1 w5 hown hb hg hat; have HI5 := Aside0.mk (HI.out.grow hown hb hg hat); have HW5 := Aside0.mk (HI.out.blk0 HW.out (by decide) hg); clear hown hb hg hat))
            go_roundg (17 - (7 + 1))
            case measure => omega
            case rel => exact ⟨7 + 1, by omega, rfl, rfl, ⟨by have := HI5.out; simpa [byt8] using this⟩, HW5⟩
          | 8, _, hlt, HI, hxl =>
            have hd : decide ((8 : Int) < ((ln : Int) + 8 - 1) / 8) = true := decide_eq_true (by omega)
            go_wp2_with (first | ((with_reducible refine gate_builtin (b := .append) (xs := #[.tmp 37, .tmp 48]) rfl ?_); at_builtin; refine print_append_num (w0 := w0) w0.heap.size rfl (.tmp 37) (.tmp 48) 23 5 .u8 1 rfl Try.underlying23 info5 (by decide) _ _ _ rfl rfl HI.out.1 HI.out.2.2.2 HI.out.2.2.2.size (by have := hxl.out; omega) ?_; intro v1 w5 hown hb hg hat; have HI5 := Aside0.mk (HI.out.grow hown hb hg hat); have HW5 := Aside0.mk (HI.out.blk0 HW.out (by decide) hg); clear hown hb hg hat))
            go_roundg (17 - (8 + 1))
            case measure => omega
            case rel => exact ⟨8 + 1, by omega, rfl, rfl, ⟨by have := HI5.out; simpa [byt8] using this⟩, HW5⟩
          | 9, _, hlt, HI, hxl =>
            have hd : decide ((9 : Int) < ((ln : Int) + 8 - 1) / 8) = true := decide_eq_true (by omega)
            go_wp2_with (first | ((with_reducible refine gate_builtin (b := .append) (xs := #[.tmp 37, .tmp 48]) rfl ?_); at_builtin; refine print_append_num (w0 := w0) w0.heap.size rfl (.tmp 37) (.tmp 48) 23 5 .u8 1 rfl Try.underlying23 info5 (by decide) _ _ _ rfl rfl HI.out.1 HI.out.2.2.2 HI.out.2.2.2.size (by have := hxl.out; omega) ?_; intro v1 w5 hown hb hg hat; have HI5 := Aside0.mk (HI.out.grow hown hb hg hat); have HW5 := Aside0.mk (HI.out.blk0 HW.out (by decide) hg); clear hown hb hg hat))
            go_roundg (17 - (9 + 1))
            case measure => omega
            case rel => exact ⟨9 + 1, by omega, rfl, rfl, ⟨by have := HI5.out; simpa [byt8] using this⟩, HW5⟩
          | 10, _, hlt, HI, hxl =>
            have hd : decide ((10 : Int) < ((ln : Int) + 8 - 1) / 8) = true := decide_eq_true (by omega)
            go_wp2_with (first | ((with_reducible refine gate_builtin (b := .append) (xs := #[.tmp 37, .tmp 48]) rfl ?_); at_builtin; refine print_append_num (w0 := w0) w0.heap.size rfl (.tmp 37) (.tmp 48) 23 5 .u8 1 rfl Try.underlying23 info5 (by decide) _ _ _ rfl rfl HI.out.1 HI.out.2.2.2 HI.out.2.2.2.size (by have := hxl.out; omega) ?_; intro v1 w5 hown hb hg hat; have HI5 := Aside0.mk (HI.out.grow hown hb hg hat); have HW5 := Aside0.mk (HI.out.blk0 HW.out (by decide) hg); clear hown hb hg hat))
            go_roundg (17 - (10 + 1))
            case measure => omega
            case rel => exact ⟨10 + 1, by omega, rfl, rfl, ⟨by have := HI5.out; simpa [byt8] using this⟩, HW5⟩
          | 11, _, hlt, HI, hxl =>
            have hd : decide ((11 : Int) < ((ln : Int) + 8 - 1) / 8) = true := decide_eq_true (by omega)
            go_wp2_with (first | ((with_reducible refine gate_builtin (b := .append) (xs := #[.tmp 37, .tmp 48]) rfl ?_); at_builtin; refine print_append_num (w0 := w0) w0.heap.size rfl (.tmp 37) (.tmp 48) 23 5 .u8 1 rfl Try.underlying23 info5 (by decide) _ _ _ rfl rfl HI.out.1 HI.out.2.2.2 HI.out.2.2.2.size (by have := hxl.out; omega) ?_; intro v1 w5 hown hb hg hat; have HI5 := Aside0.mk (HI.out.grow hown hb hg hat); have HW5 := Aside0.mk (HI.out.blk0 HW.out (by decide) hg); clear hown hb hg hat))
            go_roundg (17 - (11 + 1))
            case measure => omega
            case rel => exact ⟨11 + 1, by omega, rfl, rfl, ⟨by have := HI5.out; simpa [byt8] using this⟩, HW5⟩
          | 12, _, hlt, HI, hxl =>
            have hd : decide ((12 : Int) < ((ln : Int) + 8 - 1) / 8) = true := decide_eq_true (by omega)
            go_wp2_with (first | ((with_reducible refine gate_builtin (b := .append) (xs := #[.tmp 37, .tmp 48]) rfl ?_); at_builtin; refine print_append_num (w0 := w0) w0.heap.size rfl (.tmp 37) (.tmp 48) 23 5 .u8 1 rfl Try.underlying23 info5 (by decide) _ _ _ rfl rfl HI.out.1 HI.out.2.2.2 HI.out.2.2.2.size (by have := hxl.out; omega) ?_; intro v1 w5 hown hb hg hat; have HI5 := Aside0.mk (HI.out.grow hown hb hg hat); have HW5 := Aside0.mk (HI.out.blk0 HW.out (by decide) hg); clear hown hb hg hat))
            go_roundg (17 - (12 + 1))
            case measure => omega
            case rel => exact ⟨12 + 1, by omega, rfl, rfl, ⟨by have := HI5.out; simpa [byt8] using this⟩, HW5⟩
          | 13, _, hlt, HI, hxl =>
            have hd : decide ((13 : Int) < ((ln : Int) + 8 - 1) / 8) = true := decide_eq_true (by omega)
            go_wp2_with (first | ((with_reducible refine gate_builtin (b := .append) (xs := #[.tmp 37, .tmp 48]) rfl ?_); at_builtin; refine print_append_num (w0 := w0) w0.heap.size rfl (.tmp 37) (.tmp 48) 23 5 .u8 1 rfl Try.underlying23 info5 (by decide) _ _ _ rfl rfl HI.out.1 HI.out.2.2.2 HI.out.2.2.2.size (by have := hxl.out; omega) ?_; intro v1 w5 hown hb hg hat; have HI5 := Aside0.mk (HI.out.grow hown hb hg hat); have HW5 := Aside0.mk (HI.out.blk0 HW.out (by decide) hg); clear hown hb hg hat))
            go_roundg (17 - (13 + 1))
            case measure => omega
            case rel => exact ⟨13 + 1, by omega, rfl, rfl, ⟨by have := HI5.out; simpa [byt8] using this⟩, HW5⟩
          | 14, _, hlt, HI, hxl =>
            have hd : decide ((14 : Int) < ((ln : Int) + 8 - 1) / 8) = true := decide_eq_true (by omega)
            go_wp2_with (first | ((with_reducible refine gate_builtin (b := .append) (xs := #[.tmp 37, .tmp 48]) rfl ?_); at_builtin; refine print_append_num (w0 := w0) w0.heap.size rfl (.tmp 37) (.tmp 48) 23 5 .u8 1 rfl Try.underlying23 info5 (by decide) _ _ _ rfl rfl HI.out.1 HI.out.2.2.2 HI.out.2.2.2.size (by have := hxl.out; omega) ?_; intro v1 w5 hown hb hg hat; have HI5 := Aside0.mk (HI.out.grow hown hb hg hat); have HW5 := Aside0.mk (HI.out.blk0 HW.out (by decide) hg); clear hown hb hg hat))
            go_roundg (17 - (14 + 1))
            case measure => omega
            case rel => exact ⟨14 + 1, by omega, rfl, rfl, ⟨by have := HI5.out; simpa [byt8] using this⟩, HW5⟩
          | 15, _, hlt, HI, hxl =>
            have hd : decide ((15 : Int) < ((ln : Int) + 8 - 1) / 8) = true := decide_eq_true (by omega)
            go_wp2_with (first | ((with_reducible refine gate_builtin (b := .append) (xs := #[.tmp 37, .tmp 48]) rfl ?_); at_builtin; refine print_append_num (w0 := w0) w0.heap.size rfl (.tmp 37) (.tmp 48) 23 5 .u8 1 rfl Try.underlying23 info5 (by decide) _ _ _ rfl rfl HI.out.1 HI.out.2.2.2 HI.out.2.2.2.size (by have := hxl.out; omega) ?_; intro v1 w5 hown hb hg hat; have HI5 := Aside0.mk (HI.out.grow hown hb hg hat); have HW5 := Aside0.mk (HI.out.blk0 HW.out (by decide) hg); clear hown hb hg hat))
            go_roundg (17 - (15 + 1))
            case measure => omega
            case rel => exact ⟨15 + 1, by omega, rfl, rfl, ⟨by have := HI5.out; simpa [byt8] using this⟩, HW5⟩
          | n + 16, _, hlt, _, _ => exact absurd hlt (by omega)
        · have hd : decide ((i : Int) < ((ln : Int) + 8 - 1) / 8) = false := decide_eq_false (by omega)
          go_wp2
          go_ret
          obtain rfl : i = (ln + 7) / 8 := by omega
          have e : l0 ++ [4, (ln : Int)] ++ (byt8 W0 ++ byt8 0).take ((ln + 7) / 8) = r := by
            rw [← HR.out]
            rw [pre_word, if_neg (by decide), HW0.out]
            simp [pre_word]
          have hI := HI.out
          rw [e] at hI
          exact ⟨_, rfl, Kd.R_of_own (enc := Value.int .u8) (h1 := fun _ => rfl) hI.1 hI.2.1, hI.2.2.2, hI.2.2.1⟩
    · go_wp2
      have hq1 : w2.drew.cell? ⟨gp, 1, none⟩ = some (.int .u64 a1_1) := (blk_cell BP2.out 1).trans rfl
      have hq2 : w2.drew.cell? ⟨gp, 2, none⟩ = some (.int .u64 a1_2) := (blk_cell BP2.out 2).trans rfl
      have hq3 : w2.drew.cell? ⟨gw, 0, none⟩ = some (.int .u64 (IntKind.u64.wrap (a1_2 * 4294967296))) := (blk_cell BW.out 0).trans rfl
      have hq4 : w2.drew.cell? ⟨gw, 1, none⟩ = some (.int .u64 0) := (blk_cell BW.out 1).trans rfl
      have hq5 : w2.drew.frozen? ⟨gw, 0, none⟩ = false := blk_frozen BW.out 0
      have hq6 : w2.drew.frozen? ⟨gw, 1, none⟩ = false := blk_frozen BW.out 1
      have hne := HGW.out.2
      have hq7 : w2.cell? ⟨gp, 1, none⟩ = some (.int .u64 a1_1) := hq1
      have hq8 : w2.cell? ⟨gp, 2, none⟩ = some (.int .u64 a1_2) := hq2
      have hq9 : w2.cell? ⟨gw, 0, none⟩ = some (.int .u64 (IntKind.u64.wrap (a1_2 * 4294967296))) := hq3
      have hqa : w2.cell? ⟨gw, 1, none⟩ = some (.int .u64 0) := hq4
      have hqb : w2.frozen? ⟨gw, 0, none⟩ = false := hq5
      have hqc : w2.frozen? ⟨gw, 1, none⟩ = false := hq6
      go_region
      have bw3 : ((w2.setCell ⟨gw, 0, none⟩ (.int .u64 a1_1)).setCell ⟨gw, 1, none⟩ (.int .u64 a1_2)).drew.heap[gw]? = some (.cells #[.int .u64 a1_1, .int .u64 a1_2] 81 (0, 0)) := blk_drew (blk_put (blk_put BW.out 0 (.int .u64 a1_1) rfl) 1 (.int .u64 a1_2) rfl)
      have bp3 : ((w2.setCell ⟨gw, 0, none⟩ (.int .u64 a1_1)).setCell ⟨gw, 1, none⟩ (.int .u64 a1_2)).drew.heap[gp]? = some (.cells #[.bool true, .int .u64 a1_1, .int .u64 a1_2, .int .i64 ln] 30 (0, 0)) := blk_drew (blk_far (blk_far BP2.out (p := ⟨gw, 0, none⟩) (by simpa using hne) _) (p := ⟨gw, 1, none⟩) (by simpa using hne) _)
      have hi3 : PreI w0 w ((w2.setCell ⟨gw, 0, none⟩ (.int .u64 a1_1)).setCell ⟨gw, 1, none⟩ (.int .u64 a1_2)).drew P0_ u9000_ l0 := ((HI2.out.set BW.out (by decide) HGW.out.1 0 (.int .u64 a1_1) hw0).set (blk_put BW.out 0 (.int .u64 a1_1) rfl) (by decide) HGW.out.1 1 (.int .u64 a1_2) hw0).drew
      clear hq1 hq2 hq3 hq4 hq5 hq6 hq7 hq8 hq9 hqa hqb hqc hb0 hb3
      generalize ((w2.setCell ⟨gw, 0, none⟩ (.int .u64 a1_1)).setCell ⟨gw, 1, none⟩ (.int .u64 a1_2)).drew = w3 at bw3 bp3 hi3 ⊢
      have hb3 : w3.cell? ⟨gp, 3, none⟩ = some (.int .i64 ln) := (blk_cell bp3 3).trans rfl
      have BW3 := Aside0.mk bw3
      have BP3 := Aside0.mk bp3
      have HI3 := Aside0.mk hi3
      clear bw3 bp3 hi3
      go_wp2_with (first | ((with_reducible refine gate_builtin (b := .append) (xs := #[.tmp 22, .tmp 27]) rfl ?_); at_builtin; refine print_append_row (w0 := w0) w0.heap.size rfl (.tmp 22) (.tmp 27) 23 5 .u8 1 rfl Try.underlying23 info5 (by decide) u9000_ l0 [6, (ln : Int)] _ 2 2 rfl rfl (HI3.out.alloc _).1 (reads2 (heap_alloc_new _ _)) (HI3.out.alloc _).2.2.2 (HI3.out.alloc _).2.2.2.size (by omega) ?_; intro v1 w4 hown hb hg hat; have HI4 := Aside0.mk ((HI3.out.alloc _).grow hown hb hg hat); have BW4 := Aside0.mk (HI3.out.blk BW3.out (by decide) hg); have BP4 := Aside0.mk (HI3.out.blk BP3.out (by decide) hg); have hp3 := (blk_cell BP4.out 3).trans rfl; clear hown hb hg hat))
      go_loopg [34, 0] 17 (fun kq v34 v0 w' => ∃ (i : Nat), i ≤ (ln + 7) / 8 ∧ kq = 17 - i ∧ v34 = .int .i64 (i : Int) ∧ Aside0 (PreI w0 w w' P0_ v0 (l0 ++ [6, (ln : Int)] ++ (byt8 a1_1 ++ byt8 a1_2).take i)) ∧ Aside0 (w'.heap[gw]? = some (.cells #[.int .u64 a1_1, .int .u64 a1_2] 81 (0, 0))))
      case atStart => exact ⟨0, by omega, rfl, rfl, ⟨by simpa using HI4.out⟩, BW4⟩
      case round =>
        obtain ⟨i, hi, rfl, rfl, HI, HW⟩ := hrel
        have hw00 := (blk_cell HW.out 0).trans rfl
        have hw01 := (blk_cell HW.out 1).trans rfl
        have hxl : Aside0 ((l0 ++ [6, (ln : Int)] ++ (byt8 a1_1 ++ byt8 a1_2).take i).length ≤ 140737488355100) := ⟨by simp [byt8]; omega⟩
        by_cases hlt : i < (ln + 7) / 8
        · match i, hi, hlt, HI, hxl with
          | 0, _, hlt, HI, hxl =>
            have hd : decide ((0 : Int) < ((ln : Int) + 8 - 1) / 8) = true := decide_eq_true (by omega)
            go_wp2_with (first | ((with_reducible refine gate_builtin (b := .append) (xs := #[.tmp 37, .tmp 48]) rfl ?_); at_builtin; refine print_append_num (w0 := w0) w0.heap.size rfl (.tmp 37) (.tmp 48) 23 5 .u8 1 rfl Try.underlying23 info5 (by decide) _ _ _ rfl rfl HI.out.1 HI.out.2.2.2 HI.out.2.2.2.size (by have := hxl.out; omega) ?_; intro v1 w5 hown hb hg hat; have HI5 := Aside0.mk (HI.out.grow hown hb hg hat); have HW5 := Aside0.mk (HI.out.blk0 HW.out (by decide) hg); clear hown hb hg hat))
            go_roundg (17 - (0 + 1))
            case measure => omega
            case rel => exact ⟨0 + 1, by omega, rfl, rfl, ⟨by have := HI5.out; first | simpa [byt8] using this | simpa [byt8, show a1_1 / 72057594037927936 % 256 = a1_1 / 72057594037927936 from by omega] using this | simpa [byt8, show a1_2 / 72057594037927936 % 256 = a1_2 / 72057594037927936 from by omega] using this⟩, HW5⟩
          | 1, _, hlt, HI, hxl =>
            have hd : decide ((1 : Int) < ((ln : Int) + 8 - 1) / 8) = true := decide_eq_true (by omega)
            go_wp2_with (first | ((with_reducible refine gate_builtin (b := .append) (xs := #[.tmp 37, .tmp 48]) rfl ?_); at_builtin; refine print_append_num (w0 := w0) w0.heap.size rfl (.tmp 37) (.tmp 48) 23 5 .u8 1 rfl Try.underlying23 info5 (by decide) _ _ _ rfl rfl HI.out.1 HI.out.2.2.2 HI.out.2.2.2.size (by have := hxl.out; omega) ?_; intro v1 w5 hown hb hg hat; have HI5 := Aside0.mk (HI.out.grow hown hb hg hat); have HW5 := Aside0.mk (HI.out.blk0 HW.out (by decide) hg); clear hown hb hg hat))
            go_roundg (17 - (1 + 1))
            case measure => omega
            case rel => exact ⟨1 + 1, by omega, rfl, rfl, ⟨by have := HI5.out; first | simpa [byt8] using this | simpa [byt8, show a1_1 / 72057594037927936 % 256 = a1_1 / 72057594037927936 from by omega] using this | simpa [byt8, show a1_2 / 72057594037927936 % 256 = a1_2 / 72057594037927936 from by omega] using this⟩, HW5⟩
          | 2, _, hlt, HI, hxl =>
            have hd : decide ((2 : Int) < ((ln : Int) + 8 - 1) / 8) = true := decide_eq_true (by omega)
            go_wp2_with (first | ((with_reducible refine gate_builtin (b := .append) (xs := #[.tmp 37, .tmp 48]) rfl ?_); at_builtin; refine print_append_num (w0 := w0) w0.heap.size rfl (.tmp 37) (.tmp 48) 23 5 .u8 1 rfl Try.underlying23 info5 (by decide) _ _ _ rfl rfl HI.out.1 HI.out.2.2.2 HI.out.2.2.2.size (by have := hxl.out; omega) ?_; intro v1 w5 hown hb hg hat; have HI5 := Aside0.mk (HI.out.grow hown hb hg hat); have HW5 := Aside0.mk (HI.out.blk0 HW.out (by decide) hg); clear hown hb hg hat))
            go_roundg (17 - (2 + 1))
            case measure => omega
            case rel => exact ⟨2 + 1, by omega, rfl, rfl, ⟨by have := HI5.out; first | simpa [byt8] using this | simpa [byt8, show a1_1 / 72057594037927936 % 256 = a1_1 / 72057594037927936 from by omega] using this | simpa [byt8, show a1_2 / 72057594037927936 % 256 = a1_2 / 72057594037927936 from by omega] using this⟩, HW5⟩
          | 3, _, hlt, HI, hxl =>
            have hd : decide ((3 : Int) < ((ln : Int) + 8 - 1) / 8) = true := decide_eq_true (by omega)
            go_wp2_with (first | ((with_reducible refine gate_builtin (b := .append) (xs := #[.tmp 37, .tmp 48]) rfl ?_); at_builtin; refine print_append_num (w0 := w0) w0.heap.size rfl (.tmp 37) (.tmp 48) 23 5 .u8 1 rfl Try.underlying23 info5 (by decide) _ _ _ rfl rfl HI.out.1 HI.out.2.2.2 HI.out.2.2.2.size (by have := hxl.out; omega) ?_; intro v1 w5 hown hb hg hat; have HI5 := Aside0.mk (HI.out.grow hown hb hg hat); have HW5 := Aside0.mk (HI.out.blk0 HW.out (by decide) hg); clear hown hb hg hat))
            go_roundg (17 - (3 + 1))
            case measure => omega
            case rel => exact ⟨3 + 1, by omega, rfl, rfl, ⟨by have := HI5.out; first | simpa [byt8] using this | simpa [byt8, show a1_1 / 72057594037927936 % 256 = a1_1 / 72057594037927936 from by omega] using this | simpa [byt8, show a1_2 / 72057594037927936 % 256 = a1_2 / 72057594037927936 from by omega] using this⟩, HW5⟩
          | 4, _, hlt, HI, hxl =>
            have hd : decide ((4 : Int) < ((ln : Int) + 8 - 1) / 8) = true := decide_eq_true (by omega)
            go_wp2_with (first | ((with_reducible refine gate_builtin (b := .append) (xs := #[.tmp 37, .tmp 48]) rfl ?_); at_builtin; refine print_append_num (w0 := w0) w0.heap.size rfl (.tmp 37) (.tmp 48) 23 5 .u8 1 rfl Try.underlying23 info5 (by decide) _ _ _ rfl rfl HI.out.1 HI.out.2.2.2 HI.out.2.2.2.size (by have := hxl.out; omega) ?_; intro v1 w5 hown hb hg hat; have HI5 := Aside0.mk (HI.out.grow hown hb hg hat); have HW5 := Aside0.mk (HI.out.blk0 HW.out (by decide) hg); clear hown hb hg hat))
            go_roundg (17 - (4 + 1))
            case measure => omega
            case rel => exact ⟨4 + 1, by omega, rfl, rfl, ⟨by have := HI5.out; first | simpa [byt8] using this | simpa [byt8, show a1_1 / 72057594037927936 % 256 = a1_1 / 72057594037927936 from by omega] using this | simpa [byt8, show a1_2 / 72057594037927936 % 256 = a1_2 / 72057594037927936 from by omega] using this⟩, HW5⟩
          | 5, _, hlt, HI, hxl =>
            have hd : decide ((5 : Int) < ((ln : Int) + 8 - 1) / 8) = true := decide_eq_true (by omega)
            go_wp2_with (first | ((with_reducible refine gate_builtin (b := .append) (xs := #[.tmp 37, .tmp 48]) rfl ?_); at_builtin; refine print_append_num (w0 := w0) w0.heap.size rfl (.tmp 37) (.tmp 48) 23 5 .u8 1 rfl Try.underlying23 info5 (by decide) _ _ _ rfl rfl HI.out.1 HI.out.2.2.2 HI.out.2.2.2.size (by have := hxl.out; omega) ?_; intro v1 w5 hown hb hg hat; have HI5 := Aside0.mk (HI.out.grow hown hb hg hat); have HW5 := Aside0.mk (HI.out.blk0 HW.out (by decide) hg); clear hown hb hg hat))
            go_roundg (17 - (5 + 1))
            case measure => omega
            case rel => exact ⟨5 + 1, by omega, rfl, rfl, ⟨by have := HI5.out; first | simpa [byt8] using this | simpa [byt8, show a1_1 / 72057594037927936 % 256 = a1_1 / 72057594037927936 from by omega] using this | simpa [byt8, show a1_2 / 72057594037927936 % 256 = a1_2 / 72057594037927936 from by omega] using this⟩, HW5⟩
          | 6, _, hlt, HI, hxl =>
            have hd : decide ((6 : Int) < ((ln : Int) + 8 - 1) / 8) = true := decide_eq_true (by omega)
            go_wp2_with (first | ((with_reducible refine gate_builtin (b := .append) (xs := #[.tmp 37, .tmp 48]) rfl ?_); at_builtin; refine print_append_num (w0 := w0) w0.heap.size rfl (.tmp 37) (.tmp 48) 23 5 .u8 1 rfl Try.underlying23 info5 (by decide) _ _ _ rfl rfl HI.out.1 HI.out.2.2.2 HI.out.2.2.2.size (by have := hxl.out; omega) ?_; intro v1 w5 hown hb hg hat; have HI5 := Aside0.mk (HI.out.grow hown hb hg hat); have HW5 := Aside0.mk (HI.out.blk0 HW.out (by decide) hg); clear hown hb hg hat))
            go_roundg (17 - (6 + 1))
            case measure => omega
            case rel => exact ⟨6 + 1, by omega, rfl, rfl, ⟨by have := HI5.out; first | simpa [byt8] using this | simpa [byt8, show a1_1 / 72057594037927936 % 256 = a1_1 / 72057594037927936 from by omega] using this | simpa [byt8, show a1_2 / 72057594037927936 % 256 = a1_2 / 72057594037927936 from by omega] using this⟩, HW5⟩
          | 7, _, hlt, HI, hxl =>
            have hd : decide ((7 : Int) < ((ln : Int) + 8 - 1) / 8) = true := decide_eq_true (by omega)
            go_wp2_with (first | ((with_reducible refine gate_builtin (b := .append) (xs := #[.tmp 37, .tmp 48]) rfl ?_); at_builtin; refine print_append_num (w0 := w0) w0.heap.size rfl (.tmp 37) (.tmp 48) 23 5 .u8 1 rfl Try.underlying23 info5 (by decide) _ _ _ rfl rfl HI.out.1 HI.out.2.2.2 HI.out.2.2.2.size (by have := hxl.out; omega) ?_; intro v1 w5 hown hb hg hat; have HI5 := Aside0.mk (HI.out.grow hown hb hg hat); have HW5 := Aside0.mk (HI.out.blk0 HW.out (by decide) hg); clear hown hb hg hat))
            go_roundg (17 - (7 + 1))
            case measure => omega
            case rel => exact ⟨7 + 1, by omega, rfl, rfl, ⟨by have := HI5.out; first | simpa [byt8] using this | simpa [byt8, show a1_1 / 72057594037927936 % 256 = a1_1 / 72057594037927936 from by omega] using this | simpa [byt8, show a1_2 / 72057594037927936 % 256 = a1_2 / 72057594037927936 from by omega] using this⟩, HW5⟩
          | 8, _, hlt, HI, hxl =>
            have hd : decide ((8 : Int) < ((ln : Int) + 8 - 1) / 8) = true := decide_eq_true (by omega)
            go_wp2_with (first | ((with_reducible refine gate_builtin (b := .append) (xs := #[.tmp 37, .tmp 48]) rfl ?_); at_builtin; refine print_append_num (w0 := w0) w0.heap.size rfl (.tmp 37) (.tmp 48) 23 5 .u8 1 rfl Try.underlying23 info5 (by decide) _ _ _ rfl rfl HI.out.1 HI.out.2.2.2 HI.out.2.2.2.size (by have := hxl.out; omega) ?_; intro v1 w5 hown hb hg hat; have HI5 := Aside0.mk (HI.out.grow hown hb hg hat); have HW5 := Aside0.mk (HI.out.blk0 HW.out (by decide) hg); clear hown hb hg hat))
            go_roundg (17 - (8 + 1))
            case measure => omega
            case rel => exact ⟨8 + 1, by omega, rfl, rfl, ⟨by have := HI5.out; first | simpa [byt8] using this | simpa [byt8, show a1_1 / 72057594037927936 % 256 = a1_1 / 72057594037927936 from by omega] using this | simpa [byt8, show a1_2 / 72057594037927936 % 256 = a1_2 / 72057594037927936 from by omega] using this⟩, HW5⟩
          | 9, _, hlt, HI, hxl =>
            have hd : decide ((9 : Int) < ((ln : Int) + 8 - 1) / 8) = true := decide_eq_true (by omega)
            go_wp2_with (first | ((with_reducible refine gate_builtin (b := .append) (xs := #[.tmp 37, .tmp 48]) rfl ?_); at_builtin; refine print_append_num (w0 := w0) w0.heap.size rfl (.tmp 37) (.tmp 48) 23 5 .u8 1 rfl Try.underlying23 info5 (by decide) _ _ _ rfl rfl HI.out.1 HI.out.2.2.2 HI.out.2.2.2.size (by have := hxl.out; omega) ?_; intro v1 w5 hown hb hg hat; have HI5 := Aside0.mk (HI.out.grow hown hb hg hat); have HW5 := Aside0.mk (HI.out.blk0 HW.out (by decide) hg); clear hown hb hg hat))
            go_roundg (17 - (9 + 1))
            case measure => omega
            case rel => exact ⟨9 + 1, by omega, rfl, rfl, ⟨by have := HI5.out; first | simpa [byt8] using this | simpa [byt8, show a1_1 / 72057594037927936 % 256 = a1_1 / 72057594037927936 from by omega] using this | simpa [byt8, show a1_2 / 72057594037927936 % 256 = a1_2 / 72057594037927936 from by omega] using this⟩, HW5⟩
          | 10, _, hlt, HI, hxl =>
            have hd : decide ((10 : Int) < ((ln : Int) + 8 - 1) / 8) = true := decide_eq_true (by omega)
            go_wp2_with (first | ((with_reducible refine gate_builtin (b := .append) (xs := #[.tmp 37, .tmp 48]) rfl ?_); at_builtin; refine print_append_num (w0 := w0) w0.heap.size rfl (.tmp 37) (.tmp 48) 23 5 .u8 1 rfl Try.underlying23 info5 (by decide) _ _ _ rfl rfl HI.out.1 HI.out.2.2.2 HI.out.2.2.2.size (by have := hxl.out; omega) ?_; intro v1 w5 hown hb hg hat; have HI5 := Aside0.mk (HI.out.grow hown hb hg hat); have HW5 := Aside0.mk (HI.out.blk0 HW.out (by decide) hg); clear hown hb hg hat))
            go_roundg (17 - (10 + 1))
            case measure => omega
            case rel => exact ⟨10 + 1, by omega, rfl, rfl, ⟨by have := HI5.out; first | simpa [byt8] using this | simpa [byt8, show a1_1 / 72057594037927936 % 256 = a1_1 / 72057594037927936 from by omega] using this | simpa [byt8, show a1_2 / 72057594037927936 % 256 = a1_2 / 72057594037927936 from by omega] using this⟩, HW5⟩
          | 11, _, hlt, HI, hxl =>
            have hd : decide ((11 : Int) < ((ln : Int) + 8 - 1) / 8) = true := decide_eq_true (by omega)
            go_wp2_with (first | ((with_reducible refine gate_builtin (b := .append) (xs := #[.tmp 37, .tmp 48]) rfl ?_); at_builtin; refine print_append_num (w0 := w0) w0.heap.size rfl (.tmp 37) (.tmp 48) 23 5 .u8 1 rfl Try.underlying23 info5 (by decide) _ _ _ rfl rfl HI.out.1 HI.out.2.2.2 HI.out.2.2.2.size (by have := hxl.out; omega) ?_; intro v1 w5 hown hb hg hat; have HI5 := Aside0.mk (HI.out.grow hown hb hg hat); have HW5 := Aside0.mk (HI.out.blk0 HW.out (by decide) hg); clear hown hb hg hat))
            go_roundg (17 - (11 + 1))
            case measure => omega
            case rel => exact ⟨11 + 1, by omega, rfl, rfl, ⟨by have := HI5.out; first | simpa [byt8] using this | simpa [byt8, show a1_1 / 72057594037927936 % 256 = a1_1 / 72057594037927936 from by omega] using this | simpa [byt8, show a1_2 / 72057594037927936 % 256 = a1_2 / 72057594037927936 from by omega] using this⟩, HW5⟩
          | 12, _, hlt, HI, hxl =>
            have hd : decide ((12 : Int) < ((ln : Int) + 8 - 1) / 8) = true := decide_eq_true (by omega)
            go_wp2_with (first | ((with_reducible refine gate_builtin (b := .append) (xs := #[.tmp 37, .tmp 48]) rfl ?_); at_builtin; refine print_append_num (w0 := w0) w0.heap.size rfl (.tmp 37) (.tmp 48) 23 5 .u8 1 rfl Try.underlying23 info5 (by decide) _ _ _ rfl rfl HI.out.1 HI.out.2.2.2 HI.out.2.2.2.size (by have := hxl.out; omega) ?_; intro v1 w5 hown hb hg hat; have HI5 := Aside0.mk (HI.out.grow hown hb hg hat); have HW5 := Aside0.mk (HI.out.blk0 HW.out (by decide) hg); clear hown hb hg hat))
            go_roundg (17 - (12 + 1))
            case measure => omega
            case rel => exact ⟨12 + 1, by omega, rfl, rfl, ⟨by have := HI5.out; first | simpa [byt8] using this | simpa [byt8, show a1_1 / 72057594037927936 % 256 = a1_1 / 72057594037927936 from by omega] using this | simpa [byt8, show a1_2 / 72057594037927936 % 256 = a1_2 / 72057594037927936 from by omega] using this⟩, HW5⟩
          | 13, _, hlt, HI, hxl =>
            have hd : decide ((13 : Int) < ((ln : Int) + 8 - 1) / 8) = true := decide_eq_true (by omega)
            go_wp2_with (first | ((with_reducible refine gate_builtin (b := .append) (xs := #[.tmp 37, .tmp 48]) rfl ?_); at_builtin; refine print_append_num (w0 := w0) w0.heap.size rfl (.tmp 37) (.tmp 48) 23 5 .u8 1 rfl Try.underlying23 info5 (by decide) _ _ _ rfl rfl HI.out.1 HI.out.2.2.2 HI.out.2.2.2.size (by have := hxl.out; omega) ?_; intro v1 w5 hown hb hg hat; have HI5 := Aside0.mk (HI.out.grow hown hb hg hat); have HW5 := Aside0.mk (HI.out.blk0 HW.out (by decide) hg); clear hown hb hg hat))
            go_roundg (17 - (13 + 1))
            case measure => omega
            case rel => exact ⟨13 + 1, by omega, rfl, rfl, ⟨by have := HI5.out; first | simpa [byt8] using this | simpa [byt8, show a1_1 / 72057594037927936 % 256 = a1_1 / 72057594037927936 from by omega] using this | simpa [byt8, show a1_2 / 72057594037927936 % 256 = a1_2 / 72057594037927936 from by omega] using this⟩, HW5⟩
          | 14, _, hlt, HI, hxl =>
            have hd : decide ((14 : Int) < ((ln : Int) + 8 - 1) / 8) = true := decide_eq_true (by omega)
            go_wp2_with (first | ((with_reducible refine gate_builtin (b := .append) (xs := #[.tmp 37, .tmp 48]) rfl ?_); at_builtin; refine print_append_num (w0 := w0) w0.heap.size rfl (.tmp 37) (.tmp 48) 23 5 .u8 1 rfl Try.underlying23 info5 (by decide) _ _ _ rfl rfl HI.out.1 HI.out.2.2.2 HI.out.2.2.2.size (by have := hxl.out; omega) ?_; intro v1 w5 hown hb hg hat; have HI5 := Aside0.mk (HI.out.grow hown hb hg hat); have HW5 := Aside0.mk (HI.out.blk0 HW.out (by decide) hg); clear hown hb hg hat))
            go_roundg (17 - (14 + 1))
            case measure => omega
            case rel => exact ⟨14 + 1, by omega, rfl, rfl, ⟨by have := HI5.out; first | simpa [byt8] using this | simpa [byt8, show a1_1 / 72057594037927936 % 256 = a1_1 / 72057594037927936 from by omega] using this | simpa [byt8, show a1_2 / 72057594037927936 % 256 = a1_2 / 72057594037927936 from by omega] using this⟩, HW5⟩
          | 15, _, hlt, HI, hxl =>
            have hd : decide ((15 : Int) < ((ln : Int) + 8 - 1) / 8) = true := decide_eq_true (by omega)
            go_wp2_with (first | ((with_reducible refine gate_builtin (b := .append) (xs := #[.tmp 37, .tmp 48]) rfl ?_); at_builtin; refine print_append_num (w0 := w0) w0.heap.size rfl (.tmp 37) (.tmp 48) 23 5 .u8 1 rfl Try.underlying23 info5 (by decide) _ _ _ rfl rfl HI.out.1 HI.out.2.2.2 HI.out.2.2.2.size (by have := hxl.out; omega) ?_; intro v1 w5 hown hb hg hat; have HI5 := Aside0.mk (HI.out.grow hown hb hg hat); have HW5 := Aside0.mk (HI.out.blk0 HW.out (by decide) hg); clear hown hb hg hat))
            go_roundg (17 - (15 + 1))
            case measure => omega
            case rel => exact ⟨15 + 1, by omega, rfl, rfl, ⟨by have := HI5.out; first | simpa [byt8] using this | simpa [byt8, show a1_1 / 72057594037927936 % 256 = a1_1 / 72057594037927936 from by omega] using this | simpa [byt8, show a1_2 / 72057594037927936 % 256 = a1_2 / 72057594037927936 from by omega] using this⟩, HW5⟩
          | n + 16, _, hlt, _, _ => exact absurd hlt (by omega)
        · have hd : decide ((i : Int) < ((ln : Int) + 8 - 1) / 8) = false := decide_eq_false (by omega)
          go_wp2
          go_ret
          obtain rfl : i = (ln + 7) / 8 := by omega
          have e : l0 ++ [6, (ln : Int)] ++ (byt8 a1_1 ++ byt8 a1_2).take ((ln + 7) / 8) = r := by
            rw [← HR.out]
            rw [pre_word, if_pos rfl]
            simp [pre_word]
          have hI := HI.out
          rw [e] at hI
          exact ⟨_, rfl, Kd.R_of_own (enc := Value.int .u8) (h1 := fun _ => rfl) hI.1 hI.2.1, hI.2.2.2, hI.2.2.1⟩
  · rw [if_neg c] at h
    cases h
def msg_Put.f (k : Nat) (a0_0 : Int) (a0_1 : Int) (a0_2 : Int) (a0_3 : Int) (a0_4 : Bool) (a0_5 : Int) (a0_6 : Int) (a0_7 : Int) (a0_8 : Int) (a0_9 : Int) (a0_10 : Int) (a0_11 : Int) : Option (ByteArray × Int) := (msg_Check.f k a0_0 a0_1 a0_2 a0_3 a0_4 a0_5 a0_6 a0_7 a0_8 a0_9 a0_10 a0_11).bind fun t155 => (if t155 = 0 then ((num_Add.f k (([a0_0] : List Int)) (IntKind.u64.wrap (a0_1))).bind fun t159 => ((num_Add.f k t159 a0_2).bind fun t162 => ((num_Add.f k t162 (IntKind.u64.wrap (a0_3))).bind fun t165 => (if a0_0 = 3 then ((msg_prefix.f t165 a0_4 a0_5 a0_6 a0_7).bind fun t168 => ((msg_action.f k t168 a0_8 a0_9).bind fun t171 => (some (strOfNums t171, 0)))) else (if a0_0 = 4 then ((msg_prefix.f t165 a0_4 a0_5 a0_6 a0_7).bind fun t174 => (some (strOfNums t174, 0))) else (if a0_0 = 5 then ((num_Add.f k t165 (IntKind.u64.wrap (a0_10))).bind fun t177 => ((num_Add.f k t177 (IntKind.u64.wrap (a0_11))).bind fun t180 => (some (strOfNums t180, 0)))) else (if a0_0 = 6 then ((num_Add.f k t165 (IntKind.u64.wrap (a0_10))).bind fun t183 => (some (strOfNums t183, 0))) else (some (strOfNums t165, 0))))))))) else (some ((⟨#[]⟩ : ByteArray), t155)))
def msg_Put.T4 : Bool × List (List Nat × List Nat) := (true, [([], []), ([0], [0]), ([1], [1]), ([], []), ([3], [3]), ([4], [4]), ([2, 5], [2, 5]), ([], []), ([7], [7]), ([6, 8, 6], [6, 8]), ([], []), ([10], [10]), ([11], [11]), ([9, 12, 9], [9, 12]), ([13, 13, 0, 1, 2, 3, 4, 5, 6, 7, 8, 9, 10, 11, 12, 13], [13])])
def msg_Put.B4 : List Nat := [0, 1, 3, 0, 8, 24, 63, 0, 128, 511, 0, 1024, 3072, 8191, 16383]
theorem msg_Put.tab4 : rtab .any (opsOf Try.f5 4) = msg_Put.T4 := by kernel_rfl
theorem msg_Put.bits4 : waitsOk msg_Put.T4.2 msg_Put.B4 = true := by kernel_rfl
def msg_Put.T7 : Bool × List (List Nat × List Nat) := (true, [([], []), ([], []), ([1], [1]), ([0, 2], [0, 2]), ([], []), ([4], [4]), ([3, 5, 3], [3, 5]), ([6, 6, 0, 1, 2, 3, 4, 5, 6], [0, 6])])
def msg_Put.B7 : List Nat := [0, 0, 2, 7, 0, 16, 63, 127]
theorem msg_Put.tab7 : rtab .any (opsOf Try.f5 7) = msg_Put.T7 := by kernel_rfl
theorem msg_Put.bits7 : waitsOk msg_Put.T7.2 msg_Put.B7 = true := by kernel_rfl
def msg_Put.T11 : Bool × List (List Nat × List Nat) := (true, [([], []), ([], []), ([1], [1]), ([2], [2]), ([0, 3], [0, 3]), ([], []), ([5], [5]), ([6], [6]), ([4, 7, 4], [4, 7]), ([8, 8, 0, 1, 2, 3, 4, 5, 6, 7, 8], [0, 8])])
def msg_Put.B11 : List Nat := [0, 0, 2, 6, 15, 0, 32, 96, 255, 511]
theorem msg_Put.tab11 : rtab .any (opsOf Try.f5 11) = msg_Put.T11 := by kernel_rfl
theorem msg_Put.bits11 : waitsOk msg_Put.T11.2 msg_Put.B11 = true := by kernel_rfl
end Go.Proofs.Ytcnkiigobcigbaa.Q
end
