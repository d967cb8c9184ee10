-- Merged and trimmed by this session's program wip/tools/trim.py.
import Derived.Shelf.RegionOpen
import Derived.Deep.RegionLaw
import Derived.BigQuiet
import Derived.Deep.RegionWith
import Derived.Outline
import Derived.Laws.EntriesVeiled
import Derived.Test.YtghklhdooemjdaaTLineWhole1
section
namespace Go.Proofs.Ytghklhdooemjdaa.Q
open Go.RowKit Go.Proofs.YtghklhdooemjdaaW.PrintWords Go.Proofs.YtghklhdooemjdaaW.PrintLast Go.Proofs.YtghklhdooemjdaaW.PrintMore
attribute [local go_sem] max2_int min2_int max_two min_two max_three min_three max_four min_four   -- for this text's walks alone
set_option linter.unusedVariables false
set_option linter.unusedSimpArgs false
attribute [local go_sem high] eqA35
set_option maxHeartbeats 8000000 in
set_option maxRecDepth 100000 in
theorem line_Check.calls (k : Nat) (a0_0 : Int) (a0_1 : Int) (A1 : Option Addr) (c1 : Nat) (l1 : List (S52)) (r : Int) (w : World) (hr1 : Kd.C k52 w A1 l1.length l1) (hc1 : l1.length ≤ c1) (h : line_Check.f k a0_0 a0_1 l1 = some r) :
  Calls Try.prog 12 #[.agg #[.int .i64 a0_0, .int .i64 a0_1], .slice A1 l1.length c1] w fun e w' => e = .returned (.int .i64 r) ∧ Below w.heap.size w w' := by
 have hu23 := Try.underlying23
 have hu52 := Try.underlying52
 have hu35 := Try.underlying35
 have HR1 := Ax hr1
 have HC1 := Ax hc1
 clear hr1 hc1
 have HB := Ax (Below.refl w.heap.size w)
 have H : ((line_window.f k a0_0 a0_1).bind fun t126 => (if t126 = true then (if (l1.length : Int) = 0 then (line_Check.j0 k l1 true a0_0 a0_1) else (if (l1.length : Int) > 1024 then (line_Check.j0 k l1 true a0_0 a0_1) else (if 0 < (l1.length : Int) then (if ((rd_T52 l1 0).f0.f0) = a0_0 then (if 0 ≤ (wrap64 ((l1.length : Int) - 1)) then (if (wrap64 ((l1.length : Int) - 1)) < (l1.length : Int) then (line_Check.j0 k l1 (((rd_T52 l1 (wrap64 ((l1.length : Int) - 1))).f0.f1) != a0_1) a0_0 a0_1) else (none)) else (none)) else (line_Check.j0 k l1 true a0_0 a0_1)) else (none)))) else (line_Check.j0 k l1 true a0_0 a0_1))) = some r := h
 clear h
 have HC3 := Ax H
 clear H
 go_enter Try.func12, Try.ntmps12
 go_upto_region 2 with (first | ((with_reducible refine gate_dst (N := 2) rfl ?_); refine box_event ?hg (N := 2) ?hd (cs := #[.int .i64 a0_0, .int .i64 a0_1]) (t := 23) ?hr ?_; (case hd => rfl); (case hg => rfl); (case hr => first | (go_simp; done) | (go_simp; rfl)); intro gb125 hg w4 hbox hb; have n0_ := Bs0 HB hb; have n1_ := Ax (hbox); have n2_ := Gw0 HB hg; have n3_ := Gw0 HB hg; clear HB; have HB := n0_; have BK125 := n1_; have GW125 := n2_; have GE125 := n3_; clear n0_ n1_ n2_ n3_; clear hb hbox hg))
 (try simp only [Act.put, List.setIfInBounds_toArray, List.set_cons_zero, List.set_cons_succ])
 go_cut [42] (fun v42 wc => ∃ (kq : Nat) (x42_2 : Bool), v42 = .bool x42_2 ∧ Aside0 (line_Check.j0 kq l1 x42_2 a0_0 a0_1 = some r) ∧ Aside0 (kq ≤ k) ∧ Aside0 (wc.heap[gb125]? = some (.cells #[.int .i64 a0_0, .int .i64 a0_1] 23 (0, 0))) ∧ Aside0 (Below w.heap.size w wc))
 case first =>
  have H := HC3.out
  clear HC3
  replace H := Option.bind_eq_some_iff.mp H
  obtain ⟨t126, A50, H⟩ := H
  replace H : (if t126 = true then (if (l1.length : Int) = 0 then (line_Check.j0 k l1 true a0_0 a0_1) else (if (l1.length : Int) > 1024 then (line_Check.j0 k l1 true a0_0 a0_1) else (if 0 < (l1.length : Int) then (if ((rd_T52 l1 0).f0.f0) = a0_0 then (if 0 ≤ (wrap64 ((l1.length : Int) - 1)) then (if (wrap64 ((l1.length : Int) - 1)) < (l1.length : Int) then (line_Check.j0 k l1 (((rd_T52 l1 (wrap64 ((l1.length : Int) - 1))).f0.f1) != a0_1) a0_0 a0_1) else (none)) else (none)) else (line_Check.j0 k l1 true a0_0 a0_1)) else (none)))) else (line_Check.j0 k l1 true a0_0 a0_1)) = some r := H
  have A5 := Ax A50
  clear A50
  by_cases c6 : t126 = true
  ·subst c6
   have H1 : (if (l1.length : Int) = 0 then (line_Check.j0 k l1 true a0_0 a0_1) else (if (l1.length : Int) > 1024 then (line_Check.j0 k l1 true a0_0 a0_1) else (if 0 < (l1.length : Int) then (if ((rd_T52 l1 0).f0.f0) = a0_0 then (if 0 ≤ (wrap64 ((l1.length : Int) - 1)) then (if (wrap64 ((l1.length : Int) - 1)) < (l1.length : Int) then (line_Check.j0 k l1 (((rd_T52 l1 (wrap64 ((l1.length : Int) - 1))).f0.f1) != a0_1) a0_0 a0_1) else (none)) else (none)) else (line_Check.j0 k l1 true a0_0 a0_1)) else (none)))) = some r := by rw [if_pos rfl] at H; exact H
   clear H
   have H := H1
   clear H1
   by_cases c7 : (l1.length : Int) = 0
   ·rw [if_pos c7] at H
    have c7b0 : ((l1.length : Int) == 0) = true := beq_iff_eq.mpr c7
    have c7b1 : ((l1.length : Int) != 0) = false := bne_eq_false_iff_eq.mpr c7
    clear c7
    (first | rw [c7b0] | (simp only [i64_w, i32_w]; rw [c7b0]) | skip)
    have H' := Ax H
    clear H
    try go_wp2
    replace BK125 := Ax (blk_drew BK125.out)
    replace HB := Ax (below_drew1 HB.out)
    refine start_ (n := 33) (S := fun w' => w'.cell? ⟨gb125, 0, none⟩ = some (.int .i64 a0_0) ∧ w'.cell? ⟨gb125, 1, none⟩ = some (.int .i64 a0_1)) (ds := []) #[fa,fa,fa,fa,fa,fa,fa,fa,fa,fa,fa,fa,fa,fa,fa,fa,fa,fa,fa,fa,fa,fa,fa,fa,fa,fa,fa,fa,fa,fa,fa,fa,fa] (by kernel_rfl) rfl rfl ⟨(blk_cell BK125.out 0).trans rfl, (blk_cell BK125.out 1).trans rfl⟩ (fun hHeld => ?_); refine with_tabW line_Check.tab2 line_Check.bits2 (fun HT_ HW_ => ?_)
    generalize w4.drew = w8 at BK125 HB hHeld ⊢
    refine take_ (i := 0) (N := some 10) (v := ?_) (a' := ?_) #[tr,fa,fa,fa,fa,fa,fa,fa,fa,fa,fa,fa,fa,fa,fa,fa,fa,fa,fa,fa,fa,fa,fa,fa,fa,fa,fa,fa,fa,fa,fa,fa,fa] rfl rfl (take_ofW HT_.out HW_.out (by kernel_rfl)) (fun _ _ _ h => h) (Or.inl ⟨by rfl, ?_⟩) hHeld ?_ ?_
    rotate_left
    ·rintro w' ⟨s0, s1⟩
     go_simp
     with_reducible rfl
    rotate_left
    ·simp only [sP]
     rfl
    refine one_ (i := 1) (N := some 11) #[tr,tr,fa,fa,fa,fa,fa,fa,fa,fa,fa,fa,fa,fa,fa,fa,fa,fa,fa,fa,fa,fa,fa,fa,fa,fa,fa,fa,fa,fa,fa,fa,fa] rfl rfl (one_of HT_.out (by kernel_rfl)) (by decide) (fun K hK => ?_)
    refine goes_ Try.func26 (by kernel_rfl) rfl #[.agg #[.int .i64 a0_0, .int .i64 a0_1]] (by rfl) rfl rfl gS ?_
    with_reducible refine (line_window.calls k a0_0 a0_1 true _ A5.out).mono ?_
    rintro e w9 ⟨rfl, hb⟩
    refine ⟨_, rfl, ?_⟩
    replace BK125 := Bx0 BK125 hb
    replace HB := Bs1 HB hb GE125.out
    (try clear hb)
    refine hK.out _ _ ⟨(blk_cell BK125.out 0).trans rfl, (blk_cell BK125.out 1).trans rfl⟩ (fun hHeld => ?_)
    clear hK K
    refine norm_ (a' := ?_) ?_ ?_
    rotate_left
    ·show Act.put _ (some 11) _ = _
     simp only [sP]
     rfl
    refine pure_ (i := 2) (N := some 12) (v := ?_) (a' := ?_) #[tr,tr,tr,fa,fa,fa,fa,fa,fa,fa,fa,fa,fa,fa,fa,fa,fa,fa,fa,fa,fa,fa,fa,fa,fa,fa,fa,fa,fa,fa,fa,fa,fa] rfl rfl (any_of HT_.out (by kernel_rfl)) (fun _ _ _ h => h) (Or.inl ⟨by rfl, ?_⟩) ?_ ?_
    rotate_left
    ·intro w'
     go_simp
     with_reducible rfl
    rotate_left
    ·simp only [sP]
     rfl
    refine pure_ (i := 3) (N := some 13) (v := ?_) (a' := ?_) #[tr,tr,tr,tr,fa,fa,fa,fa,fa,fa,fa,fa,fa,fa,fa,fa,fa,fa,fa,fa,fa,fa,fa,fa,fa,fa,fa,fa,fa,fa,fa,fa,fa] rfl rfl (any_of HT_.out (by kernel_rfl)) (fun _ _ _ h => h) (Or.inl ⟨by rfl, ?_⟩) ?_ ?_
    rotate_left
    ·intro w'
     go_simp
     with_reducible rfl
    rotate_left
    ·simp only [sP]
     rfl
    refine pure_ (i := 4) (N := some 14) (v := ?_) (a' := ?_) #[tr,tr,tr,tr,tr,fa,fa,fa,fa,fa,fa,fa,fa,fa,fa,fa,fa,fa,fa,fa,fa,fa,fa,fa,fa,fa,fa,fa,fa,fa,fa,fa,fa] rfl rfl (any_of HT_.out (by kernel_rfl)) (fun _ _ _ h => h) (Or.inl ⟨by rfl, ?_⟩) ?_ ?_
    rotate_left
    ·intro w'
     go_simp
     with_reducible rfl
    rotate_left
    ·simp only [sP]
     rfl
    refine pure_ (i := 5) (N := some 15) (v := ?_) (a' := ?_) #[tr,tr,tr,tr,tr,tr,fa,fa,fa,fa,fa,fa,fa,fa,fa,fa,fa,fa,fa,fa,fa,fa,fa,fa,fa,fa,fa,fa,fa,fa,fa,fa,fa] rfl rfl (any_of HT_.out (by kernel_rfl)) (fun _ _ _ h => h) (Or.inl ⟨by rfl, ?_⟩) ?_ ?_
    rotate_left
    ·intro w'
     go_simp
     with_reducible rfl
    rotate_left
    ·simp only [sP]
     rfl
    refine pure_ (i := 6) (N := some 16) (v := ?_) (a' := ?_) #[tr,tr,tr,tr,tr,tr,tr,fa,fa,fa,fa,fa,fa,fa,fa,fa,fa,fa,fa,fa,fa,fa,fa,fa,fa,fa,fa,fa,fa,fa,fa,fa,fa] rfl rfl (any_of HT_.out (by kernel_rfl)) (fun _ _ _ h => h) (Or.inl ⟨by rfl, ?_⟩) ?_ ?_
    rotate_left
    ·intro w'
     go_simp
     with_reducible rfl
    rotate_left
    ·simp only [sP]
     rfl
    refine pure_ (i := 7) (N := some 17) (v := ?_) (a' := ?_) #[tr,tr,tr,tr,tr,tr,tr,tr,fa,fa,fa,fa,fa,fa,fa,fa,fa,fa,fa,fa,fa,fa,fa,fa,fa,fa,fa,fa,fa,fa,fa,fa,fa] rfl rfl (any_of HT_.out (by kernel_rfl)) (fun _ _ _ h => h) (Or.inl ⟨by rfl, ?_⟩) ?_ ?_
    rotate_left
    ·intro w'
     go_simp
     with_reducible rfl
    rotate_left
    ·simp only [sP]
     rfl
    refine pure_ (i := 8) (N := some 18) (v := undef) (a' := ?_) #[tr,tr,tr,tr,tr,tr,tr,tr,tr,fa,fa,fa,fa,fa,fa,fa,fa,fa,fa,fa,fa,fa,fa,fa,fa,fa,fa,fa,fa,fa,fa,fa,fa] rfl rfl (any_of HT_.out (by kernel_rfl)) (fun _ _ _ h => h) (Or.inr ⟨by rfl, rfl⟩) ?_ ?_
    rotate_left
    ·simp only [sP]
     rfl
    refine pure_ (i := 9) (N := some 19) (v := undef) (a' := ?_) #[tr,tr,tr,tr,tr,tr,tr,tr,tr,tr,fa,fa,fa,fa,fa,fa,fa,fa,fa,fa,fa,fa,fa,fa,fa,fa,fa,fa,fa,fa,fa,fa,fa] rfl rfl (any_of HT_.out (by kernel_rfl)) (fun _ _ _ h => h) (Or.inr ⟨by rfl, rfl⟩) ?_ ?_
    rotate_left
    ·simp only [sP]
     rfl
    refine pure_ (i := 10) (N := some 20) (v := ?_) (a' := ?_) #[tr,tr,tr,tr,tr,tr,tr,tr,tr,tr,tr,fa,fa,fa,fa,fa,fa,fa,fa,fa,fa,fa,fa,fa,fa,fa,fa,fa,fa,fa,fa,fa,fa] rfl rfl (any_of HT_.out (by kernel_rfl)) (fun _ _ _ h => h) (Or.inl ⟨by rfl, ?_⟩) ?_ ?_
    rotate_left
    ·intro w'
     go_simp
     with_reducible rfl
    rotate_left
    ·simp only [sP]
     rfl
    refine pure_ (i := 11) (N := some 21) (v := ?_) (a' := ?_) #[tr,tr,tr,tr,tr,tr,tr,tr,tr,tr,tr,tr,fa,fa,fa,fa,fa,fa,fa,fa,fa,fa,fa,fa,fa,fa,fa,fa,fa,fa,fa,fa,fa] rfl rfl (any_of HT_.out (by kernel_rfl)) (fun _ _ _ h => h) (Or.inl ⟨by rfl, ?_⟩) ?_ ?_
    rotate_left
    ·intro w'
     go_simp
     with_reducible rfl
    rotate_left
    ·simp only [sP]
     rfl
    refine pure_ (i := 12) (N := some 22) (v := undef) (a' := ?_) #[tr,tr,tr,tr,tr,tr,tr,tr,tr,tr,tr,tr,tr,fa,fa,fa,fa,fa,fa,fa,fa,fa,fa,fa,fa,fa,fa,fa,fa,fa,fa,fa,fa] rfl rfl (any_of HT_.out (by kernel_rfl)) (fun _ _ _ h => h) (Or.inr ⟨by rfl, rfl⟩) ?_ ?_
    rotate_left
    ·simp only [sP]
     rfl
    refine pure_ (i := 13) (N := some 23) (v := undef) (a' := ?_) #[tr,tr,tr,tr,tr,tr,tr,tr,tr,tr,tr,tr,tr,tr,fa,fa,fa,fa,fa,fa,fa,fa,fa,fa,fa,fa,fa,fa,fa,fa,fa,fa,fa] rfl rfl (any_of HT_.out (by kernel_rfl)) (fun _ _ _ h => h) (Or.inr ⟨by rfl, rfl⟩) ?_ ?_
    rotate_left
    ·simp only [sP]
     rfl
    refine pure_ (i := 14) (N := some 24) (v := undef) (a' := ?_) #[tr,tr,tr,tr,tr,tr,tr,tr,tr,tr,tr,tr,tr,tr,tr,fa,fa,fa,fa,fa,fa,fa,fa,fa,fa,fa,fa,fa,fa,fa,fa,fa,fa] rfl rfl (any_of HT_.out (by kernel_rfl)) (fun _ _ _ h => h) (Or.inr ⟨by rfl, rfl⟩) ?_ ?_
    rotate_left
    ·simp only [sP]
     rfl
    refine pure_ (i := 15) (N := some 25) (v := undef) (a' := ?_) #[tr,tr,tr,tr,tr,tr,tr,tr,tr,tr,tr,tr,tr,tr,tr,tr,fa,fa,fa,fa,fa,fa,fa,fa,fa,fa,fa,fa,fa,fa,fa,fa,fa] rfl rfl (any_of HT_.out (by kernel_rfl)) (fun _ _ _ h => h) (Or.inr ⟨by rfl, rfl⟩) ?_ ?_
    rotate_left
    ·simp only [sP]
     rfl
    refine pure_ (i := 16) (N := some 26) (v := undef) (a' := ?_) #[tr,tr,tr,tr,tr,tr,tr,tr,tr,tr,tr,tr,tr,tr,tr,tr,tr,fa,fa,fa,fa,fa,fa,fa,fa,fa,fa,fa,fa,fa,fa,fa,fa] rfl rfl (any_of HT_.out (by kernel_rfl)) (fun _ _ _ h => h) (Or.inr ⟨by rfl, rfl⟩) ?_ ?_
    rotate_left
    ·simp only [sP]
     rfl
    refine pure_ (i := 17) (N := some 27) (v := undef) (a' := ?_) #[tr,tr,tr,tr,tr,tr,tr,tr,tr,tr,tr,tr,tr,tr,tr,tr,tr,tr,fa,fa,fa,fa,fa,fa,fa,fa,fa,fa,fa,fa,fa,fa,fa] rfl rfl (any_of HT_.out (by kernel_rfl)) (fun _ _ _ h => h) (Or.inr ⟨by rfl, rfl⟩) ?_ ?_
    rotate_left
    ·simp only [sP]
     rfl
    refine pure_ (i := 18) (N := some 28) (v := undef) (a' := ?_) #[tr,tr,tr,tr,tr,tr,tr,tr,tr,tr,tr,tr,tr,tr,tr,tr,tr,tr,tr,fa,fa,fa,fa,fa,fa,fa,fa,fa,fa,fa,fa,fa,fa] rfl rfl (any_of HT_.out (by kernel_rfl)) (fun _ _ _ h => h) (Or.inr ⟨by rfl, rfl⟩) ?_ ?_
    rotate_left
    ·simp only [sP]
     rfl
    refine pure_ (i := 19) (N := some 29) (v := undef) (a' := ?_) #[tr,tr,tr,tr,tr,tr,tr,tr,tr,tr,tr,tr,tr,tr,tr,tr,tr,tr,tr,tr,fa,fa,fa,fa,fa,fa,fa,fa,fa,fa,fa,fa,fa] rfl rfl (any_of HT_.out (by kernel_rfl)) (fun _ _ _ h => h) (Or.inr ⟨by rfl, rfl⟩) ?_ ?_
    rotate_left
    ·simp only [sP]
     rfl
    refine pure_ (i := 20) (N := some 30) (v := ?_) (a' := ?_) #[tr,tr,tr,tr,tr,tr,tr,tr,tr,tr,tr,tr,tr,tr,tr,tr,tr,tr,tr,tr,tr,fa,fa,fa,fa,fa,fa,fa,fa,fa,fa,fa,fa] rfl rfl (any_of HT_.out (by kernel_rfl)) (fun _ _ _ h => h) (Or.inl ⟨by rfl, ?_⟩) ?_ ?_
    rotate_left
    ·intro w'
     go_simp
     with_reducible rfl
    rotate_left
    ·simp only [sP]
     rfl
    refine pure_ (i := 21) (N := some 31) (v := ?_) (a' := ?_) #[tr,tr,tr,tr,tr,tr,tr,tr,tr,tr,tr,tr,tr,tr,tr,tr,tr,tr,tr,tr,tr,tr,fa,fa,fa,fa,fa,fa,fa,fa,fa,fa,fa] rfl rfl (any_of HT_.out (by kernel_rfl)) (fun _ _ _ h => h) (Or.inl ⟨by rfl, ?_⟩) ?_ ?_
    rotate_left
    ·intro w'
     go_simp
     with_reducible rfl
    rotate_left
    ·simp only [sP]
     rfl
    refine pure_ (i := 22) (N := some 32) (v := undef) (a' := ?_) #[tr,tr,tr,tr,tr,tr,tr,tr,tr,tr,tr,tr,tr,tr,tr,tr,tr,tr,tr,tr,tr,tr,tr,fa,fa,fa,fa,fa,fa,fa,fa,fa,fa] rfl rfl (any_of HT_.out (by kernel_rfl)) (fun _ _ _ h => h) (Or.inr ⟨by rfl, rfl⟩) ?_ ?_
    rotate_left
    ·simp only [sP]
     rfl
    refine pure_ (i := 23) (N := some 33) (v := undef) (a' := ?_) #[tr,tr,tr,tr,tr,tr,tr,tr,tr,tr,tr,tr,tr,tr,tr,tr,tr,tr,tr,tr,tr,tr,tr,tr,fa,fa,fa,fa,fa,fa,fa,fa,fa] rfl rfl (any_of HT_.out (by kernel_rfl)) (fun _ _ _ h => h) (Or.inr ⟨by rfl, rfl⟩) ?_ ?_
    rotate_left
    ·simp only [sP]
     rfl
    refine pure_ (i := 24) (N := some 34) (v := undef) (a' := ?_) #[tr,tr,tr,tr,tr,tr,tr,tr,tr,tr,tr,tr,tr,tr,tr,tr,tr,tr,tr,tr,tr,tr,tr,tr,tr,fa,fa,fa,fa,fa,fa,fa,fa] rfl rfl (any_of HT_.out (by kernel_rfl)) (fun _ _ _ h => h) (Or.inr ⟨by rfl, rfl⟩) ?_ ?_
    rotate_left
    ·simp only [sP]
     rfl
    refine pure_ (i := 25) (N := some 35) (v := undef) (a' := ?_) #[tr,tr,tr,tr,tr,tr,tr,tr,tr,tr,tr,tr,tr,tr,tr,tr,tr,tr,tr,tr,tr,tr,tr,tr,tr,tr,fa,fa,fa,fa,fa,fa,fa] rfl rfl (any_of HT_.out (by kernel_rfl)) (fun _ _ _ h => h) (Or.inr ⟨by rfl, rfl⟩) ?_ ?_
    rotate_left
    ·simp only [sP]
     rfl
    refine pure_ (i := 26) (N := some 36) (v := undef) (a' := ?_) #[tr,tr,tr,tr,tr,tr,tr,tr,tr,tr,tr,tr,tr,tr,tr,tr,tr,tr,tr,tr,tr,tr,tr,tr,tr,tr,tr,fa,fa,fa,fa,fa,fa] rfl rfl (any_of HT_.out (by kernel_rfl)) (fun _ _ _ h => h) (Or.inr ⟨by rfl, rfl⟩) ?_ ?_
    rotate_left
    ·simp only [sP]
     rfl
    refine pure_ (i := 27) (N := some 37) (v := undef) (a' := ?_) #[tr,tr,tr,tr,tr,tr,tr,tr,tr,tr,tr,tr,tr,tr,tr,tr,tr,tr,tr,tr,tr,tr,tr,tr,tr,tr,tr,tr,fa,fa,fa,fa,fa] rfl rfl (any_of HT_.out (by kernel_rfl)) (fun _ _ _ h => h) (Or.inr ⟨by rfl, rfl⟩) ?_ ?_
    rotate_left
    ·simp only [sP]
     rfl
    refine pure_ (i := 28) (N := some 38) (v := undef) (a' := ?_) #[tr,tr,tr,tr,tr,tr,tr,tr,tr,tr,tr,tr,tr,tr,tr,tr,tr,tr,tr,tr,tr,tr,tr,tr,tr,tr,tr,tr,tr,fa,fa,fa,fa] rfl rfl (any_of HT_.out (by kernel_rfl)) (fun _ _ _ h => h) (Or.inr ⟨by rfl, rfl⟩) ?_ ?_
    rotate_left
    ·simp only [sP]
     rfl
    refine pure_ (i := 29) (N := some 39) (v := undef) (a' := ?_) #[tr,tr,tr,tr,tr,tr,tr,tr,tr,tr,tr,tr,tr,tr,tr,tr,tr,tr,tr,tr,tr,tr,tr,tr,tr,tr,tr,tr,tr,tr,fa,fa,fa] rfl rfl (any_of HT_.out (by kernel_rfl)) (fun _ _ _ h => h) (Or.inr ⟨by rfl, rfl⟩) ?_ ?_
    rotate_left
    ·simp only [sP]
     rfl
    refine pure_ (i := 30) (N := some 40) (v := undef) (a' := ?_) #[tr,tr,tr,tr,tr,tr,tr,tr,tr,tr,tr,tr,tr,tr,tr,tr,tr,tr,tr,tr,tr,tr,tr,tr,tr,tr,tr,tr,tr,tr,tr,fa,fa] rfl rfl (any_of HT_.out (by kernel_rfl)) (fun _ _ _ h => h) (Or.inr ⟨by rfl, rfl⟩) ?_ ?_
    rotate_left
    ·simp only [sP]
     rfl
    refine pure_ (i := 31) (N := some 41) (v := undef) (a' := ?_) #[tr,tr,tr,tr,tr,tr,tr,tr,tr,tr,tr,tr,tr,tr,tr,tr,tr,tr,tr,tr,tr,tr,tr,tr,tr,tr,tr,tr,tr,tr,tr,tr,fa] rfl rfl (any_of HT_.out (by kernel_rfl)) (fun _ _ _ h => h) (Or.inr ⟨by rfl, rfl⟩) ?_ ?_
    rotate_left
    ·simp only [sP]
     rfl
    refine pure_ (i := 32) (N := some 42) (v := ?_) (a' := ?_) #[tr,tr,tr,tr,tr,tr,tr,tr,tr,tr,tr,tr,tr,tr,tr,tr,tr,tr,tr,tr,tr,tr,tr,tr,tr,tr,tr,tr,tr,tr,tr,tr,tr] rfl rfl (any_of HT_.out (by kernel_rfl)) (fun _ _ _ h => h) (Or.inl ⟨by rfl, ?_⟩) ?_ ?_
    rotate_left
    ·intro w'
     go_simp
     with_reducible rfl
    rotate_left
    ·simp only [sP]
     rfl
    refine done_ (done_of HT_.out (by kernel_rfl)) ?_
    try go_wp2
    go_meet
    case rel => exact ⟨_, (true), rS, H', ⟨by first | omega | exact Nat.le_refl _⟩, ⟨bf0 BK125.out⟩, ⟨bw1 HB.out GE125.out⟩⟩
   ·rw [if_neg c7] at H
    have c7b0 : ((l1.length : Int) == 0) = false := beq_eq_false_iff_ne.mpr c7
    have c7b1 : ((l1.length : Int) != 0) = true := bne_iff_ne.mpr c7
    have c7b2 : ¬ (l1 = []) := fun h_ => c7 (by rw [h_]; rfl)
    (first | rw [c7b0] | (simp only [i64_w, i32_w]; rw [c7b0]) | skip)
    by_cases c10 : (l1.length : Int) > 1024
    ·rw [if_pos c10] at H
     have c10b0 : decide (1024 < (l1.length : Int)) = true := decide_eq_true c10
     have c10b1 : decide (1024 < l1.length) = true := decide_eq_true (by omega)
     clear c10
     have H' := Ax H
     clear H
     try go_wp2
     replace BK125 := Ax (blk_drew BK125.out)
     replace HB := Ax (below_drew1 HB.out)
     refine start_ (n := 33) (S := fun w' => w'.cell? ⟨gb125, 0, none⟩ = some (.int .i64 a0_0) ∧ w'.cell? ⟨gb125, 1, none⟩ = some (.int .i64 a0_1)) (ds := []) #[fa,fa,fa,fa,fa,fa,fa,fa,fa,fa,fa,fa,fa,fa,fa,fa,fa,fa,fa,fa,fa,fa,fa,fa,fa,fa,fa,fa,fa,fa,fa,fa,fa] (by kernel_rfl) rfl rfl ⟨(blk_cell BK125.out 0).trans rfl, (blk_cell BK125.out 1).trans rfl⟩ (fun hHeld => ?_); refine with_tabW line_Check.tab2 line_Check.bits2 (fun HT_ HW_ => ?_)
     generalize w4.drew = w11 at BK125 HB hHeld ⊢
     refine take_ (i := 0) (N := some 10) (v := ?_) (a' := ?_) #[tr,fa,fa,fa,fa,fa,fa,fa,fa,fa,fa,fa,fa,fa,fa,fa,fa,fa,fa,fa,fa,fa,fa,fa,fa,fa,fa,fa,fa,fa,fa,fa,fa] rfl rfl (take_ofW HT_.out HW_.out (by kernel_rfl)) (fun _ _ _ h => h) (Or.inl ⟨by rfl, ?_⟩) hHeld ?_ ?_
     rotate_left
     ·rintro w' ⟨s0, s1⟩
      go_simp
      with_reducible rfl
     rotate_left
     ·simp only [sP]
      rfl
     refine one_ (i := 1) (N := some 11) #[tr,tr,fa,fa,fa,fa,fa,fa,fa,fa,fa,fa,fa,fa,fa,fa,fa,fa,fa,fa,fa,fa,fa,fa,fa,fa,fa,fa,fa,fa,fa,fa,fa] rfl rfl (one_of HT_.out (by kernel_rfl)) (by decide) (fun K hK => ?_)
     refine goes_ Try.func26 (by kernel_rfl) rfl #[.agg #[.int .i64 a0_0, .int .i64 a0_1]] (by rfl) rfl rfl gS ?_
     with_reducible refine (line_window.calls k a0_0 a0_1 true _ A5.out).mono ?_
     rintro e w12 ⟨rfl, hb⟩
     refine ⟨_, rfl, ?_⟩
     replace BK125 := Bx0 BK125 hb
     replace HB := Bs1 HB hb GE125.out
     (try clear hb)
     refine hK.out _ _ ⟨(blk_cell BK125.out 0).trans rfl, (blk_cell BK125.out 1).trans rfl⟩ (fun hHeld => ?_)
     clear hK K
     refine norm_ (a' := ?_) ?_ ?_
     rotate_left
     ·show Act.put _ (some 11) _ = _
      simp only [sP]
      rfl
     refine pure_ (i := 2) (N := some 12) (v := ?_) (a' := ?_) #[tr,tr,tr,fa,fa,fa,fa,fa,fa,fa,fa,fa,fa,fa,fa,fa,fa,fa,fa,fa,fa,fa,fa,fa,fa,fa,fa,fa,fa,fa,fa,fa,fa] rfl rfl (any_of HT_.out (by kernel_rfl)) (fun _ _ _ h => h) (Or.inl ⟨by rfl, ?_⟩) ?_ ?_
     rotate_left
     ·intro w'
      go_simp
      with_reducible rfl
     rotate_left
     ·simp only [sP]
      rfl
     refine pure_ (i := 3) (N := some 13) (v := ?_) (a' := ?_) #[tr,tr,tr,tr,fa,fa,fa,fa,fa,fa,fa,fa,fa,fa,fa,fa,fa,fa,fa,fa,fa,fa,fa,fa,fa,fa,fa,fa,fa,fa,fa,fa,fa] rfl rfl (any_of HT_.out (by kernel_rfl)) (fun _ _ _ h => h) (Or.inl ⟨by rfl, ?_⟩) ?_ ?_
     rotate_left
     ·intro w'
      go_simp
      with_reducible rfl
     rotate_left
     ·simp only [sP]
      rfl
     refine pure_ (i := 4) (N := some 14) (v := ?_) (a' := ?_) #[tr,tr,tr,tr,tr,fa,fa,fa,fa,fa,fa,fa,fa,fa,fa,fa,fa,fa,fa,fa,fa,fa,fa,fa,fa,fa,fa,fa,fa,fa,fa,fa,fa] rfl rfl (any_of HT_.out (by kernel_rfl)) (fun _ _ _ h => h) (Or.inl ⟨by rfl, ?_⟩) ?_ ?_
     rotate_left
     ·intro w'
      go_simp
      with_reducible rfl
     rotate_left
     ·simp only [sP]
      rfl
     refine pure_ (i := 5) (N := some 15) (v := ?_) (a' := ?_) #[tr,tr,tr,tr,tr,tr,fa,fa,fa,fa,fa,fa,fa,fa,fa,fa,fa,fa,fa,fa,fa,fa,fa,fa,fa,fa,fa,fa,fa,fa,fa,fa,fa] rfl rfl (any_of HT_.out (by kernel_rfl)) (fun _ _ _ h => h) (Or.inl ⟨by rfl, ?_⟩) ?_ ?_
     rotate_left
     ·intro w'
      go_simp
      with_reducible rfl
     rotate_left
     ·simp only [sP]
      rfl
     refine pure_ (i := 6) (N := some 16) (v := ?_) (a' := ?_) #[tr,tr,tr,tr,tr,tr,tr,fa,fa,fa,fa,fa,fa,fa,fa,fa,fa,fa,fa,fa,fa,fa,fa,fa,fa,fa,fa,fa,fa,fa,fa,fa,fa] rfl rfl (any_of HT_.out (by kernel_rfl)) (fun _ _ _ h => h) (Or.inl ⟨by rfl, ?_⟩) ?_ ?_
     rotate_left
     ·intro w'
      go_simp
      with_reducible rfl
     rotate_left
     ·simp only [sP]
      rfl
     refine pure_ (i := 7) (N := some 17) (v := ?_) (a' := ?_) #[tr,tr,tr,tr,tr,tr,tr,tr,fa,fa,fa,fa,fa,fa,fa,fa,fa,fa,fa,fa,fa,fa,fa,fa,fa,fa,fa,fa,fa,fa,fa,fa,fa] rfl rfl (any_of HT_.out (by kernel_rfl)) (fun _ _ _ h => h) (Or.inl ⟨by rfl, ?_⟩) ?_ ?_
     rotate_left
     ·intro w'
      go_simp
      with_reducible rfl
     rotate_left
     ·simp only [sP]
      rfl
     refine pure_ (i := 8) (N := some 18) (v := ?_) (a' := ?_) #[tr,tr,tr,tr,tr,tr,tr,tr,tr,fa,fa,fa,fa,fa,fa,fa,fa,fa,fa,fa,fa,fa,fa,fa,fa,fa,fa,fa,fa,fa,fa,fa,fa] rfl rfl (any_of HT_.out (by kernel_rfl)) (fun _ _ _ h => h) (Or.inl ⟨by rfl, ?_⟩) ?_ ?_
     rotate_left
     ·intro w'
      go_simp
      with_reducible rfl
     rotate_left
     ·simp only [sP]
      rfl
     refine pure_ (i := 9) (N := some 19) (v := ?_) (a' := ?_) #[tr,tr,tr,tr,tr,tr,tr,tr,tr,tr,fa,fa,fa,fa,fa,fa,fa,fa,fa,fa,fa,fa,fa,fa,fa,fa,fa,fa,fa,fa,fa,fa,fa] rfl rfl (any_of HT_.out (by kernel_rfl)) (fun _ _ _ h => h) (Or.inl ⟨by rfl, ?_⟩) ?_ ?_
     rotate_left
     ·intro w'
      go_simp
      with_reducible rfl
     rotate_left
     ·simp only [sP]
      rfl
     refine pure_ (i := 10) (N := some 20) (v := ?_) (a' := ?_) #[tr,tr,tr,tr,tr,tr,tr,tr,tr,tr,tr,fa,fa,fa,fa,fa,fa,fa,fa,fa,fa,fa,fa,fa,fa,fa,fa,fa,fa,fa,fa,fa,fa] rfl rfl (any_of HT_.out (by kernel_rfl)) (fun _ _ _ h => h) (Or.inl ⟨by rfl, ?_⟩) ?_ ?_
     rotate_left
     ·intro w'
      go_simp
      with_reducible rfl
     rotate_left
     ·simp only [sP]
      rfl
     refine pure_ (i := 11) (N := some 21) (v := ?_) (a' := ?_) #[tr,tr,tr,tr,tr,tr,tr,tr,tr,tr,tr,tr,fa,fa,fa,fa,fa,fa,fa,fa,fa,fa,fa,fa,fa,fa,fa,fa,fa,fa,fa,fa,fa] rfl rfl (any_of HT_.out (by kernel_rfl)) (fun _ _ _ h => h) (Or.inl ⟨by rfl, ?_⟩) ?_ ?_
     rotate_left
     ·intro w'
      go_simp
      with_reducible rfl
     rotate_left
     ·simp only [sP]
      rfl
     refine pure_ (i := 12) (N := some 22) (v := undef) (a' := ?_) #[tr,tr,tr,tr,tr,tr,tr,tr,tr,tr,tr,tr,tr,fa,fa,fa,fa,fa,fa,fa,fa,fa,fa,fa,fa,fa,fa,fa,fa,fa,fa,fa,fa] rfl rfl (any_of HT_.out (by kernel_rfl)) (fun _ _ _ h => h) (Or.inr ⟨by rfl, rfl⟩) ?_ ?_
     rotate_left
     ·simp only [sP]
      rfl
     refine pure_ (i := 13) (N := some 23) (v := undef) (a' := ?_) #[tr,tr,tr,tr,tr,tr,tr,tr,tr,tr,tr,tr,tr,tr,fa,fa,fa,fa,fa,fa,fa,fa,fa,fa,fa,fa,fa,fa,fa,fa,fa,fa,fa] rfl rfl (any_of HT_.out (by kernel_rfl)) (fun _ _ _ h => h) (Or.inr ⟨by rfl, rfl⟩) ?_ ?_
     rotate_left
     ·simp only [sP]
      rfl
     refine pure_ (i := 14) (N := some 24) (v := undef) (a' := ?_) #[tr,tr,tr,tr,tr,tr,tr,tr,tr,tr,tr,tr,tr,tr,tr,fa,fa,fa,fa,fa,fa,fa,fa,fa,fa,fa,fa,fa,fa,fa,fa,fa,fa] rfl rfl (any_of HT_.out (by kernel_rfl)) (fun _ _ _ h => h) (Or.inr ⟨by rfl, rfl⟩) ?_ ?_
     rotate_left
     ·simp only [sP]
      rfl
     refine pure_ (i := 15) (N := some 25) (v := undef) (a' := ?_) #[tr,tr,tr,tr,tr,tr,tr,tr,tr,tr,tr,tr,tr,tr,tr,tr,fa,fa,fa,fa,fa,fa,fa,fa,fa,fa,fa,fa,fa,fa,fa,fa,fa] rfl rfl (any_of HT_.out (by kernel_rfl)) (fun _ _ _ h => h) (Or.inr ⟨by rfl, rfl⟩) ?_ ?_
     rotate_left
     ·simp only [sP]
      rfl
     refine pure_ (i := 16) (N := some 26) (v := undef) (a' := ?_) #[tr,tr,tr,tr,tr,tr,tr,tr,tr,tr,tr,tr,tr,tr,tr,tr,tr,fa,fa,fa,fa,fa,fa,fa,fa,fa,fa,fa,fa,fa,fa,fa,fa] rfl rfl (any_of HT_.out (by kernel_rfl)) (fun _ _ _ h => h) (Or.inr ⟨by rfl, rfl⟩) ?_ ?_
     rotate_left
     ·simp only [sP]
      rfl
     refine pure_ (i := 17) (N := some 27) (v := undef) (a' := ?_) #[tr,tr,tr,tr,tr,tr,tr,tr,tr,tr,tr,tr,tr,tr,tr,tr,tr,tr,fa,fa,fa,fa,fa,fa,fa,fa,fa,fa,fa,fa,fa,fa,fa] rfl rfl (any_of HT_.out (by kernel_rfl)) (fun _ _ _ h => h) (Or.inr ⟨by rfl, rfl⟩) ?_ ?_
     rotate_left
     ·simp only [sP]
      rfl
     refine pure_ (i := 18) (N := some 28) (v := undef) (a' := ?_) #[tr,tr,tr,tr,tr,tr,tr,tr,tr,tr,tr,tr,tr,tr,tr,tr,tr,tr,tr,fa,fa,fa,fa,fa,fa,fa,fa,fa,fa,fa,fa,fa,fa] rfl rfl (any_of HT_.out (by kernel_rfl)) (fun _ _ _ h => h) (Or.inr ⟨by rfl, rfl⟩) ?_ ?_
     rotate_left
     ·simp only [sP]
      rfl
     refine pure_ (i := 19) (N := some 29) (v := undef) (a' := ?_) #[tr,tr,tr,tr,tr,tr,tr,tr,tr,tr,tr,tr,tr,tr,tr,tr,tr,tr,tr,tr,fa,fa,fa,fa,fa,fa,fa,fa,fa,fa,fa,fa,fa] rfl rfl (any_of HT_.out (by kernel_rfl)) (fun _ _ _ h => h) (Or.inr ⟨by rfl, rfl⟩) ?_ ?_
     rotate_left
     ·simp only [sP]
      rfl
     refine pure_ (i := 20) (N := some 30) (v := ?_) (a' := ?_) #[tr,tr,tr,tr,tr,tr,tr,tr,tr,tr,tr,tr,tr,tr,tr,tr,tr,tr,tr,tr,tr,fa,fa,fa,fa,fa,fa,fa,fa,fa,fa,fa,fa] rfl rfl (any_of HT_.out (by kernel_rfl)) (fun _ _ _ h => h) (Or.inl ⟨by rfl, ?_⟩) ?_ ?_
     rotate_left
     ·intro w'
      go_simp
      with_reducible rfl
     rotate_left
     ·simp only [sP]
      rfl
     refine pure_ (i := 21) (N := some 31) (v := ?_) (a' := ?_) #[tr,tr,tr,tr,tr,tr,tr,tr,tr,tr,tr,tr,tr,tr,tr,tr,tr,tr,tr,tr,tr,tr,fa,fa,fa,fa,fa,fa,fa,fa,fa,fa,fa] rfl rfl (any_of HT_.out (by kernel_rfl)) (fun _ _ _ h => h) (Or.inl ⟨by rfl, ?_⟩) ?_ ?_
     rotate_left
     ·intro w'
      go_simp
      with_reducible rfl
     rotate_left
     ·simp only [sP]
      rfl
     refine pure_ (i := 22) (N := some 32) (v := undef) (a' := ?_) #[tr,tr,tr,tr,tr,tr,tr,tr,tr,tr,tr,tr,tr,tr,tr,tr,tr,tr,tr,tr,tr,tr,tr,fa,fa,fa,fa,fa,fa,fa,fa,fa,fa] rfl rfl (any_of HT_.out (by kernel_rfl)) (fun _ _ _ h => h) (Or.inr ⟨by rfl, rfl⟩) ?_ ?_
     rotate_left
     ·simp only [sP]
      rfl
     refine pure_ (i := 23) (N := some 33) (v := undef) (a' := ?_) #[tr,tr,tr,tr,tr,tr,tr,tr,tr,tr,tr,tr,tr,tr,tr,tr,tr,tr,tr,tr,tr,tr,tr,tr,fa,fa,fa,fa,fa,fa,fa,fa,fa] rfl rfl (any_of HT_.out (by kernel_rfl)) (fun _ _ _ h => h) (Or.inr ⟨by rfl, rfl⟩) ?_ ?_
     rotate_left
     ·simp only [sP]
      rfl
     refine pure_ (i := 24) (N := some 34) (v := undef) (a' := ?_) #[tr,tr,tr,tr,tr,tr,tr,tr,tr,tr,tr,tr,tr,tr,tr,tr,tr,tr,tr,tr,tr,tr,tr,tr,tr,fa,fa,fa,fa,fa,fa,fa,fa] rfl rfl (any_of HT_.out (by kernel_rfl)) (fun _ _ _ h => h) (Or.inr ⟨by rfl, rfl⟩) ?_ ?_
     rotate_left
     ·simp only [sP]
      rfl
     refine pure_ (i := 25) (N := some 35) (v := undef) (a' := ?_) #[tr,tr,tr,tr,tr,tr,tr,tr,tr,tr,tr,tr,tr,tr,tr,tr,tr,tr,tr,tr,tr,tr,tr,tr,tr,tr,fa,fa,fa,fa,fa,fa,fa] rfl rfl (any_of HT_.out (by kernel_rfl)) (fun _ _ _ h => h) (Or.inr ⟨by rfl, rfl⟩) ?_ ?_
     rotate_left
     ·simp only [sP]
      rfl
     refine pure_ (i := 26) (N := some 36) (v := undef) (a' := ?_) #[tr,tr,tr,tr,tr,tr,tr,tr,tr,tr,tr,tr,tr,tr,tr,tr,tr,tr,tr,tr,tr,tr,tr,tr,tr,tr,tr,fa,fa,fa,fa,fa,fa] rfl rfl (any_of HT_.out (by kernel_rfl)) (fun _ _ _ h => h) (Or.inr ⟨by rfl, rfl⟩) ?_ ?_
     rotate_left
     ·simp only [sP]
      rfl
     refine pure_ (i := 27) (N := some 37) (v := undef) (a' := ?_) #[tr,tr,tr,tr,tr,tr,tr,tr,tr,tr,tr,tr,tr,tr,tr,tr,tr,tr,tr,tr,tr,tr,tr,tr,tr,tr,tr,tr,fa,fa,fa,fa,fa] rfl rfl (any_of HT_.out (by kernel_rfl)) (fun _ _ _ h => h) (Or.inr ⟨by rfl, rfl⟩) ?_ ?_
     rotate_left
     ·simp only [sP]
      rfl
     refine pure_ (i := 28) (N := some 38) (v := undef) (a' := ?_) #[tr,tr,tr,tr,tr,tr,tr,tr,tr,tr,tr,tr,tr,tr,tr,tr,tr,tr,tr,tr,tr,tr,tr,tr,tr,tr,tr,tr,tr,fa,fa,fa,fa] rfl rfl (any_of HT_.out (by kernel_rfl)) (fun _ _ _ h => h) (Or.inr ⟨by rfl, rfl⟩) ?_ ?_
     rotate_left
     ·simp only [sP]
      rfl
     refine pure_ (i := 29) (N := some 39) (v := undef) (a' := ?_) #[tr,tr,tr,tr,tr,tr,tr,tr,tr,tr,tr,tr,tr,tr,tr,tr,tr,tr,tr,tr,tr,tr,tr,tr,tr,tr,tr,tr,tr,tr,fa,fa,fa] rfl rfl (any_of HT_.out (by kernel_rfl)) (fun _ _ _ h => h) (Or.inr ⟨by rfl, rfl⟩) ?_ ?_
     rotate_left
     ·simp only [sP]
      rfl
     refine pure_ (i := 30) (N := some 40) (v := undef) (a' := ?_) #[tr,tr,tr,tr,tr,tr,tr,tr,tr,tr,tr,tr,tr,tr,tr,tr,tr,tr,tr,tr,tr,tr,tr,tr,tr,tr,tr,tr,tr,tr,tr,fa,fa] rfl rfl (any_of HT_.out (by kernel_rfl)) (fun _ _ _ h => h) (Or.inr ⟨by rfl, rfl⟩) ?_ ?_
     rotate_left
     ·simp only [sP]
      rfl
     refine pure_ (i := 31) (N := some 41) (v := undef) (a' := ?_) #[tr,tr,tr,tr,tr,tr,tr,tr,tr,tr,tr,tr,tr,tr,tr,tr,tr,tr,tr,tr,tr,tr,tr,tr,tr,tr,tr,tr,tr,tr,tr,tr,fa] rfl rfl (any_of HT_.out (by kernel_rfl)) (fun _ _ _ h => h) (Or.inr ⟨by rfl, rfl⟩) ?_ ?_
     rotate_left
     ·simp only [sP]
      rfl
     refine pure_ (i := 32) (N := some 42) (v := ?_) (a' := ?_) #[tr,tr,tr,tr,tr,tr,tr,tr,tr,tr,tr,tr,tr,tr,tr,tr,tr,tr,tr,tr,tr,tr,tr,tr,tr,tr,tr,tr,tr,tr,tr,tr,tr] rfl rfl (any_of HT_.out (by kernel_rfl)) (fun _ _ _ h => h) (Or.inl ⟨by rfl, ?_⟩) ?_ ?_
     rotate_left
     ·intro w'
      go_simp
      with_reducible rfl
     rotate_left
     ·simp only [sP]
      rfl
     refine done_ (done_of HT_.out (by kernel_rfl)) ?_
     try go_wp2
     go_meet
     case rel => exact ⟨_, (true), rS, H', ⟨by first | omega | exact Nat.le_refl _⟩, ⟨bf0 BK125.out⟩, ⟨bw1 HB.out GE125.out⟩⟩
    ·rw [if_neg c10] at H
     have c10b0 : decide (1024 < (l1.length : Int)) = false := decide_eq_false c10
     have c10b1 : decide (1024 < l1.length) = false := decide_eq_false (by omega)
     clear c10
     by_cases c13 : 0 < (l1.length : Int)
     ·rw [if_pos c13] at H
      have c13b0 : decide (0 < (l1.length : Int)) = true := decide_eq_true c13
      have c13b1 : decide (0 < l1.length) = true := decide_eq_true (by omega)
      clear c13
      by_cases c14 : ((rd_T52 l1 0).f0.f0) = a0_0
      ·rw [if_pos c14] at H
       have c14b0 : (((rd_T52 l1 0).f0.f0) == a0_0) = true := beq_iff_eq.mpr c14
       have c14b1 : (((rd_T52 l1 0).f0.f0) != a0_0) = false := bne_eq_false_iff_eq.mpr c14
       clear c14
       obtain ⟨ji15, hji15⟩ : ∃ j_ : Int, (wrap64 ((l1.length : Int) - 1)) = j_ := ⟨_, rfl⟩
       replace H : (if 0 ≤ (ji15) then (if (ji15) < (l1.length : Int) then (line_Check.j0 k l1 (((rd_T52 l1 (ji15)).f0.f1) != a0_1) a0_0 a0_1) else (none)) else (none)) = some r := by first | (rw [hji15] at H; exact H) | (simp only [hji15] at H ⊢; exact H)
       (try rw [hji15] at A5)
       have hji15w : (IntKind.i64.wrap ((l1.length : Int) - 1)) = ji15 := (i64_w _).trans hji15
       by_cases c16 : 0 ≤ (ji15)
       ·rw [if_pos c16] at H
        have c16b0 : decide (0 ≤ (ji15)) = true := decide_eq_true c16
        clear c16
        by_cases c17 : (ji15) < (l1.length : Int)
        ·rw [if_pos c17] at H
         have c17b0 : decide ((ji15) < (l1.length : Int)) = true := decide_eq_true c17
         clear c17
         have H' := Ax H
         clear H
         try go_wp2
         replace BK125 := Ax (blk_drew BK125.out)
         replace HB := Ax (below_drew1 HB.out)
         have p127 : 0 ≤ (0 : Int) := (by omega)
         have q127 : 0 < (l1.length : Int) := of_decide_eq_true (by first | (with_reducible assumption) | assumption)
         obtain ⟨ad127, e127, hx127_0, hx127_1, hx127_2, hx127_3⟩ := at_T52 HR1.out 0 p127 q127
         have hw127_3 := hx127_3
         (try rw [show ((0 : Int)).toNat = 0 from rfl] at hw127_3)
         (try rw [show 0 * 4 = 0 from rfl] at hw127_3)
         (try rw [Addr.add_zero'] at hw127_3)
         have hw127_2 := hx127_2
         (try rw [show ((0 : Int)).toNat = 0 from rfl] at hw127_2)
         (try rw [show 0 * 4 = 0 from rfl] at hw127_2)
         (try rw [Addr.add_zero'] at hw127_2)
         have hw127_1 := hx127_1
         (try rw [show ((0 : Int)).toNat = 0 from rfl] at hw127_1)
         (try rw [show 0 * 4 = 0 from rfl] at hw127_1)
         (try rw [Addr.add_zero'] at hw127_1)
         have hw127_0 := hx127_0
         (try rw [show ((0 : Int)).toNat = 0 from rfl] at hw127_0)
         (try rw [show 0 * 4 = 0 from rfl] at hw127_0)
         (try rw [Addr.add_zero'] at hw127_0)
         cases e127
         have qi127 : (0 < l1.length) = True := eq_true (by omega)
         (try rw [show ((0 : Int)).toNat = 0 from rfl] at hx127_0)
         (try rw [show 0 * 4 = 0 from rfl] at hx127_0)
         (try rw [Addr.add_zero'] at hx127_0)
         (try rw [show ((0 : Int)).toNat = 0 from rfl] at hx127_1)
         (try rw [show 0 * 4 = 0 from rfl] at hx127_1)
         (try rw [Addr.add_zero'] at hx127_1)
         (try rw [show ((0 : Int)).toNat = 0 from rfl] at hx127_2)
         (try rw [show 0 * 4 = 0 from rfl] at hx127_2)
         (try rw [Addr.add_zero'] at hx127_2)
         (try rw [show ((0 : Int)).toNat = 0 from rfl] at hx127_3)
         (try rw [show 0 * 4 = 0 from rfl] at hx127_3)
         (try rw [Addr.add_zero'] at hx127_3)
         replace hx127_0 := (HB.out.cell (World.block_lt_of_cell? w _ hx127_0)).trans hx127_0
         replace hx127_1 := (HB.out.cell (World.block_lt_of_cell? w _ hx127_1)).trans hx127_1
         replace hx127_2 := (HB.out.cell (World.block_lt_of_cell? w _ hx127_2)).trans hx127_2
         replace hx127_3 := (HB.out.cell (World.block_lt_of_cell? w _ hx127_3)).trans hx127_3
         replace p127 := eq_true p127
         replace q127 := eq_true q127
         have p128 : 0 ≤ ((ji15) : Int) := of_decide_eq_true (by first | (with_reducible assumption) | assumption)
         have q128 : (ji15) < (l1.length : Int) := of_decide_eq_true (by first | (with_reducible assumption) | assumption)
         obtain ⟨ad128, e128, hx128_0, hx128_1, hx128_2, hx128_3⟩ := at_T52 HR1.out (ji15) p128 q128
         have hw128_3 := hx128_3
         have hw128_2 := hx128_2
         have hw128_1 := hx128_1
         have hw128_0 := hx128_0
         obtain rfl : ad127 = ad128 := (by injection e128)
         replace hx128_0 := (HB.out.cell (World.block_lt_of_cell? w _ hx128_0)).trans hx128_0
         replace hx128_1 := (HB.out.cell (World.block_lt_of_cell? w _ hx128_1)).trans hx128_1
         replace hx128_2 := (HB.out.cell (World.block_lt_of_cell? w _ hx128_2)).trans hx128_2
         replace hx128_3 := (HB.out.cell (World.block_lt_of_cell? w _ hx128_3)).trans hx128_3
         replace p128 := eq_true p128
         replace q128 := eq_true q128
         refine start_ (n := 33) (S := fun w' => w'.cell? ⟨gb125, 0, none⟩ = some (.int .i64 a0_0) ∧ w'.cell? ⟨gb125, 1, none⟩ = some (.int .i64 a0_1) ∧ w'.cell? ad127 = some (.int .i64 ((rd_T52 l1 0).f0.f0)) ∧ w'.cell? ⟨ad127.block, ad127.off + 1, none⟩ = some (.int .i64 ((rd_T52 l1 0).f0.f1)) ∧ w'.cell? ⟨ad127.block, ad127.off + 2, none⟩ = some (.int .u8 ((rd_T52 l1 0).f1.f0)) ∧ w'.cell? ⟨ad127.block, ad127.off + 3, none⟩ = some (.int .i64 ((rd_T52 l1 0).f1.f1)) ∧ w'.cell? (ad127.add (((ji15)).toNat * 4)) = some (.int .i64 ((rd_T52 l1 (ji15)).f0.f0)) ∧ w'.cell? ⟨(ad127.add (((ji15)).toNat * 4)).block, (ad127.add (((ji15)).toNat * 4)).off + 1, none⟩ = some (.int .i64 ((rd_T52 l1 (ji15)).f0.f1)) ∧ w'.cell? ⟨(ad127.add (((ji15)).toNat * 4)).block, (ad127.add (((ji15)).toNat * 4)).off + 2, none⟩ = some (.int .u8 ((rd_T52 l1 (ji15)).f1.f0)) ∧ w'.cell? ⟨(ad127.add (((ji15)).toNat * 4)).block, (ad127.add (((ji15)).toNat * 4)).off + 3, none⟩ = some (.int .i64 ((rd_T52 l1 (ji15)).f1.f1))) (ds := []) #[fa,fa,fa,fa,fa,fa,fa,fa,fa,fa,fa,fa,fa,fa,fa,fa,fa,fa,fa,fa,fa,fa,fa,fa,fa,fa,fa,fa,fa,fa,fa,fa,fa] (by kernel_rfl) rfl rfl ⟨(blk_cell BK125.out 0).trans rfl, (blk_cell BK125.out 1).trans rfl, ((HB.out.cell (World.block_lt_of_cell? w _ hw127_0)).trans hw127_0), ((HB.out.cell (World.block_lt_of_cell? w _ hw127_1)).trans hw127_1), ((HB.out.cell (World.block_lt_of_cell? w _ hw127_2)).trans hw127_2), ((HB.out.cell (World.block_lt_of_cell? w _ hw127_3)).trans hw127_3), ((HB.out.cell (World.block_lt_of_cell? w _ hw128_0)).trans hw128_0), ((HB.out.cell (World.block_lt_of_cell? w _ hw128_1)).trans hw128_1), ((HB.out.cell (World.block_lt_of_cell? w _ hw128_2)).trans hw128_2), ((HB.out.cell (World.block_lt_of_cell? w _ hw128_3)).trans hw128_3)⟩ (fun hHeld => ?_); refine with_tabW line_Check.tab2 line_Check.bits2 (fun HT_ HW_ => ?_)
         generalize w4.drew = w18 at BK125 HB hx127_0 hx127_1 hx127_2 hx127_3 hx128_0 hx128_1 hx128_2 hx128_3 hHeld ⊢
         refine take_ (i := 0) (N := some 10) (v := ?_) (a' := ?_) #[tr,fa,fa,fa,fa,fa,fa,fa,fa,fa,fa,fa,fa,fa,fa,fa,fa,fa,fa,fa,fa,fa,fa,fa,fa,fa,fa,fa,fa,fa,fa,fa,fa] rfl rfl (take_ofW HT_.out HW_.out (by kernel_rfl)) (fun _ _ _ h => h) (Or.inl ⟨by rfl, ?_⟩) hHeld ?_ ?_
         rotate_left
         ·rintro w' ⟨s0, s1, s2, s3, s4, s5, s6, s7, s8, s9⟩
          go_simp
          with_reducible rfl
         rotate_left
         ·simp only [sP]
          rfl
         refine one_ (i := 1) (N := some 11) #[tr,tr,fa,fa,fa,fa,fa,fa,fa,fa,fa,fa,fa,fa,fa,fa,fa,fa,fa,fa,fa,fa,fa,fa,fa,fa,fa,fa,fa,fa,fa,fa,fa] rfl rfl (one_of HT_.out (by kernel_rfl)) (by decide) (fun K hK => ?_)
         refine goes_ Try.func26 (by kernel_rfl) rfl #[.agg #[.int .i64 a0_0, .int .i64 a0_1]] (by rfl) rfl rfl gS ?_
         with_reducible refine (line_window.calls k a0_0 a0_1 true _ A5.out).mono ?_
         rintro e w19 ⟨rfl, hb⟩
         refine ⟨_, rfl, ?_⟩
         replace BK125 := Bx0 BK125 hb
         replace HB := Bs1 HB hb GE125.out
         (try clear hb)
         refine hK.out _ _ ⟨(blk_cell BK125.out 0).trans rfl, (blk_cell BK125.out 1).trans rfl, ((HB.out.cell (World.block_lt_of_cell? w _ hw127_0)).trans hw127_0), ((HB.out.cell (World.block_lt_of_cell? w _ hw127_1)).trans hw127_1), ((HB.out.cell (World.block_lt_of_cell? w _ hw127_2)).trans hw127_2), ((HB.out.cell (World.block_lt_of_cell? w _ hw127_3)).trans hw127_3), ((HB.out.cell (World.block_lt_of_cell? w _ hw128_0)).trans hw128_0), ((HB.out.cell (World.block_lt_of_cell? w _ hw128_1)).trans hw128_1), ((HB.out.cell (World.block_lt_of_cell? w _ hw128_2)).trans hw128_2), ((HB.out.cell (World.block_lt_of_cell? w _ hw128_3)).trans hw128_3)⟩ (fun hHeld => ?_)
         clear hK K
         refine norm_ (a' := ?_) ?_ ?_
         rotate_left
         ·show Act.put _ (some 11) _ = _
          simp only [sP]
          rfl
         refine pure_ (i := 2) (N := some 12) (v := ?_) (a' := ?_) #[tr,tr,tr,fa,fa,fa,fa,fa,fa,fa,fa,fa,fa,fa,fa,fa,fa,fa,fa,fa,fa,fa,fa,fa,fa,fa,fa,fa,fa,fa,fa,fa,fa] rfl rfl (any_of HT_.out (by kernel_rfl)) (fun _ _ _ h => h) (Or.inl ⟨by rfl, ?_⟩) ?_ ?_
         rotate_left
         ·intro w'
          go_simp
          with_reducible rfl
         rotate_left
         ·simp only [sP]
          rfl
         refine pure_ (i := 3) (N := some 13) (v := ?_) (a' := ?_) #[tr,tr,tr,tr,fa,fa,fa,fa,fa,fa,fa,fa,fa,fa,fa,fa,fa,fa,fa,fa,fa,fa,fa,fa,fa,fa,fa,fa,fa,fa,fa,fa,fa] rfl rfl (any_of HT_.out (by kernel_rfl)) (fun _ _ _ h => h) (Or.inl ⟨by rfl, ?_⟩) ?_ ?_
         rotate_left
         ·intro w'
          go_simp
          with_reducible rfl
         rotate_left
         ·simp only [sP]
          rfl
         refine pure_ (i := 4) (N := some 14) (v := ?_) (a' := ?_) #[tr,tr,tr,tr,tr,fa,fa,fa,fa,fa,fa,fa,fa,fa,fa,fa,fa,fa,fa,fa,fa,fa,fa,fa,fa,fa,fa,fa,fa,fa,fa,fa,fa] rfl rfl (any_of HT_.out (by kernel_rfl)) (fun _ _ _ h => h) (Or.inl ⟨by rfl, ?_⟩) ?_ ?_
         rotate_left
         ·intro w'
          go_simp
          with_reducible rfl
         rotate_left
         ·simp only [sP]
          rfl
         refine pure_ (i := 5) (N := some 15) (v := ?_) (a' := ?_) #[tr,tr,tr,tr,tr,tr,fa,fa,fa,fa,fa,fa,fa,fa,fa,fa,fa,fa,fa,fa,fa,fa,fa,fa,fa,fa,fa,fa,fa,fa,fa,fa,fa] rfl rfl (any_of HT_.out (by kernel_rfl)) (fun _ _ _ h => h) (Or.inl ⟨by rfl, ?_⟩) ?_ ?_
         rotate_left
         ·intro w'
          go_simp
          with_reducible rfl
         rotate_left
         ·simp only [sP]
          rfl
         refine pure_ (i := 6) (N := some 16) (v := ?_) (a' := ?_) #[tr,tr,tr,tr,tr,tr,tr,fa,fa,fa,fa,fa,fa,fa,fa,fa,fa,fa,fa,fa,fa,fa,fa,fa,fa,fa,fa,fa,fa,fa,fa,fa,fa] rfl rfl (any_of HT_.out (by kernel_rfl)) (fun _ _ _ h => h) (Or.inl ⟨by rfl, ?_⟩) ?_ ?_
         rotate_left
         ·intro w'
          go_simp
          with_reducible rfl
         rotate_left
         ·simp only [sP]
          rfl
         refine pure_ (i := 7) (N := some 17) (v := ?_) (a' := ?_) #[tr,tr,tr,tr,tr,tr,tr,tr,fa,fa,fa,fa,fa,fa,fa,fa,fa,fa,fa,fa,fa,fa,fa,fa,fa,fa,fa,fa,fa,fa,fa,fa,fa] rfl rfl (any_of HT_.out (by kernel_rfl)) (fun _ _ _ h => h) (Or.inl ⟨by rfl, ?_⟩) ?_ ?_
         rotate_left
         ·intro w'
          go_simp
          with_reducible rfl
         rotate_left
         ·simp only [sP]
          rfl
         refine pure_ (i := 8) (N := some 18) (v := ?_) (a' := ?_) #[tr,tr,tr,tr,tr,tr,tr,tr,tr,fa,fa,fa,fa,fa,fa,fa,fa,fa,fa,fa,fa,fa,fa,fa,fa,fa,fa,fa,fa,fa,fa,fa,fa] rfl rfl (any_of HT_.out (by kernel_rfl)) (fun _ _ _ h => h) (Or.inl ⟨by rfl, ?_⟩) ?_ ?_
         rotate_left
         ·intro w'
          go_simp
          with_reducible rfl
         rotate_left
         ·simp only [sP]
          rfl
         refine pure_ (i := 9) (N := some 19) (v := ?_) (a' := ?_) #[tr,tr,tr,tr,tr,tr,tr,tr,tr,tr,fa,fa,fa,fa,fa,fa,fa,fa,fa,fa,fa,fa,fa,fa,fa,fa,fa,fa,fa,fa,fa,fa,fa] rfl rfl (any_of HT_.out (by kernel_rfl)) (fun _ _ _ h => h) (Or.inl ⟨by rfl, ?_⟩) ?_ ?_
         rotate_left
         ·intro w'
          go_simp
          with_reducible rfl
         rotate_left
         ·simp only [sP]
          rfl
         refine pure_ (i := 10) (N := some 20) (v := ?_) (a' := ?_) #[tr,tr,tr,tr,tr,tr,tr,tr,tr,tr,tr,fa,fa,fa,fa,fa,fa,fa,fa,fa,fa,fa,fa,fa,fa,fa,fa,fa,fa,fa,fa,fa,fa] rfl rfl (any_of HT_.out (by kernel_rfl)) (fun _ _ _ h => h) (Or.inl ⟨by rfl, ?_⟩) ?_ ?_
         rotate_left
         ·intro w'
          go_simp
          with_reducible rfl
         rotate_left
         ·simp only [sP]
          rfl
         refine pure_ (i := 11) (N := some 21) (v := ?_) (a' := ?_) #[tr,tr,tr,tr,tr,tr,tr,tr,tr,tr,tr,tr,fa,fa,fa,fa,fa,fa,fa,fa,fa,fa,fa,fa,fa,fa,fa,fa,fa,fa,fa,fa,fa] rfl rfl (any_of HT_.out (by kernel_rfl)) (fun _ _ _ h => h) (Or.inl ⟨by rfl, ?_⟩) ?_ ?_
         rotate_left
         ·intro w'
          go_simp
          with_reducible rfl
         rotate_left
         ·simp only [sP]
          rfl
         refine pure_ (i := 12) (N := some 22) (v := ?_) (a' := ?_) #[tr,tr,tr,tr,tr,tr,tr,tr,tr,tr,tr,tr,tr,fa,fa,fa,fa,fa,fa,fa,fa,fa,fa,fa,fa,fa,fa,fa,fa,fa,fa,fa,fa] rfl rfl (any_of HT_.out (by kernel_rfl)) (fun _ _ _ h => h) (Or.inl ⟨by rfl, ?_⟩) ?_ ?_
         rotate_left
         ·intro w'
          go_simp
          with_reducible rfl
         rotate_left
         ·simp only [sP]
          rfl
         refine pure_ (i := 13) (N := some 23) (v := ?_) (a' := ?_) #[tr,tr,tr,tr,tr,tr,tr,tr,tr,tr,tr,tr,tr,tr,fa,fa,fa,fa,fa,fa,fa,fa,fa,fa,fa,fa,fa,fa,fa,fa,fa,fa,fa] rfl rfl (any_of HT_.out (by kernel_rfl)) (fun _ _ _ h => h) (Or.inl ⟨by rfl, ?_⟩) ?_ ?_
         rotate_left
         ·intro w'
          go_simp
          with_reducible rfl
         rotate_left
         ·simp only [sP]
          rfl
         refine pure_ (i := 14) (N := some 24) (v := ?_) (a' := ?_) #[tr,tr,tr,tr,tr,tr,tr,tr,tr,tr,tr,tr,tr,tr,tr,fa,fa,fa,fa,fa,fa,fa,fa,fa,fa,fa,fa,fa,fa,fa,fa,fa,fa] rfl rfl (any_of HT_.out (by kernel_rfl)) (fun _ _ _ h => h) (Or.inl ⟨by rfl, ?_⟩) ?_ ?_
         rotate_left
         ·intro w'
          go_simp
          with_reducible rfl
         rotate_left
         ·simp only [sP]
          rfl
         refine pure_ (i := 15) (N := some 25) (v := ?_) (a' := ?_) #[tr,tr,tr,tr,tr,tr,tr,tr,tr,tr,tr,tr,tr,tr,tr,tr,fa,fa,fa,fa,fa,fa,fa,fa,fa,fa,fa,fa,fa,fa,fa,fa,fa] rfl rfl (any_of HT_.out (by kernel_rfl)) (fun _ _ _ h => h) (Or.inl ⟨by rfl, ?_⟩) ?_ ?_
         rotate_left
         ·intro w'
          go_simp
          with_reducible rfl
         rotate_left
         ·simp only [sP]
          rfl
         refine pure_ (i := 17) (N := some 27) (v := ?_) (a' := ?_) #[tr,tr,tr,tr,tr,tr,tr,tr,tr,tr,tr,tr,tr,tr,tr,tr,fa,tr,fa,fa,fa,fa,fa,fa,fa,fa,fa,fa,fa,fa,fa,fa,fa] rfl rfl (any_of HT_.out (by kernel_rfl)) (fun _ _ _ h => h) (Or.inl ⟨by rfl, ?_⟩) ?_ ?_
         rotate_left
         ·intro w'
          go_simp
          with_reducible rfl
         rotate_left
         ·simp only [sP]
          rfl
         refine take_ (i := 16) (N := some 26) (v := ?_) (a' := ?_) #[tr,tr,tr,tr,tr,tr,tr,tr,tr,tr,tr,tr,tr,tr,tr,tr,tr,tr,fa,fa,fa,fa,fa,fa,fa,fa,fa,fa,fa,fa,fa,fa,fa] rfl rfl (take_ofW HT_.out HW_.out (by kernel_rfl)) (fun _ _ _ h => h) (Or.inl ⟨by rfl, ?_⟩) hHeld ?_ ?_
         rotate_left
         ·rintro w' ⟨s0, s1, s2, s3, s4, s5, s6, s7, s8, s9⟩
          go_simp
          with_reducible rfl
         rotate_left
         ·simp only [sP]
          rfl
         refine take_ (i := 18) (N := some 28) (v := ?_) (a' := ?_) #[tr,tr,tr,tr,tr,tr,tr,tr,tr,tr,tr,tr,tr,tr,tr,tr,tr,tr,tr,fa,fa,fa,fa,fa,fa,fa,fa,fa,fa,fa,fa,fa,fa] rfl rfl (take_ofW HT_.out HW_.out (by kernel_rfl)) (fun _ _ _ h => h) (Or.inl ⟨by rfl, ?_⟩) hHeld ?_ ?_
         rotate_left
         ·rintro w' ⟨s0, s1, s2, s3, s4, s5, s6, s7, s8, s9⟩
          go_simp
          with_reducible rfl
         rotate_left
         ·simp only [sP]
          rfl
         refine pure_ (i := 19) (N := some 29) (v := ?_) (a' := ?_) #[tr,tr,tr,tr,tr,tr,tr,tr,tr,tr,tr,tr,tr,tr,tr,tr,tr,tr,tr,tr,fa,fa,fa,fa,fa,fa,fa,fa,fa,fa,fa,fa,fa] rfl rfl (any_of HT_.out (by kernel_rfl)) (fun _ _ _ h => h) (Or.inl ⟨by rfl, ?_⟩) ?_ ?_
         rotate_left
         ·intro w'
          go_simp
          with_reducible rfl
         rotate_left
         ·simp only [sP]
          rfl
         refine pure_ (i := 20) (N := some 30) (v := ?_) (a' := ?_) #[tr,tr,tr,tr,tr,tr,tr,tr,tr,tr,tr,tr,tr,tr,tr,tr,tr,tr,tr,tr,tr,fa,fa,fa,fa,fa,fa,fa,fa,fa,fa,fa,fa] rfl rfl (any_of HT_.out (by kernel_rfl)) (fun _ _ _ h => h) (Or.inl ⟨by rfl, ?_⟩) ?_ ?_
         rotate_left
         ·intro w'
          go_simp
          with_reducible rfl
         rotate_left
         ·simp only [sP]
          rfl
         refine pure_ (i := 21) (N := some 31) (v := ?_) (a' := ?_) #[tr,tr,tr,tr,tr,tr,tr,tr,tr,tr,tr,tr,tr,tr,tr,tr,tr,tr,tr,tr,tr,tr,fa,fa,fa,fa,fa,fa,fa,fa,fa,fa,fa] rfl rfl (any_of HT_.out (by kernel_rfl)) (fun _ _ _ h => h) (Or.inl ⟨by rfl, ?_⟩) ?_ ?_
         rotate_left
         ·intro w'
          go_simp
          with_reducible rfl
         rotate_left
         ·simp only [sP]
          rfl
         refine pure_ (i := 22) (N := some 32) (v := ?_) (a' := ?_) #[tr,tr,tr,tr,tr,tr,tr,tr,tr,tr,tr,tr,tr,tr,tr,tr,tr,tr,tr,tr,tr,tr,tr,fa,fa,fa,fa,fa,fa,fa,fa,fa,fa] rfl rfl (any_of HT_.out (by kernel_rfl)) (fun _ _ _ h => h) (Or.inl ⟨by rfl, ?_⟩) ?_ ?_
         rotate_left
         ·intro w'
          go_simp
          with_reducible rfl
         rotate_left
         ·simp only [sP]
          rfl
         refine pure_ (i := 23) (N := some 33) (v := ?_) (a' := ?_) #[tr,tr,tr,tr,tr,tr,tr,tr,tr,tr,tr,tr,tr,tr,tr,tr,tr,tr,tr,tr,tr,tr,tr,tr,fa,fa,fa,fa,fa,fa,fa,fa,fa] rfl rfl (any_of HT_.out (by kernel_rfl)) (fun _ _ _ h => h) (Or.inl ⟨by rfl, ?_⟩) ?_ ?_
         rotate_left
         ·intro w'
          go_simp
          with_reducible rfl
         rotate_left
         ·simp only [sP]
          rfl
         refine pure_ (i := 24) (N := some 34) (v := ?_) (a' := ?_) #[tr,tr,tr,tr,tr,tr,tr,tr,tr,tr,tr,tr,tr,tr,tr,tr,tr,tr,tr,tr,tr,tr,tr,tr,tr,fa,fa,fa,fa,fa,fa,fa,fa] rfl rfl (any_of HT_.out (by kernel_rfl)) (fun _ _ _ h => h) (Or.inl ⟨by rfl, ?_⟩) ?_ ?_
         rotate_left
         ·intro w'
          go_simp
          with_reducible rfl
         rotate_left
         ·simp only [sP]
          rfl
         refine pure_ (i := 25) (N := some 35) (v := ?_) (a' := ?_) #[tr,tr,tr,tr,tr,tr,tr,tr,tr,tr,tr,tr,tr,tr,tr,tr,tr,tr,tr,tr,tr,tr,tr,tr,tr,tr,fa,fa,fa,fa,fa,fa,fa] rfl rfl (any_of HT_.out (by kernel_rfl)) (fun _ _ _ h => h) (Or.inl ⟨by rfl, ?_⟩) ?_ ?_
         rotate_left
         ·intro w'
          go_simp
          with_reducible rfl
         rotate_left
         ·simp only [sP]
          rfl
         refine pure_ (i := 26) (N := some 36) (v := ?_) (a' := ?_) #[tr,tr,tr,tr,tr,tr,tr,tr,tr,tr,tr,tr,tr,tr,tr,tr,tr,tr,tr,tr,tr,tr,tr,tr,tr,tr,tr,fa,fa,fa,fa,fa,fa] rfl rfl (any_of HT_.out (by kernel_rfl)) (fun _ _ _ h => h) (Or.inl ⟨by rfl, ?_⟩) ?_ ?_
         rotate_left
         ·intro w'
          go_simp
          with_reducible rfl
         rotate_left
         ·simp only [sP]
          rfl
         refine pure_ (i := 27) (N := some 37) (v := ?_) (a' := ?_) #[tr,tr,tr,tr,tr,tr,tr,tr,tr,tr,tr,tr,tr,tr,tr,tr,tr,tr,tr,tr,tr,tr,tr,tr,tr,tr,tr,tr,fa,fa,fa,fa,fa] rfl rfl (any_of HT_.out (by kernel_rfl)) (fun _ _ _ h => h) (Or.inl ⟨by rfl, ?_⟩) ?_ ?_
         rotate_left
         ·intro w'
          go_simp
          with_reducible rfl
         rotate_left
         ·simp only [sP]
          rfl
         refine pure_ (i := 29) (N := some 39) (v := ?_) (a' := ?_) #[tr,tr,tr,tr,tr,tr,tr,tr,tr,tr,tr,tr,tr,tr,tr,tr,tr,tr,tr,tr,tr,tr,tr,tr,tr,tr,tr,tr,fa,tr,fa,fa,fa] rfl rfl (any_of HT_.out (by kernel_rfl)) (fun _ _ _ h => h) (Or.inl ⟨by rfl, ?_⟩) ?_ ?_
         rotate_left
         ·intro w'
          go_simp
          with_reducible rfl
         rotate_left
         ·simp only [sP]
          rfl
         refine take_ (i := 28) (N := some 38) (v := ?_) (a' := ?_) #[tr,tr,tr,tr,tr,tr,tr,tr,tr,tr,tr,tr,tr,tr,tr,tr,tr,tr,tr,tr,tr,tr,tr,tr,tr,tr,tr,tr,tr,tr,fa,fa,fa] rfl rfl (take_ofW HT_.out HW_.out (by kernel_rfl)) (fun _ _ _ h => h) (Or.inl ⟨by rfl, ?_⟩) hHeld ?_ ?_
         rotate_left
         ·rintro w' ⟨s0, s1, s2, s3, s4, s5, s6, s7, s8, s9⟩
          go_simp
          with_reducible rfl
         rotate_left
         ·simp only [sP]
          rfl
         refine take_ (i := 30) (N := some 40) (v := ?_) (a' := ?_) #[tr,tr,tr,tr,tr,tr,tr,tr,tr,tr,tr,tr,tr,tr,tr,tr,tr,tr,tr,tr,tr,tr,tr,tr,tr,tr,tr,tr,tr,tr,tr,fa,fa] rfl rfl (take_ofW HT_.out HW_.out (by kernel_rfl)) (fun _ _ _ h => h) (Or.inl ⟨by rfl, ?_⟩) hHeld ?_ ?_
         rotate_left
         ·rintro w' ⟨s0, s1, s2, s3, s4, s5, s6, s7, s8, s9⟩
          go_simp
          with_reducible rfl
         rotate_left
         ·simp only [sP]
          rfl
         refine pure_ (i := 31) (N := some 41) (v := ?_) (a' := ?_) #[tr,tr,tr,tr,tr,tr,tr,tr,tr,tr,tr,tr,tr,tr,tr,tr,tr,tr,tr,tr,tr,tr,tr,tr,tr,tr,tr,tr,tr,tr,tr,tr,fa] rfl rfl (any_of HT_.out (by kernel_rfl)) (fun _ _ _ h => h) (Or.inl ⟨by rfl, ?_⟩) ?_ ?_
         rotate_left
         ·intro w'
          go_simp
          with_reducible rfl
         rotate_left
         ·simp only [sP]
          rfl
         refine pure_ (i := 32) (N := some 42) (v := ?_) (a' := ?_) #[tr,tr,tr,tr,tr,tr,tr,tr,tr,tr,tr,tr,tr,tr,tr,tr,tr,tr,tr,tr,tr,tr,tr,tr,tr,tr,tr,tr,tr,tr,tr,tr,tr] rfl rfl (any_of HT_.out (by kernel_rfl)) (fun _ _ _ h => h) (Or.inl ⟨by rfl, ?_⟩) ?_ ?_
         rotate_left
         ·intro w'
          go_simp
          with_reducible rfl
         rotate_left
         ·simp only [sP]
          rfl
         refine done_ (done_of HT_.out (by kernel_rfl)) ?_
         try go_wp2
         go_meet
         case rel => exact ⟨_, ((((rd_T52 l1 (ji15)).f0.f1) != a0_1)), (by first | rfl | (simp; done) | (simp only [← hji15] <;> (first | rfl | simp)) | (simp [*]; done)), H', ⟨by first | omega | exact Nat.le_refl _⟩, ⟨bf0 BK125.out⟩, ⟨bw1 HB.out GE125.out⟩⟩
        ·rw [if_neg c17] at H
         exact absurd H (by simp)
       ·rw [if_neg c16] at H
        exact absurd H (by simp)
      ·rw [if_neg c14] at H
       have c14b0 : (((rd_T52 l1 0).f0.f0) == a0_0) = false := beq_eq_false_iff_ne.mpr c14
       have c14b1 : (((rd_T52 l1 0).f0.f0) != a0_0) = true := bne_iff_ne.mpr c14
       have H' := Ax H
       clear H
       try go_wp2
       replace BK125 := Ax (blk_drew BK125.out)
       replace HB := Ax (below_drew1 HB.out)
       have p127 : 0 ≤ (0 : Int) := (by omega)
       have q127 : 0 < (l1.length : Int) := of_decide_eq_true (by first | (with_reducible assumption) | assumption)
       obtain ⟨ad127, e127, hx127_0, hx127_1, hx127_2, hx127_3⟩ := at_T52 HR1.out 0 p127 q127
       have hw127_3 := hx127_3
       (try rw [show ((0 : Int)).toNat = 0 from rfl] at hw127_3)
       (try rw [show 0 * 4 = 0 from rfl] at hw127_3)
       (try rw [Addr.add_zero'] at hw127_3)
       have hw127_2 := hx127_2
       (try rw [show ((0 : Int)).toNat = 0 from rfl] at hw127_2)
       (try rw [show 0 * 4 = 0 from rfl] at hw127_2)
       (try rw [Addr.add_zero'] at hw127_2)
       have hw127_1 := hx127_1
       (try rw [show ((0 : Int)).toNat = 0 from rfl] at hw127_1)
       (try rw [show 0 * 4 = 0 from rfl] at hw127_1)
       (try rw [Addr.add_zero'] at hw127_1)
       have hw127_0 := hx127_0
       (try rw [show ((0 : Int)).toNat = 0 from rfl] at hw127_0)
       (try rw [show 0 * 4 = 0 from rfl] at hw127_0)
       (try rw [Addr.add_zero'] at hw127_0)
       cases e127
       have qi127 : (0 < l1.length) = True := eq_true (by omega)
       (try rw [show ((0 : Int)).toNat = 0 from rfl] at hx127_0)
       (try rw [show 0 * 4 = 0 from rfl] at hx127_0)
       (try rw [Addr.add_zero'] at hx127_0)
       (try rw [show ((0 : Int)).toNat = 0 from rfl] at hx127_1)
       (try rw [show 0 * 4 = 0 from rfl] at hx127_1)
       (try rw [Addr.add_zero'] at hx127_1)
       (try rw [show ((0 : Int)).toNat = 0 from rfl] at hx127_2)
       (try rw [show 0 * 4 = 0 from rfl] at hx127_2)
       (try rw [Addr.add_zero'] at hx127_2)
       (try rw [show ((0 : Int)).toNat = 0 from rfl] at hx127_3)
       (try rw [show 0 * 4 = 0 from rfl] at hx127_3)
       (try rw [Addr.add_zero'] at hx127_3)
       replace hx127_0 := (HB.out.cell (World.block_lt_of_cell? w _ hx127_0)).trans hx127_0
       replace hx127_1 := (HB.out.cell (World.block_lt_of_cell? w _ hx127_1)).trans hx127_1
       replace hx127_2 := (HB.out.cell (World.block_lt_of_cell? w _ hx127_2)).trans hx127_2
       replace hx127_3 := (HB.out.cell (World.block_lt_of_cell? w _ hx127_3)).trans hx127_3
       replace p127 := eq_true p127
       replace q127 := eq_true q127
       refine start_ (n := 33) (S := fun w' => w'.cell? ⟨gb125, 0, none⟩ = some (.int .i64 a0_0) ∧ w'.cell? ⟨gb125, 1, none⟩ = some (.int .i64 a0_1) ∧ w'.cell? ad127 = some (.int .i64 ((rd_T52 l1 0).f0.f0)) ∧ w'.cell? ⟨ad127.block, ad127.off + 1, none⟩ = some (.int .i64 ((rd_T52 l1 0).f0.f1)) ∧ w'.cell? ⟨ad127.block, ad127.off + 2, none⟩ = some (.int .u8 ((rd_T52 l1 0).f1.f0)) ∧ w'.cell? ⟨ad127.block, ad127.off + 3, none⟩ = some (.int .i64 ((rd_T52 l1 0).f1.f1))) (ds := []) #[fa,fa,fa,fa,fa,fa,fa,fa,fa,fa,fa,fa,fa,fa,fa,fa,fa,fa,fa,fa,fa,fa,fa,fa,fa,fa,fa,fa,fa,fa,fa,fa,fa] (by kernel_rfl) rfl rfl ⟨(blk_cell BK125.out 0).trans rfl, (blk_cell BK125.out 1).trans rfl, ((HB.out.cell (World.block_lt_of_cell? w _ hw127_0)).trans hw127_0), ((HB.out.cell (World.block_lt_of_cell? w _ hw127_1)).trans hw127_1), ((HB.out.cell (World.block_lt_of_cell? w _ hw127_2)).trans hw127_2), ((HB.out.cell (World.block_lt_of_cell? w _ hw127_3)).trans hw127_3)⟩ (fun hHeld => ?_); refine with_tabW line_Check.tab2 line_Check.bits2 (fun HT_ HW_ => ?_)
       generalize w4.drew = w20 at BK125 HB hx127_0 hx127_1 hx127_2 hx127_3 hHeld ⊢
       refine take_ (i := 0) (N := some 10) (v := ?_) (a' := ?_) #[tr,fa,fa,fa,fa,fa,fa,fa,fa,fa,fa,fa,fa,fa,fa,fa,fa,fa,fa,fa,fa,fa,fa,fa,fa,fa,fa,fa,fa,fa,fa,fa,fa] rfl rfl (take_ofW HT_.out HW_.out (by kernel_rfl)) (fun _ _ _ h => h) (Or.inl ⟨by rfl, ?_⟩) hHeld ?_ ?_
       rotate_left
       ·rintro w' ⟨s0, s1, s2, s3, s4, s5⟩
        go_simp
        with_reducible rfl
       rotate_left
       ·simp only [sP]
        rfl
       refine one_ (i := 1) (N := some 11) #[tr,tr,fa,fa,fa,fa,fa,fa,fa,fa,fa,fa,fa,fa,fa,fa,fa,fa,fa,fa,fa,fa,fa,fa,fa,fa,fa,fa,fa,fa,fa,fa,fa] rfl rfl (one_of HT_.out (by kernel_rfl)) (by decide) (fun K hK => ?_)
       refine goes_ Try.func26 (by kernel_rfl) rfl #[.agg #[.int .i64 a0_0, .int .i64 a0_1]] (by rfl) rfl rfl gS ?_
       with_reducible refine (line_window.calls k a0_0 a0_1 true _ A5.out).mono ?_
       rintro e w21 ⟨rfl, hb⟩
       refine ⟨_, rfl, ?_⟩
       replace BK125 := Bx0 BK125 hb
       replace HB := Bs1 HB hb GE125.out
       (try clear hb)
       refine hK.out _ _ ⟨(blk_cell BK125.out 0).trans rfl, (blk_cell BK125.out 1).trans rfl, ((HB.out.cell (World.block_lt_of_cell? w _ hw127_0)).trans hw127_0), ((HB.out.cell (World.block_lt_of_cell? w _ hw127_1)).trans hw127_1), ((HB.out.cell (World.block_lt_of_cell? w _ hw127_2)).trans hw127_2), ((HB.out.cell (World.block_lt_of_cell? w _ hw127_3)).trans hw127_3)⟩ (fun hHeld => ?_)
       clear hK K
       refine norm_ (a' := ?_) ?_ ?_
       rotate_left
       ·show Act.put _ (some 11) _ = _
        simp only [sP]
        rfl
       refine pure_ (i := 2) (N := some 12) (v := ?_) (a' := ?_) #[tr,tr,tr,fa,fa,fa,fa,fa,fa,fa,fa,fa,fa,fa,fa,fa,fa,fa,fa,fa,fa,fa,fa,fa,fa,fa,fa,fa,fa,fa,fa,fa,fa] rfl rfl (any_of HT_.out (by kernel_rfl)) (fun _ _ _ h => h) (Or.inl ⟨by rfl, ?_⟩) ?_ ?_
       rotate_left
       ·intro w'
        go_simp
        with_reducible rfl
       rotate_left
       ·simp only [sP]
        rfl
       refine pure_ (i := 3) (N := some 13) (v := ?_) (a' := ?_) #[tr,tr,tr,tr,fa,fa,fa,fa,fa,fa,fa,fa,fa,fa,fa,fa,fa,fa,fa,fa,fa,fa,fa,fa,fa,fa,fa,fa,fa,fa,fa,fa,fa] rfl rfl (any_of HT_.out (by kernel_rfl)) (fun _ _ _ h => h) (Or.inl ⟨by rfl, ?_⟩) ?_ ?_
       rotate_left
       ·intro w'
        go_simp
        with_reducible rfl
       rotate_left
       ·simp only [sP]
        rfl
       refine pure_ (i := 4) (N := some 14) (v := ?_) (a' := ?_) #[tr,tr,tr,tr,tr,fa,fa,fa,fa,fa,fa,fa,fa,fa,fa,fa,fa,fa,fa,fa,fa,fa,fa,fa,fa,fa,fa,fa,fa,fa,fa,fa,fa] rfl rfl (any_of HT_.out (by kernel_rfl)) (fun _ _ _ h => h) (Or.inl ⟨by rfl, ?_⟩) ?_ ?_
       rotate_left
       ·intro w'
        go_simp
        with_reducible rfl
       rotate_left
       ·simp only [sP]
        rfl
       refine pure_ (i := 5) (N := some 15) (v := ?_) (a' := ?_) #[tr,tr,tr,tr,tr,tr,fa,fa,fa,fa,fa,fa,fa,fa,fa,fa,fa,fa,fa,fa,fa,fa,fa,fa,fa,fa,fa,fa,fa,fa,fa,fa,fa] rfl rfl (any_of HT_.out (by kernel_rfl)) (fun _ _ _ h => h) (Or.inl ⟨by rfl, ?_⟩) ?_ ?_
       rotate_left
       ·intro w'
        go_simp
        with_reducible rfl
       rotate_left
       ·simp only [sP]
        rfl
       refine pure_ (i := 6) (N := some 16) (v := ?_) (a' := ?_) #[tr,tr,tr,tr,tr,tr,tr,fa,fa,fa,fa,fa,fa,fa,fa,fa,fa,fa,fa,fa,fa,fa,fa,fa,fa,fa,fa,fa,fa,fa,fa,fa,fa] rfl rfl (any_of HT_.out (by kernel_rfl)) (fun _ _ _ h => h) (Or.inl ⟨by rfl, ?_⟩) ?_ ?_
       rotate_left
       ·intro w'
        go_simp
        with_reducible rfl
       rotate_left
       ·simp only [sP]
        rfl
       refine pure_ (i := 7) (N := some 17) (v := ?_) (a' := ?_) #[tr,tr,tr,tr,tr,tr,tr,tr,fa,fa,fa,fa,fa,fa,fa,fa,fa,fa,fa,fa,fa,fa,fa,fa,fa,fa,fa,fa,fa,fa,fa,fa,fa] rfl rfl (any_of HT_.out (by kernel_rfl)) (fun _ _ _ h => h) (Or.inl ⟨by rfl, ?_⟩) ?_ ?_
       rotate_left
       ·intro w'
        go_simp
        with_reducible rfl
       rotate_left
       ·simp only [sP]
        rfl
       refine pure_ (i := 8) (N := some 18) (v := ?_) (a' := ?_) #[tr,tr,tr,tr,tr,tr,tr,tr,tr,fa,fa,fa,fa,fa,fa,fa,fa,fa,fa,fa,fa,fa,fa,fa,fa,fa,fa,fa,fa,fa,fa,fa,fa] rfl rfl (any_of HT_.out (by kernel_rfl)) (fun _ _ _ h => h) (Or.inl ⟨by rfl, ?_⟩) ?_ ?_
       rotate_left
       ·intro w'
        go_simp
        with_reducible rfl
       rotate_left
       ·simp only [sP]
        rfl
       refine pure_ (i := 9) (N := some 19) (v := ?_) (a' := ?_) #[tr,tr,tr,tr,tr,tr,tr,tr,tr,tr,fa,fa,fa,fa,fa,fa,fa,fa,fa,fa,fa,fa,fa,fa,fa,fa,fa,fa,fa,fa,fa,fa,fa] rfl rfl (any_of HT_.out (by kernel_rfl)) (fun _ _ _ h => h) (Or.inl ⟨by rfl, ?_⟩) ?_ ?_
       rotate_left
       ·intro w'
        go_simp
        with_reducible rfl
       rotate_left
       ·simp only [sP]
        rfl
       refine pure_ (i := 10) (N := some 20) (v := ?_) (a' := ?_) #[tr,tr,tr,tr,tr,tr,tr,tr,tr,tr,tr,fa,fa,fa,fa,fa,fa,fa,fa,fa,fa,fa,fa,fa,fa,fa,fa,fa,fa,fa,fa,fa,fa] rfl rfl (any_of HT_.out (by kernel_rfl)) (fun _ _ _ h => h) (Or.inl ⟨by rfl, ?_⟩) ?_ ?_
       rotate_left
       ·intro w'
        go_simp
        with_reducible rfl
       rotate_left
       ·simp only [sP]
        rfl
       refine pure_ (i := 11) (N := some 21) (v := ?_) (a' := ?_) #[tr,tr,tr,tr,tr,tr,tr,tr,tr,tr,tr,tr,fa,fa,fa,fa,fa,fa,fa,fa,fa,fa,fa,fa,fa,fa,fa,fa,fa,fa,fa,fa,fa] rfl rfl (any_of HT_.out (by kernel_rfl)) (fun _ _ _ h => h) (Or.inl ⟨by rfl, ?_⟩) ?_ ?_
       rotate_left
       ·intro w'
        go_simp
        with_reducible rfl
       rotate_left
       ·simp only [sP]
        rfl
       refine pure_ (i := 12) (N := some 22) (v := ?_) (a' := ?_) #[tr,tr,tr,tr,tr,tr,tr,tr,tr,tr,tr,tr,tr,fa,fa,fa,fa,fa,fa,fa,fa,fa,fa,fa,fa,fa,fa,fa,fa,fa,fa,fa,fa] rfl rfl (any_of HT_.out (by kernel_rfl)) (fun _ _ _ h => h) (Or.inl ⟨by rfl, ?_⟩) ?_ ?_
       rotate_left
       ·intro w'
        go_simp
        with_reducible rfl
       rotate_left
       ·simp only [sP]
        rfl
       refine pure_ (i := 13) (N := some 23) (v := ?_) (a' := ?_) #[tr,tr,tr,tr,tr,tr,tr,tr,tr,tr,tr,tr,tr,tr,fa,fa,fa,fa,fa,fa,fa,fa,fa,fa,fa,fa,fa,fa,fa,fa,fa,fa,fa] rfl rfl (any_of HT_.out (by kernel_rfl)) (fun _ _ _ h => h) (Or.inl ⟨by rfl, ?_⟩) ?_ ?_
       rotate_left
       ·intro w'
        go_simp
        with_reducible rfl
       rotate_left
       ·simp only [sP]
        rfl
       refine pure_ (i := 14) (N := some 24) (v := ?_) (a' := ?_) #[tr,tr,tr,tr,tr,tr,tr,tr,tr,tr,tr,tr,tr,tr,tr,fa,fa,fa,fa,fa,fa,fa,fa,fa,fa,fa,fa,fa,fa,fa,fa,fa,fa] rfl rfl (any_of HT_.out (by kernel_rfl)) (fun _ _ _ h => h) (Or.inl ⟨by rfl, ?_⟩) ?_ ?_
       rotate_left
       ·intro w'
        go_simp
        with_reducible rfl
       rotate_left
       ·simp only [sP]
        rfl
       refine pure_ (i := 15) (N := some 25) (v := ?_) (a' := ?_) #[tr,tr,tr,tr,tr,tr,tr,tr,tr,tr,tr,tr,tr,tr,tr,tr,fa,fa,fa,fa,fa,fa,fa,fa,fa,fa,fa,fa,fa,fa,fa,fa,fa] rfl rfl (any_of HT_.out (by kernel_rfl)) (fun _ _ _ h => h) (Or.inl ⟨by rfl, ?_⟩) ?_ ?_
       rotate_left
       ·intro w'
        go_simp
        with_reducible rfl
       rotate_left
       ·simp only [sP]
        rfl
       refine pure_ (i := 17) (N := some 27) (v := ?_) (a' := ?_) #[tr,tr,tr,tr,tr,tr,tr,tr,tr,tr,tr,tr,tr,tr,tr,tr,fa,tr,fa,fa,fa,fa,fa,fa,fa,fa,fa,fa,fa,fa,fa,fa,fa] rfl rfl (any_of HT_.out (by kernel_rfl)) (fun _ _ _ h => h) (Or.inl ⟨by rfl, ?_⟩) ?_ ?_
       rotate_left
       ·intro w'
        go_simp
        with_reducible rfl
       rotate_left
       ·simp only [sP]
        rfl
       refine take_ (i := 16) (N := some 26) (v := ?_) (a' := ?_) #[tr,tr,tr,tr,tr,tr,tr,tr,tr,tr,tr,tr,tr,tr,tr,tr,tr,tr,fa,fa,fa,fa,fa,fa,fa,fa,fa,fa,fa,fa,fa,fa,fa] rfl rfl (take_ofW HT_.out HW_.out (by kernel_rfl)) (fun _ _ _ h => h) (Or.inl ⟨by rfl, ?_⟩) hHeld ?_ ?_
       rotate_left
       ·rintro w' ⟨s0, s1, s2, s3, s4, s5⟩
        go_simp
        with_reducible rfl
       rotate_left
       ·simp only [sP]
        rfl
       refine take_ (i := 18) (N := some 28) (v := ?_) (a' := ?_) #[tr,tr,tr,tr,tr,tr,tr,tr,tr,tr,tr,tr,tr,tr,tr,tr,tr,tr,tr,fa,fa,fa,fa,fa,fa,fa,fa,fa,fa,fa,fa,fa,fa] rfl rfl (take_ofW HT_.out HW_.out (by kernel_rfl)) (fun _ _ _ h => h) (Or.inl ⟨by rfl, ?_⟩) hHeld ?_ ?_
       rotate_left
       ·rintro w' ⟨s0, s1, s2, s3, s4, s5⟩
        go_simp
        with_reducible rfl
       rotate_left
       ·simp only [sP]
        rfl
       refine pure_ (i := 19) (N := some 29) (v := ?_) (a' := ?_) #[tr,tr,tr,tr,tr,tr,tr,tr,tr,tr,tr,tr,tr,tr,tr,tr,tr,tr,tr,tr,fa,fa,fa,fa,fa,fa,fa,fa,fa,fa,fa,fa,fa] rfl rfl (any_of HT_.out (by kernel_rfl)) (fun _ _ _ h => h) (Or.inl ⟨by rfl, ?_⟩) ?_ ?_
       rotate_left
       ·intro w'
        go_simp
        with_reducible rfl
       rotate_left
       ·simp only [sP]
        rfl
       refine pure_ (i := 20) (N := some 30) (v := ?_) (a' := ?_) #[tr,tr,tr,tr,tr,tr,tr,tr,tr,tr,tr,tr,tr,tr,tr,tr,tr,tr,tr,tr,tr,fa,fa,fa,fa,fa,fa,fa,fa,fa,fa,fa,fa] rfl rfl (any_of HT_.out (by kernel_rfl)) (fun _ _ _ h => h) (Or.inl ⟨by rfl, ?_⟩) ?_ ?_
       rotate_left
       ·intro w'
        go_simp
        with_reducible rfl
       rotate_left
       ·simp only [sP]
        rfl
       refine pure_ (i := 21) (N := some 31) (v := ?_) (a' := ?_) #[tr,tr,tr,tr,tr,tr,tr,tr,tr,tr,tr,tr,tr,tr,tr,tr,tr,tr,tr,tr,tr,tr,fa,fa,fa,fa,fa,fa,fa,fa,fa,fa,fa] rfl rfl (any_of HT_.out (by kernel_rfl)) (fun _ _ _ h => h) (Or.inl ⟨by rfl, ?_⟩) ?_ ?_
       rotate_left
       ·intro w'
        go_simp
        with_reducible rfl
       rotate_left
       ·simp only [sP]
        rfl
       refine pure_ (i := 22) (N := some 32) (v := undef) (a' := ?_) #[tr,tr,tr,tr,tr,tr,tr,tr,tr,tr,tr,tr,tr,tr,tr,tr,tr,tr,tr,tr,tr,tr,tr,fa,fa,fa,fa,fa,fa,fa,fa,fa,fa] rfl rfl (any_of HT_.out (by kernel_rfl)) (fun _ _ _ h => h) (Or.inr ⟨by rfl, rfl⟩) ?_ ?_
       rotate_left
       ·simp only [sP]
        rfl
       refine pure_ (i := 23) (N := some 33) (v := undef) (a' := ?_) #[tr,tr,tr,tr,tr,tr,tr,tr,tr,tr,tr,tr,tr,tr,tr,tr,tr,tr,tr,tr,tr,tr,tr,tr,fa,fa,fa,fa,fa,fa,fa,fa,fa] rfl rfl (any_of HT_.out (by kernel_rfl)) (fun _ _ _ h => h) (Or.inr ⟨by rfl, rfl⟩) ?_ ?_
       rotate_left
       ·simp only [sP]
        rfl
       refine pure_ (i := 24) (N := some 34) (v := undef) (a' := ?_) #[tr,tr,tr,tr,tr,tr,tr,tr,tr,tr,tr,tr,tr,tr,tr,tr,tr,tr,tr,tr,tr,tr,tr,tr,tr,fa,fa,fa,fa,fa,fa,fa,fa] rfl rfl (any_of HT_.out (by kernel_rfl)) (fun _ _ _ h => h) (Or.inr ⟨by rfl, rfl⟩) ?_ ?_
       rotate_left
       ·simp only [sP]
        rfl
       refine pure_ (i := 25) (N := some 35) (v := undef) (a' := ?_) #[tr,tr,tr,tr,tr,tr,tr,tr,tr,tr,tr,tr,tr,tr,tr,tr,tr,tr,tr,tr,tr,tr,tr,tr,tr,tr,fa,fa,fa,fa,fa,fa,fa] rfl rfl (any_of HT_.out (by kernel_rfl)) (fun _ _ _ h => h) (Or.inr ⟨by rfl, rfl⟩) ?_ ?_
       rotate_left
       ·simp only [sP]
        rfl
       refine pure_ (i := 26) (N := some 36) (v := undef) (a' := ?_) #[tr,tr,tr,tr,tr,tr,tr,tr,tr,tr,tr,tr,tr,tr,tr,tr,tr,tr,tr,tr,tr,tr,tr,tr,tr,tr,tr,fa,fa,fa,fa,fa,fa] rfl rfl (any_of HT_.out (by kernel_rfl)) (fun _ _ _ h => h) (Or.inr ⟨by rfl, rfl⟩) ?_ ?_
       rotate_left
       ·simp only [sP]
        rfl
       refine pure_ (i := 27) (N := some 37) (v := undef) (a' := ?_) #[tr,tr,tr,tr,tr,tr,tr,tr,tr,tr,tr,tr,tr,tr,tr,tr,tr,tr,tr,tr,tr,tr,tr,tr,tr,tr,tr,tr,fa,fa,fa,fa,fa] rfl rfl (any_of HT_.out (by kernel_rfl)) (fun _ _ _ h => h) (Or.inr ⟨by rfl, rfl⟩) ?_ ?_
       rotate_left
       ·simp only [sP]
        rfl
       refine pure_ (i := 28) (N := some 38) (v := undef) (a' := ?_) #[tr,tr,tr,tr,tr,tr,tr,tr,tr,tr,tr,tr,tr,tr,tr,tr,tr,tr,tr,tr,tr,tr,tr,tr,tr,tr,tr,tr,tr,fa,fa,fa,fa] rfl rfl (any_of HT_.out (by kernel_rfl)) (fun _ _ _ h => h) (Or.inr ⟨by rfl, rfl⟩) ?_ ?_
       rotate_left
       ·simp only [sP]
        rfl
       refine pure_ (i := 29) (N := some 39) (v := undef) (a' := ?_) #[tr,tr,tr,tr,tr,tr,tr,tr,tr,tr,tr,tr,tr,tr,tr,tr,tr,tr,tr,tr,tr,tr,tr,tr,tr,tr,tr,tr,tr,tr,fa,fa,fa] rfl rfl (any_of HT_.out (by kernel_rfl)) (fun _ _ _ h => h) (Or.inr ⟨by rfl, rfl⟩) ?_ ?_
       rotate_left
       ·simp only [sP]
        rfl
       refine pure_ (i := 30) (N := some 40) (v := undef) (a' := ?_) #[tr,tr,tr,tr,tr,tr,tr,tr,tr,tr,tr,tr,tr,tr,tr,tr,tr,tr,tr,tr,tr,tr,tr,tr,tr,tr,tr,tr,tr,tr,tr,fa,fa] rfl rfl (any_of HT_.out (by kernel_rfl)) (fun _ _ _ h => h) (Or.inr ⟨by rfl, rfl⟩) ?_ ?_
       rotate_left
       ·simp only [sP]
        rfl
       refine pure_ (i := 31) (N := some 41) (v := undef) (a' := ?_) #[tr,tr,tr,tr,tr,tr,tr,tr,tr,tr,tr,tr,tr,tr,tr,tr,tr,tr,tr,tr,tr,tr,tr,tr,tr,tr,tr,tr,tr,tr,tr,tr,fa] rfl rfl (any_of HT_.out (by kernel_rfl)) (fun _ _ _ h => h) (Or.inr ⟨by rfl, rfl⟩) ?_ ?_
       rotate_left
       ·simp only [sP]
        rfl
       refine pure_ (i := 32) (N := some 42) (v := ?_) (a' := ?_) #[tr,tr,tr,tr,tr,tr,tr,tr,tr,tr,tr,tr,tr,tr,tr,tr,tr,tr,tr,tr,tr,tr,tr,tr,tr,tr,tr,tr,tr,tr,tr,tr,tr] rfl rfl (any_of HT_.out (by kernel_rfl)) (fun _ _ _ h => h) (Or.inl ⟨by rfl, ?_⟩) ?_ ?_
       rotate_left
       ·intro w'
        go_simp
        with_reducible rfl
       rotate_left
       ·simp only [sP]
        rfl
       refine done_ (done_of HT_.out (by kernel_rfl)) ?_
       try go_wp2
       go_meet
       case rel => exact ⟨_, (true), rS, H', ⟨by first | omega | exact Nat.le_refl _⟩, ⟨bf0 BK125.out⟩, ⟨bw1 HB.out GE125.out⟩⟩
     ·rw [if_neg c13] at H
      exact absurd H (by simp)
  ·replace c6 := Bool.eq_false_iff.mpr c6
   subst c6
   have H1 : (line_Check.j0 k l1 true a0_0 a0_1) = some r := by rw [if_neg (show ¬ (false = true) by decide)] at H; exact H
   clear H
   have H := H1
   clear H1
   have H' := Ax H
   clear H
   try go_wp2
   replace BK125 := Ax (blk_drew BK125.out)
   replace HB := Ax (below_drew1 HB.out)
   refine start_ (n := 33) (S := fun w' => w'.cell? ⟨gb125, 0, none⟩ = some (.int .i64 a0_0) ∧ w'.cell? ⟨gb125, 1, none⟩ = some (.int .i64 a0_1)) (ds := []) #[fa,fa,fa,fa,fa,fa,fa,fa,fa,fa,fa,fa,fa,fa,fa,fa,fa,fa,fa,fa,fa,fa,fa,fa,fa,fa,fa,fa,fa,fa,fa,fa,fa] (by kernel_rfl) rfl rfl ⟨(blk_cell BK125.out 0).trans rfl, (blk_cell BK125.out 1).trans rfl⟩ (fun hHeld => ?_); refine with_tabW line_Check.tab2 line_Check.bits2 (fun HT_ HW_ => ?_)
   generalize w4.drew = w22 at BK125 HB hHeld ⊢
   refine take_ (i := 0) (N := some 10) (v := ?_) (a' := ?_) #[tr,fa,fa,fa,fa,fa,fa,fa,fa,fa,fa,fa,fa,fa,fa,fa,fa,fa,fa,fa,fa,fa,fa,fa,fa,fa,fa,fa,fa,fa,fa,fa,fa] rfl rfl (take_ofW HT_.out HW_.out (by kernel_rfl)) (fun _ _ _ h => h) (Or.inl ⟨by rfl, ?_⟩) hHeld ?_ ?_
   rotate_left
   ·rintro w' ⟨s0, s1⟩
    go_simp
    with_reducible rfl
   rotate_left
   ·simp only [sP]
    rfl
   refine one_ (i := 1) (N := some 11) #[tr,tr,fa,fa,fa,fa,fa,fa,fa,fa,fa,fa,fa,fa,fa,fa,fa,fa,fa,fa,fa,fa,fa,fa,fa,fa,fa,fa,fa,fa,fa,fa,fa] rfl rfl (one_of HT_.out (by kernel_rfl)) (by decide) (fun K hK => ?_)
   refine goes_ Try.func26 (by kernel_rfl) rfl #[.agg #[.int .i64 a0_0, .int .i64 a0_1]] (by rfl) rfl rfl gS ?_
   with_reducible refine (line_window.calls k a0_0 a0_1 false _ A5.out).mono ?_
   rintro e w23 ⟨rfl, hb⟩
   refine ⟨_, rfl, ?_⟩
   replace BK125 := Bx0 BK125 hb
   replace HB := Bs1 HB hb GE125.out
   (try clear hb)
   refine hK.out _ _ ⟨(blk_cell BK125.out 0).trans rfl, (blk_cell BK125.out 1).trans rfl⟩ (fun hHeld => ?_)
   clear hK K
   refine norm_ (a' := ?_) ?_ ?_
   rotate_left
   ·show Act.put _ (some 11) _ = _
    simp only [sP]
    rfl
   refine pure_ (i := 2) (N := some 12) (v := ?_) (a' := ?_) #[tr,tr,tr,fa,fa,fa,fa,fa,fa,fa,fa,fa,fa,fa,fa,fa,fa,fa,fa,fa,fa,fa,fa,fa,fa,fa,fa,fa,fa,fa,fa,fa,fa] rfl rfl (any_of HT_.out (by kernel_rfl)) (fun _ _ _ h => h) (Or.inl ⟨by rfl, ?_⟩) ?_ ?_
   rotate_left
   ·intro w'
    go_simp
    with_reducible rfl
   rotate_left
   ·simp only [sP]
    rfl
   refine pure_ (i := 3) (N := some 13) (v := ?_) (a' := ?_) #[tr,tr,tr,tr,fa,fa,fa,fa,fa,fa,fa,fa,fa,fa,fa,fa,fa,fa,fa,fa,fa,fa,fa,fa,fa,fa,fa,fa,fa,fa,fa,fa,fa] rfl rfl (any_of HT_.out (by kernel_rfl)) (fun _ _ _ h => h) (Or.inl ⟨by rfl, ?_⟩) ?_ ?_
   rotate_left
   ·intro w'
    go_simp
    with_reducible rfl
   rotate_left
   ·simp only [sP]
    rfl
   refine pure_ (i := 4) (N := some 14) (v := undef) (a' := ?_) #[tr,tr,tr,tr,tr,fa,fa,fa,fa,fa,fa,fa,fa,fa,fa,fa,fa,fa,fa,fa,fa,fa,fa,fa,fa,fa,fa,fa,fa,fa,fa,fa,fa] rfl rfl (any_of HT_.out (by kernel_rfl)) (fun _ _ _ h => h) (Or.inr ⟨by rfl, rfl⟩) ?_ ?_
   rotate_left
   ·simp only [sP]
    rfl
   refine pure_ (i := 5) (N := some 15) (v := undef) (a' := ?_) #[tr,tr,tr,tr,tr,tr,fa,fa,fa,fa,fa,fa,fa,fa,fa,fa,fa,fa,fa,fa,fa,fa,fa,fa,fa,fa,fa,fa,fa,fa,fa,fa,fa] rfl rfl (any_of HT_.out (by kernel_rfl)) (fun _ _ _ h => h) (Or.inr ⟨by rfl, rfl⟩) ?_ ?_
   rotate_left
   ·simp only [sP]
    rfl
   refine pure_ (i := 6) (N := some 16) (v := ?_) (a' := ?_) #[tr,tr,tr,tr,tr,tr,tr,fa,fa,fa,fa,fa,fa,fa,fa,fa,fa,fa,fa,fa,fa,fa,fa,fa,fa,fa,fa,fa,fa,fa,fa,fa,fa] rfl rfl (any_of HT_.out (by kernel_rfl)) (fun _ _ _ h => h) (Or.inl ⟨by rfl, ?_⟩) ?_ ?_
   rotate_left
   ·intro w'
    go_simp
    with_reducible rfl
   rotate_left
   ·simp only [sP]
    rfl
   refine pure_ (i := 7) (N := some 17) (v := ?_) (a' := ?_) #[tr,tr,tr,tr,tr,tr,tr,tr,fa,fa,fa,fa,fa,fa,fa,fa,fa,fa,fa,fa,fa,fa,fa,fa,fa,fa,fa,fa,fa,fa,fa,fa,fa] rfl rfl (any_of HT_.out (by kernel_rfl)) (fun _ _ _ h => h) (Or.inl ⟨by rfl, ?_⟩) ?_ ?_
   rotate_left
   ·intro w'
    go_simp
    with_reducible rfl
   rotate_left
   ·simp only [sP]
    rfl
   refine pure_ (i := 8) (N := some 18) (v := undef) (a' := ?_) #[tr,tr,tr,tr,tr,tr,tr,tr,tr,fa,fa,fa,fa,fa,fa,fa,fa,fa,fa,fa,fa,fa,fa,fa,fa,fa,fa,fa,fa,fa,fa,fa,fa] rfl rfl (any_of HT_.out (by kernel_rfl)) (fun _ _ _ h => h) (Or.inr ⟨by rfl, rfl⟩) ?_ ?_
   rotate_left
   ·simp only [sP]
    rfl
   refine pure_ (i := 9) (N := some 19) (v := undef) (a' := ?_) #[tr,tr,tr,tr,tr,tr,tr,tr,tr,tr,fa,fa,fa,fa,fa,fa,fa,fa,fa,fa,fa,fa,fa,fa,fa,fa,fa,fa,fa,fa,fa,fa,fa] rfl rfl (any_of HT_.out (by kernel_rfl)) (fun _ _ _ h => h) (Or.inr ⟨by rfl, rfl⟩) ?_ ?_
   rotate_left
   ·simp only [sP]
    rfl
   refine pure_ (i := 10) (N := some 20) (v := ?_) (a' := ?_) #[tr,tr,tr,tr,tr,tr,tr,tr,tr,tr,tr,fa,fa,fa,fa,fa,fa,fa,fa,fa,fa,fa,fa,fa,fa,fa,fa,fa,fa,fa,fa,fa,fa] rfl rfl (any_of HT_.out (by kernel_rfl)) (fun _ _ _ h => h) (Or.inl ⟨by rfl, ?_⟩) ?_ ?_
   rotate_left
   ·intro w'
    go_simp
    with_reducible rfl
   rotate_left
   ·simp only [sP]
    rfl
   refine pure_ (i := 11) (N := some 21) (v := ?_) (a' := ?_) #[tr,tr,tr,tr,tr,tr,tr,tr,tr,tr,tr,tr,fa,fa,fa,fa,fa,fa,fa,fa,fa,fa,fa,fa,fa,fa,fa,fa,fa,fa,fa,fa,fa] rfl rfl (any_of HT_.out (by kernel_rfl)) (fun _ _ _ h => h) (Or.inl ⟨by rfl, ?_⟩) ?_ ?_
   rotate_left
   ·intro w'
    go_simp
    with_reducible rfl
   rotate_left
   ·simp only [sP]
    rfl
   refine pure_ (i := 12) (N := some 22) (v := undef) (a' := ?_) #[tr,tr,tr,tr,tr,tr,tr,tr,tr,tr,tr,tr,tr,fa,fa,fa,fa,fa,fa,fa,fa,fa,fa,fa,fa,fa,fa,fa,fa,fa,fa,fa,fa] rfl rfl (any_of HT_.out (by kernel_rfl)) (fun _ _ _ h => h) (Or.inr ⟨by rfl, rfl⟩) ?_ ?_
   rotate_left
   ·simp only [sP]
    rfl
   refine pure_ (i := 13) (N := some 23) (v := undef) (a' := ?_) #[tr,tr,tr,tr,tr,tr,tr,tr,tr,tr,tr,tr,tr,tr,fa,fa,fa,fa,fa,fa,fa,fa,fa,fa,fa,fa,fa,fa,fa,fa,fa,fa,fa] rfl rfl (any_of HT_.out (by kernel_rfl)) (fun _ _ _ h => h) (Or.inr ⟨by rfl, rfl⟩) ?_ ?_
   rotate_left
   ·simp only [sP]
    rfl
   refine pure_ (i := 14) (N := some 24) (v := undef) (a' := ?_) #[tr,tr,tr,tr,tr,tr,tr,tr,tr,tr,tr,tr,tr,tr,tr,fa,fa,fa,fa,fa,fa,fa,fa,fa,fa,fa,fa,fa,fa,fa,fa,fa,fa] rfl rfl (any_of HT_.out (by kernel_rfl)) (fun _ _ _ h => h) (Or.inr ⟨by rfl, rfl⟩) ?_ ?_
   rotate_left
   ·simp only [sP]
    rfl
   refine pure_ (i := 15) (N := some 25) (v := undef) (a' := ?_) #[tr,tr,tr,tr,tr,tr,tr,tr,tr,tr,tr,tr,tr,tr,tr,tr,fa,fa,fa,fa,fa,fa,fa,fa,fa,fa,fa,fa,fa,fa,fa,fa,fa] rfl rfl (any_of HT_.out (by kernel_rfl)) (fun _ _ _ h => h) (Or.inr ⟨by rfl, rfl⟩) ?_ ?_
   rotate_left
   ·simp only [sP]
    rfl
   refine pure_ (i := 16) (N := some 26) (v := undef) (a' := ?_) #[tr,tr,tr,tr,tr,tr,tr,tr,tr,tr,tr,tr,tr,tr,tr,tr,tr,fa,fa,fa,fa,fa,fa,fa,fa,fa,fa,fa,fa,fa,fa,fa,fa] rfl rfl (any_of HT_.out (by kernel_rfl)) (fun _ _ _ h => h) (Or.inr ⟨by rfl, rfl⟩) ?_ ?_
   rotate_left
   ·simp only [sP]
    rfl
   refine pure_ (i := 17) (N := some 27) (v := undef) (a' := ?_) #[tr,tr,tr,tr,tr,tr,tr,tr,tr,tr,tr,tr,tr,tr,tr,tr,tr,tr,fa,fa,fa,fa,fa,fa,fa,fa,fa,fa,fa,fa,fa,fa,fa] rfl rfl (any_of HT_.out (by kernel_rfl)) (fun _ _ _ h => h) (Or.inr ⟨by rfl, rfl⟩) ?_ ?_
   rotate_left
   ·simp only [sP]
    rfl
   refine pure_ (i := 18) (N := some 28) (v := undef) (a' := ?_) #[tr,tr,tr,tr,tr,tr,tr,tr,tr,tr,tr,tr,tr,tr,tr,tr,tr,tr,tr,fa,fa,fa,fa,fa,fa,fa,fa,fa,fa,fa,fa,fa,fa] rfl rfl (any_of HT_.out (by kernel_rfl)) (fun _ _ _ h => h) (Or.inr ⟨by rfl, rfl⟩) ?_ ?_
   rotate_left
   ·simp only [sP]
    rfl
   refine pure_ (i := 19) (N := some 29) (v := undef) (a' := ?_) #[tr,tr,tr,tr,tr,tr,tr,tr,tr,tr,tr,tr,tr,tr,tr,tr,tr,tr,tr,tr,fa,fa,fa,fa,fa,fa,fa,fa,fa,fa,fa,fa,fa] rfl rfl (any_of HT_.out (by kernel_rfl)) (fun _ _ _ h => h) (Or.inr ⟨by rfl, rfl⟩) ?_ ?_
   rotate_left
   ·simp only [sP]
    rfl
   refine pure_ (i := 20) (N := some 30) (v := ?_) (a' := ?_) #[tr,tr,tr,tr,tr,tr,tr,tr,tr,tr,tr,tr,tr,tr,tr,tr,tr,tr,tr,tr,tr,fa,fa,fa,fa,fa,fa,fa,fa,fa,fa,fa,fa] rfl rfl (any_of HT_.out (by kernel_rfl)) (fun _ _ _ h => h) (Or.inl ⟨by rfl, ?_⟩) ?_ ?_
   rotate_left
   ·intro w'
    go_simp
    with_reducible rfl
   rotate_left
   ·simp only [sP]
    rfl
   refine pure_ (i := 21) (N := some 31) (v := ?_) (a' := ?_) #[tr,tr,tr,tr,tr,tr,tr,tr,tr,tr,tr,tr,tr,tr,tr,tr,tr,tr,tr,tr,tr,tr,fa,fa,fa,fa,fa,fa,fa,fa,fa,fa,fa] rfl rfl (any_of HT_.out (by kernel_rfl)) (fun _ _ _ h => h) (Or.inl ⟨by rfl, ?_⟩) ?_ ?_
   rotate_left
   ·intro w'
    go_simp
    with_reducible rfl
   rotate_left
   ·simp only [sP]
    rfl
   refine pure_ (i := 22) (N := some 32) (v := undef) (a' := ?_) #[tr,tr,tr,tr,tr,tr,tr,tr,tr,tr,tr,tr,tr,tr,tr,tr,tr,tr,tr,tr,tr,tr,tr,fa,fa,fa,fa,fa,fa,fa,fa,fa,fa] rfl rfl (any_of HT_.out (by kernel_rfl)) (fun _ _ _ h => h) (Or.inr ⟨by rfl, rfl⟩) ?_ ?_
   rotate_left
   ·simp only [sP]
    rfl
   refine pure_ (i := 23) (N := some 33) (v := undef) (a' := ?_) #[tr,tr,tr,tr,tr,tr,tr,tr,tr,tr,tr,tr,tr,tr,tr,tr,tr,tr,tr,tr,tr,tr,tr,tr,fa,fa,fa,fa,fa,fa,fa,fa,fa] rfl rfl (any_of HT_.out (by kernel_rfl)) (fun _ _ _ h => h) (Or.inr ⟨by rfl, rfl⟩) ?_ ?_
   rotate_left
   ·simp only [sP]
    rfl
   refine pure_ (i := 24) (N := some 34) (v := undef) (a' := ?_) #[tr,tr,tr,tr,tr,tr,tr,tr,tr,tr,tr,tr,tr,tr,tr,tr,tr,tr,tr,tr,tr,tr,tr,tr,tr,fa,fa,fa,fa,fa,fa,fa,fa] rfl rfl (any_of HT_.out (by kernel_rfl)) (fun _ _ _ h => h) (Or.inr ⟨by rfl, rfl⟩) ?_ ?_
   rotate_left
   ·simp only [sP]
    rfl
   refine pure_ (i := 25) (N := some 35) (v := undef) (a' := ?_) #[tr,tr,tr,tr,tr,tr,tr,tr,tr,tr,tr,tr,tr,tr,tr,tr,tr,tr,tr,tr,tr,tr,tr,tr,tr,tr,fa,fa,fa,fa,fa,fa,fa] rfl rfl (any_of HT_.out (by kernel_rfl)) (fun _ _ _ h => h) (Or.inr ⟨by rfl, rfl⟩) ?_ ?_
   rotate_left
   ·simp only [sP]
    rfl
   refine pure_ (i := 26) (N := some 36) (v := undef) (a' := ?_) #[tr,tr,tr,tr,tr,tr,tr,tr,tr,tr,tr,tr,tr,tr,tr,tr,tr,tr,tr,tr,tr,tr,tr,tr,tr,tr,tr,fa,fa,fa,fa,fa,fa] rfl rfl (any_of HT_.out (by kernel_rfl)) (fun _ _ _ h => h) (Or.inr ⟨by rfl, rfl⟩) ?_ ?_
   rotate_left
   ·simp only [sP]
    rfl
   refine pure_ (i := 27) (N := some 37) (v := undef) (a' := ?_) #[tr,tr,tr,tr,tr,tr,tr,tr,tr,tr,tr,tr,tr,tr,tr,tr,tr,tr,tr,tr,tr,tr,tr,tr,tr,tr,tr,tr,fa,fa,fa,fa,fa] rfl rfl (any_of HT_.out (by kernel_rfl)) (fun _ _ _ h => h) (Or.inr ⟨by rfl, rfl⟩) ?_ ?_
   rotate_left
   ·simp only [sP]
    rfl
   refine pure_ (i := 28) (N := some 38) (v := undef) (a' := ?_) #[tr,tr,tr,tr,tr,tr,tr,tr,tr,tr,tr,tr,tr,tr,tr,tr,tr,tr,tr,tr,tr,tr,tr,tr,tr,tr,tr,tr,tr,fa,fa,fa,fa] rfl rfl (any_of HT_.out (by kernel_rfl)) (fun _ _ _ h => h) (Or.inr ⟨by rfl, rfl⟩) ?_ ?_
   rotate_left
   ·simp only [sP]
    rfl
   refine pure_ (i := 29) (N := some 39) (v := undef) (a' := ?_) #[tr,tr,tr,tr,tr,tr,tr,tr,tr,tr,tr,tr,tr,tr,tr,tr,tr,tr,tr,tr,tr,tr,tr,tr,tr,tr,tr,tr,tr,tr,fa,fa,fa] rfl rfl (any_of HT_.out (by kernel_rfl)) (fun _ _ _ h => h) (Or.inr ⟨by rfl, rfl⟩) ?_ ?_
   rotate_left
   ·simp only [sP]
    rfl
   refine pure_ (i := 30) (N := some 40) (v := undef) (a' := ?_) #[tr,tr,tr,tr,tr,tr,tr,tr,tr,tr,tr,tr,tr,tr,tr,tr,tr,tr,tr,tr,tr,tr,tr,tr,tr,tr,tr,tr,tr,tr,tr,fa,fa] rfl rfl (any_of HT_.out (by kernel_rfl)) (fun _ _ _ h => h) (Or.inr ⟨by rfl, rfl⟩) ?_ ?_
   rotate_left
   ·simp only [sP]
    rfl
   refine pure_ (i := 31) (N := some 41) (v := undef) (a' := ?_) #[tr,tr,tr,tr,tr,tr,tr,tr,tr,tr,tr,tr,tr,tr,tr,tr,tr,tr,tr,tr,tr,tr,tr,tr,tr,tr,tr,tr,tr,tr,tr,tr,fa] rfl rfl (any_of HT_.out (by kernel_rfl)) (fun _ _ _ h => h) (Or.inr ⟨by rfl, rfl⟩) ?_ ?_
   rotate_left
   ·simp only [sP]
    rfl
   refine pure_ (i := 32) (N := some 42) (v := ?_) (a' := ?_) #[tr,tr,tr,tr,tr,tr,tr,tr,tr,tr,tr,tr,tr,tr,tr,tr,tr,tr,tr,tr,tr,tr,tr,tr,tr,tr,tr,tr,tr,tr,tr,tr,tr] rfl rfl (any_of HT_.out (by kernel_rfl)) (fun _ _ _ h => h) (Or.inl ⟨by rfl, ?_⟩) ?_ ?_
   rotate_left
   ·intro w'
    go_simp
    with_reducible rfl
   rotate_left
   ·simp only [sP]
    rfl
   refine done_ (done_of HT_.out (by kernel_rfl)) ?_
   try go_wp2
   go_meet
   case rel => exact ⟨_, (true), rS, H', ⟨by first | omega | exact Nat.le_refl _⟩, ⟨bf0 BK125.out⟩, ⟨bw1 HB.out GE125.out⟩⟩
 case rest =>
  clear HC3
  try clear c1
  try clear p1
  try clear q1
  try clear hx1
  try clear qi1
  try clear c2
  try clear p2
  try clear c6
  try clear p12
  try clear q12
  try clear hx12
  try clear qi12
  try clear c13
  try clear c14
  try clear c14b0
  try clear c14b1
  try clear c16
  try clear c17
  try clear hx127_0
  try clear hx127_1
  try clear hx127_2
  try clear hx127_3
  try clear p127
  try clear q127
  obtain ⟨kq, x42_2, rfl, HA, HJ2, BK125, HB⟩ := hcut
  cases kq with
  | zero => exact absurd HA.out (by simp [line_Check.j0])
  | succ kj2 =>
   have H := HA.out
   clear HA
   simp only [line_Check.j0] at H
   by_cases c24 : x42_2 = true
   ·subst c24
    have H1 : (some 2) = some r := by rw [if_pos rfl] at H; exact H
    clear H
    have H := H1
    clear H1
    obtain rfl := Option.some.inj H
    go_wp2
    go_ret
    exact ⟨eS, bw1 HB.out GE125.out⟩
   ·replace c24 := Bool.eq_false_iff.mpr c24
    subst c24
    have H1 : (line_Check.l0 kj2 l1 l1 (l1.length : Int) 0 a0_0 a0_1) = some r := by rw [if_neg (show ¬ (false = true) by decide)] at H; exact H
    clear H
    have H := H1
    clear H1
    have H' := Ax H
    clear H
    go_wp2
    go_loopg [45] kj2 (fun kq v45 w' => ∃ (x45_2 : Int), v45 = .int .i64 x45_2 ∧ Aside0 (line_Check.l0 kq l1 l1 (l1.length : Int) x45_2 a0_0 a0_1 = some r) ∧ Aside0 (kq ≤ kj2) ∧ Aside0 (w'.heap[gb125]? = some (.cells #[.int .i64 a0_0, .int .i64 a0_1] 23 (0, 0))) ∧ Aside0 (Below w.heap.size w w'))
    case atStart => exact ⟨(0), rS, H', ⟨Nat.le_refl _⟩, ⟨bf0 BK125.out⟩, ⟨bw1 HB.out GE125.out⟩⟩
    case round =>
     clear H'
     try clear c1
     try clear p1
     try clear q1
     try clear hx1
     try clear qi1
     try clear c2
     try clear p2
     try clear c6
     try clear p12
     try clear q12
     try clear hx12
     try clear qi12
     try clear c13
     try clear c14
     try clear c14b0
     try clear c14b1
     try clear c16
     try clear c17
     try clear c24
     try clear hx127_0
     try clear hx127_1
     try clear hx127_2
     try clear hx127_3
     try clear p1
     try clear p12
     try clear p127
     try clear p2
     try clear q1
     try clear q12
     try clear q127
     obtain ⟨x45_2, rfl, HA, HK2, BK125, HB⟩ := hrel
     cases gk with
     | zero => exact absurd HA.out (by simp [line_Check.l0])
     | succ k2 =>
      have H := HA.out
      clear HA
      simp only [line_Check.l0] at H
      by_cases c25 : x45_2 < (l1.length : Int)
      ·rw [if_pos c25] at H
       have c25b0 : decide (x45_2 < (l1.length : Int)) = true := decide_eq_true c25
       clear c25
       by_cases c26 : 0 ≤ x45_2
       ·rw [if_pos c26] at H
        have c26b0 : decide (0 ≤ x45_2) = true := decide_eq_true c26
        clear c26
        by_cases c27 : x45_2 < (l1.length : Int)
        ·rw [if_pos c27] at H
         have c27b0 : decide (x45_2 < (l1.length : Int)) = true := decide_eq_true c27
         clear c27
         have HC28 := Ax H
         clear H
         have p129 : 0 ≤ (x45_2 : Int) := of_decide_eq_true (by first | (with_reducible assumption) | assumption)
         have q129 : x45_2 < (l1.length : Int) := of_decide_eq_true (by first | (with_reducible assumption) | assumption)
         obtain ⟨ad129, e129, hx129_0, hx129_1, hx129_2, hx129_3⟩ := at_T52 HR1.out x45_2 p129 q129
         cases e129
         replace hx129_0 := (HB.out.cell (World.block_lt_of_cell? w _ hx129_0)).trans hx129_0
         replace hx129_1 := (HB.out.cell (World.block_lt_of_cell? w _ hx129_1)).trans hx129_1
         replace hx129_2 := (HB.out.cell (World.block_lt_of_cell? w _ hx129_2)).trans hx129_2
         replace hx129_3 := (HB.out.cell (World.block_lt_of_cell? w _ hx129_3)).trans hx129_3
         replace p129 := eq_true p129
         replace q129 := eq_true q129
         go_upto_region 7 with (first | ((with_reducible refine gate_dst (N := 7) rfl ?_); refine box_event ?hg (N := 7) ?hd (cs := #[.int .i64 0, .int .i64 0, .int .u8 0, .int .i64 0]) (t := 52) ?hr ?_; (case hd => rfl); (case hg => rfl); (case hr => first | (go_simp; done) | (go_simp; rfl)); intro gb130 hg w29 hbox hb; have n0_ := Bx0 BK125 hb; have n1_ := Bs1 HB hb GE125.out; have n2_ := Ax (hbox); have n3_ := Gw1 HB hg GE125.out; have n4_ := Gw1 HB hg GE125.out; have n5_ := Nl0 BK125 hg; have n6_ := Nr0 BK125 hg; clear BK125; clear HB; have BK125 := n0_; have HB := n1_; have BK130 := n2_; have GW130 := n3_; have GE130 := n4_; have NB125_130 := n5_; have NB130_125 := n6_; clear n0_ n1_ n2_ n3_ n4_ n5_ n6_; clear hb hbox hg; have hnb30 := NB130_125.out; have hnc30 := NB125_130.out; obtain ⟨hcz31_0, hcz31_1, hcz31_2, hcz31_3, hfz31_0, hfz31_1, hfz31_2, hfz31_3⟩ := cl4 BK130))
         (try simp only [Act.put, List.setIfInBounds_toArray, List.set_cons_zero, List.set_cons_succ])
         go_cut [50] (fun v50 wc => ∃ (kq : Nat) (x50_27 : Bool), v50 = .bool x50_27 ∧ Aside0 (line_Check.j2 kq l1 x45_2 l1 (l1.length : Int) x45_2 x50_27 a0_0 a0_1 ((rd_T52 l1 x45_2).f0.f0) ((rd_T52 l1 x45_2).f0.f1) ((rd_T52 l1 x45_2).f1.f0) ((rd_T52 l1 x45_2).f1.f1) = some r) ∧ Aside0 (kq ≤ k2) ∧ Aside0 (wc.heap[gb125]? = some (.cells #[.int .i64 a0_0, .int .i64 a0_1] 23 (0, 0))) ∧ Aside0 (wc.heap[gb130]? = some (.cells #[.int .i64 ((rd_T52 l1 x45_2).f0.f0), .int .i64 ((rd_T52 l1 x45_2).f0.f1), .int .u8 ((rd_T52 l1 x45_2).f1.f0), .int .i64 ((rd_T52 l1 x45_2).f1.f1)] 52 (0, 0))) ∧ Aside0 (Below w.heap.size w wc))
         case first =>
          have H := HC28.out
          clear HC28
          replace H := Option.bind_eq_some_iff.mp H
          obtain ⟨t131, A320, H⟩ := H
          replace H : (if t131 = true then (if ((rd_T52 l1 x45_2).f0.f1) < ((rd_T52 l1 x45_2).f0.f0) then (line_Check.j2 k2 l1 x45_2 l1 (l1.length : Int) x45_2 true a0_0 a0_1 ((rd_T52 l1 x45_2).f0.f0) ((rd_T52 l1 x45_2).f0.f1) ((rd_T52 l1 x45_2).f1.f0) ((rd_T52 l1 x45_2).f1.f1)) else (line_Check.j2 k2 l1 x45_2 l1 (l1.length : Int) x45_2 (decide (((rd_T52 l1 x45_2).f0.f1) > a0_1)) a0_0 a0_1 ((rd_T52 l1 x45_2).f0.f0) ((rd_T52 l1 x45_2).f0.f1) ((rd_T52 l1 x45_2).f1.f0) ((rd_T52 l1 x45_2).f1.f1))) else (line_Check.j2 k2 l1 x45_2 l1 (l1.length : Int) x45_2 true a0_0 a0_1 ((rd_T52 l1 x45_2).f0.f0) ((rd_T52 l1 x45_2).f0.f1) ((rd_T52 l1 x45_2).f1.f0) ((rd_T52 l1 x45_2).f1.f1))) = some r := H
          have A32 := Ax A320
          clear A320
          by_cases c33 : t131 = true
          ·subst c33
           have H1 : (if ((rd_T52 l1 x45_2).f0.f1) < ((rd_T52 l1 x45_2).f0.f0) then (line_Check.j2 k2 l1 x45_2 l1 (l1.length : Int) x45_2 true a0_0 a0_1 ((rd_T52 l1 x45_2).f0.f0) ((rd_T52 l1 x45_2).f0.f1) ((rd_T52 l1 x45_2).f1.f0) ((rd_T52 l1 x45_2).f1.f1)) else (line_Check.j2 k2 l1 x45_2 l1 (l1.length : Int) x45_2 (decide (((rd_T52 l1 x45_2).f0.f1) > a0_1)) a0_0 a0_1 ((rd_T52 l1 x45_2).f0.f0) ((rd_T52 l1 x45_2).f0.f1) ((rd_T52 l1 x45_2).f1.f0) ((rd_T52 l1 x45_2).f1.f1))) = some r := by rw [if_pos rfl] at H; exact H
           clear H
           have H := H1
           clear H1
           by_cases c34 : ((rd_T52 l1 x45_2).f0.f1) < ((rd_T52 l1 x45_2).f0.f0)
           ·rw [if_pos c34] at H
            have c34b0 : decide (((rd_T52 l1 x45_2).f0.f1) < ((rd_T52 l1 x45_2).f0.f0)) = true := decide_eq_true c34
            clear c34
            (first | rw [c34b0] | (simp only [i64_w, i32_w]; rw [c34b0]) | skip)
            have H' := Ax H
            clear H
            have hnb35 := NB130_125.out
            have hnc35 := NB125_130.out
            obtain ⟨hcz36_0, hcz36_1, hcz36_2, hcz36_3, hfz36_0, hfz36_1, hfz36_2, hfz36_3⟩ := cl4 BK130
            go_wp2_with (first | ((with_reducible refine gate_callee (f := 27) rfl ?_); refine goesL_ (some 53) rfl rfl Try.func27 (by kernel_rfl) rfl #[.agg #[.int .u8 ((rd_T52 l1 x45_2).f1.f0), .int .i64 ((rd_T52 l1 x45_2).f1.f1)]] rfl gS ?_; (with_reducible refine (line_right.calls ((rd_T52 l1 x45_2).f1.f0) ((rd_T52 l1 x45_2).f1.f1) true _ A32.out).mono ?_); rintro e w37 ⟨rfl, hb⟩; refine ⟨_, rfl, ?_⟩; have n0_ := Bx4 BK125 hb NB125_130.out NB125_130.out NB125_130.out NB125_130.out; have n1_ := Ax (blk_below (g := gb130) (o := .cells #[.int .i64 ((rd_T52 l1 x45_2).f0.f0), .int .i64 ((rd_T52 l1 x45_2).f0.f1), .int .u8 ((rd_T52 l1 x45_2).f1.f0), .int .i64 ((rd_T52 l1 x45_2).f1.f1)] 52 (0, 0)) (by (with_reducible repeat (first | refine blk_drewN ?_ _ | refine blk_drew ?_ | refine blk_alloc ?_ _)); refine blk_put (cs := #[.int .i64 ((rd_T52 l1 x45_2).f0.f0), .int .i64 ((rd_T52 l1 x45_2).f0.f1), .int .u8 ((rd_T52 l1 x45_2).f1.f0), .int .i64 0]) ?_ 3 _ rfl; (with_reducible repeat (first | refine blk_drewN ?_ _ | refine blk_drew ?_ | refine blk_alloc ?_ _)); refine blk_put (cs := #[.int .i64 ((rd_T52 l1 x45_2).f0.f0), .int .i64 ((rd_T52 l1 x45_2).f0.f1), .int .u8 0, .int .i64 0]) ?_ 2 _ rfl; (with_reducible repeat (first | refine blk_drewN ?_ _ | refine blk_drew ?_ | refine blk_alloc ?_ _)); refine blk_put (cs := #[.int .i64 ((rd_T52 l1 x45_2).f0.f0), .int .i64 0, .int .u8 0, .int .i64 0]) ?_ 1 _ rfl; (with_reducible repeat (first | refine blk_drewN ?_ _ | refine blk_drew ?_ | refine blk_alloc ?_ _)); refine blk_put (cs := #[.int .i64 0, .int .i64 0, .int .u8 0, .int .i64 0]) ?_ 0 _ rfl; (with_reducible repeat (first | refine blk_drewN ?_ _ | refine blk_drew ?_ | refine blk_alloc ?_ _)); exact BK130.out) hb); have n2_ := Bs2 HB hb GE125.out GE130.out; clear BK125; clear BK130; clear HB; have BK125 := n0_; have BK130 := n1_; have HB := n2_; clear n0_ n1_ n2_; (try clear hb); obtain ⟨hcz38_0, hcz38_1, hcz38_2, hcz38_3, hfz38_0, hfz38_1, hfz38_2, hfz38_3⟩ := cl4 BK130))
            go_meet
            case rel => exact ⟨_, (true), rS, H', ⟨by have := HJ2.out; have := HK2.out; first | omega | exact Nat.le_refl _⟩, ⟨bf0 BK125.out⟩, ⟨bf0 BK130.out⟩, ⟨bw2 HB.out GE125.out GE130.out⟩⟩
           ·rw [if_neg c34] at H
            have c34b0 : decide (((rd_T52 l1 x45_2).f0.f1) < ((rd_T52 l1 x45_2).f0.f0)) = false := decide_eq_false c34
            clear c34
            (first | rw [c34b0] | (simp only [i64_w, i32_w]; rw [c34b0]) | skip)
            have H' := Ax H
            clear H
            have hnb39 := NB130_125.out
            have hnc39 := NB125_130.out
            obtain ⟨hcz40_0, hcz40_1, hcz40_2, hcz40_3, hfz40_0, hfz40_1, hfz40_2, hfz40_3⟩ := cl4 BK130
            go_wp2_with (first | ((with_reducible refine gate_callee (f := 27) rfl ?_); refine goesL_ (some 53) rfl rfl Try.func27 (by kernel_rfl) rfl #[.agg #[.int .u8 ((rd_T52 l1 x45_2).f1.f0), .int .i64 ((rd_T52 l1 x45_2).f1.f1)]] rfl gS ?_; (with_reducible refine (line_right.calls ((rd_T52 l1 x45_2).f1.f0) ((rd_T52 l1 x45_2).f1.f1) true _ A32.out).mono ?_); rintro e w41 ⟨rfl, hb⟩; refine ⟨_, rfl, ?_⟩; have n0_ := Bx4 BK125 hb NB125_130.out NB125_130.out NB125_130.out NB125_130.out; have n1_ := Ax (blk_below (g := gb130) (o := .cells #[.int .i64 ((rd_T52 l1 x45_2).f0.f0), .int .i64 ((rd_T52 l1 x45_2).f0.f1), .int .u8 ((rd_T52 l1 x45_2).f1.f0), .int .i64 ((rd_T52 l1 x45_2).f1.f1)] 52 (0, 0)) (by (with_reducible repeat (first | refine blk_drewN ?_ _ | refine blk_drew ?_ | refine blk_alloc ?_ _)); refine blk_put (cs := #[.int .i64 ((rd_T52 l1 x45_2).f0.f0), .int .i64 ((rd_T52 l1 x45_2).f0.f1), .int .u8 ((rd_T52 l1 x45_2).f1.f0), .int .i64 0]) ?_ 3 _ rfl; (with_reducible repeat (first | refine blk_drewN ?_ _ | refine blk_drew ?_ | refine blk_alloc ?_ _)); refine blk_put (cs := #[.int .i64 ((rd_T52 l1 x45_2).f0.f0), .int .i64 ((rd_T52 l1 x45_2).f0.f1), .int .u8 0, .int .i64 0]) ?_ 2 _ rfl; (with_reducible repeat (first | refine blk_drewN ?_ _ | refine blk_drew ?_ | refine blk_alloc ?_ _)); refine blk_put (cs := #[.int .i64 ((rd_T52 l1 x45_2).f0.f0), .int .i64 0, .int .u8 0, .int .i64 0]) ?_ 1 _ rfl; (with_reducible repeat (first | refine blk_drewN ?_ _ | refine blk_drew ?_ | refine blk_alloc ?_ _)); refine blk_put (cs := #[.int .i64 0, .int .i64 0, .int .u8 0, .int .i64 0]) ?_ 0 _ rfl; (with_reducible repeat (first | refine blk_drewN ?_ _ | refine blk_drew ?_ | refine blk_alloc ?_ _)); exact BK130.out) hb); have n2_ := Bs2 HB hb GE125.out GE130.out; clear BK125; clear BK130; clear HB; have BK125 := n0_; have BK130 := n1_; have HB := n2_; clear n0_ n1_ n2_; (try clear hb); obtain ⟨hcz42_0, hcz42_1, hcz42_2, hcz42_3, hfz42_0, hfz42_1, hfz42_2, hfz42_3⟩ := cl4 BK130; obtain ⟨hcz43_0, hcz43_1, hfz43_0, hfz43_1⟩ := cl2 BK125))
            go_meet
            case rel => exact ⟨_, (decide (((rd_T52 l1 x45_2).f0.f1) > a0_1)), rS, H', ⟨by have := HJ2.out; have := HK2.out; first | omega | exact Nat.le_refl _⟩, ⟨bf0 BK125.out⟩, ⟨bf0 BK130.out⟩, ⟨bw2 HB.out GE125.out GE130.out⟩⟩
          ·replace c33 := Bool.eq_false_iff.mpr c33
           subst c33
           have H1 : (line_Check.j2 k2 l1 x45_2 l1 (l1.length : Int) x45_2 true a0_0 a0_1 ((rd_T52 l1 x45_2).f0.f0) ((rd_T52 l1 x45_2).f0.f1) ((rd_T52 l1 x45_2).f1.f0) ((rd_T52 l1 x45_2).f1.f1)) = some r := by rw [if_neg (show ¬ (false = true) by decide)] at H; exact H
           clear H
           have H := H1
           clear H1
           have H' := Ax H
           clear H
           have hnb44 := NB130_125.out
           have hnc44 := NB125_130.out
           obtain ⟨hcz45_0, hcz45_1, hcz45_2, hcz45_3, hfz45_0, hfz45_1, hfz45_2, hfz45_3⟩ := cl4 BK130
           go_wp2_with (first | ((with_reducible refine gate_callee (f := 27) rfl ?_); refine goesL_ (some 53) rfl rfl Try.func27 (by kernel_rfl) rfl #[.agg #[.int .u8 ((rd_T52 l1 x45_2).f1.f0), .int .i64 ((rd_T52 l1 x45_2).f1.f1)]] rfl gS ?_; (with_reducible refine (line_right.calls ((rd_T52 l1 x45_2).f1.f0) ((rd_T52 l1 x45_2).f1.f1) false _ A32.out).mono ?_); rintro e w46 ⟨rfl, hb⟩; refine ⟨_, rfl, ?_⟩; have n0_ := Bx4 BK125 hb NB125_130.out NB125_130.out NB125_130.out NB125_130.out; have n1_ := Ax (blk_below (g := gb130) (o := .cells #[.int .i64 ((rd_T52 l1 x45_2).f0.f0), .int .i64 ((rd_T52 l1 x45_2).f0.f1), .int .u8 ((rd_T52 l1 x45_2).f1.f0), .int .i64 ((rd_T52 l1 x45_2).f1.f1)] 52 (0, 0)) (by (with_reducible repeat (first | refine blk_drewN ?_ _ | refine blk_drew ?_ | refine blk_alloc ?_ _)); refine blk_put (cs := #[.int .i64 ((rd_T52 l1 x45_2).f0.f0), .int .i64 ((rd_T52 l1 x45_2).f0.f1), .int .u8 ((rd_T52 l1 x45_2).f1.f0), .int .i64 0]) ?_ 3 _ rfl; (with_reducible repeat (first | refine blk_drewN ?_ _ | refine blk_drew ?_ | refine blk_alloc ?_ _)); refine blk_put (cs := #[.int .i64 ((rd_T52 l1 x45_2).f0.f0), .int .i64 ((rd_T52 l1 x45_2).f0.f1), .int .u8 0, .int .i64 0]) ?_ 2 _ rfl; (with_reducible repeat (first | refine blk_drewN ?_ _ | refine blk_drew ?_ | refine blk_alloc ?_ _)); refine blk_put (cs := #[.int .i64 ((rd_T52 l1 x45_2).f0.f0), .int .i64 0, .int .u8 0, .int .i64 0]) ?_ 1 _ rfl; (with_reducible repeat (first | refine blk_drewN ?_ _ | refine blk_drew ?_ | refine blk_alloc ?_ _)); refine blk_put (cs := #[.int .i64 0, .int .i64 0, .int .u8 0, .int .i64 0]) ?_ 0 _ rfl; (with_reducible repeat (first | refine blk_drewN ?_ _ | refine blk_drew ?_ | refine blk_alloc ?_ _)); exact BK130.out) hb); have n2_ := Bs2 HB hb GE125.out GE130.out; clear BK125; clear BK130; clear HB; have BK125 := n0_; have BK130 := n1_; have HB := n2_; clear n0_ n1_ n2_; (try clear hb)))
           go_meet
           case rel => exact ⟨_, (true), rS, H', ⟨by have := HJ2.out; have := HK2.out; first | omega | exact Nat.le_refl _⟩, ⟨bf0 BK125.out⟩, ⟨bf0 BK130.out⟩, ⟨bw2 HB.out GE125.out GE130.out⟩⟩
         case rest =>
          clear HC28
          try clear c1
          try clear p1
          try clear q1
          try clear hx1
          try clear qi1
          try clear c2
          try clear p2
          try clear c3
          try clear c4
          try clear c6
          try clear p12
          try clear q12
          try clear hx12
          try clear qi12
          try clear c13
          try clear c14
          try clear c14b0
          try clear c14b1
          try clear c16
          try clear c17
          try clear c24
          try clear c25
          try clear c25b0
          try clear c26
          try clear c26b0
          try clear c27
          try clear c27b0
          try clear c30
          try clear c33
          try clear c34
          try clear c34b0
          try clear c35
          try clear c39
          try clear c44
          try clear hcz31_0
          try clear hcz31_1
          try clear hcz31_2
          try clear hcz31_3
          try clear hcz36_0
          try clear hcz36_1
          try clear hcz36_2
          try clear hcz36_3
          try clear hcz38_0
          try clear hcz38_1
          try clear hcz38_2
          try clear hcz38_3
          try clear hcz40_0
          try clear hcz40_1
          try clear hcz40_2
          try clear hcz40_3
          try clear hcz42_0
          try clear hcz42_1
          try clear hcz42_2
          try clear hcz42_3
          try clear hcz43_0
          try clear hcz43_1
          try clear hcz45_0
          try clear hcz45_1
          try clear hcz45_2
          try clear hcz45_3
          try clear hfz31_0
          try clear hfz31_1
          try clear hfz31_2
          try clear hfz31_3
          try clear hfz36_0
          try clear hfz36_1
          try clear hfz36_2
          try clear hfz36_3
          try clear hfz38_0
          try clear hfz38_1
          try clear hfz38_2
          try clear hfz38_3
          try clear hfz40_0
          try clear hfz40_1
          try clear hfz40_2
          try clear hfz40_3
          try clear hfz42_0
          try clear hfz42_1
          try clear hfz42_2
          try clear hfz42_3
          try clear hfz43_0
          try clear hfz43_1
          try clear hfz45_0
          try clear hfz45_1
          try clear hfz45_2
          try clear hfz45_3
          try clear hx127_0
          try clear hx127_1
          try clear hx127_2
          try clear hx127_3
          try clear hx129_0
          try clear hx129_1
          try clear hx129_2
          try clear hx129_3
          try clear p1
          try clear p12
          try clear p127
          try clear p129
          try clear p2
          try clear q1
          try clear q12
          try clear q127
          try clear q129
          obtain ⟨kq, x50_27, rfl, HA, HJ27, BK125, BK130, HB⟩ := hcut
          cases kq with
          | zero => exact absurd HA.out (by simp [line_Check.j2])
          | succ kj27 =>
           have H := HA.out
           clear HA
           simp only [line_Check.j2] at H
           by_cases c47 : x50_27 = true
           ·subst c47
            have H1 : (some 2) = some r := by rw [if_pos rfl] at H; exact H
            clear H
            have H := H1
            clear H1
            obtain rfl := Option.some.inj H
            go_wp2
            go_ret
            exact ⟨eS, bw2 HB.out GE125.out GE130.out⟩
           ·replace c47 := Bool.eq_false_iff.mpr c47
            subst c47
            have H1 : (if x45_2 > 0 then (if 0 ≤ (wrap64 (x45_2 - 1)) then (if (wrap64 (x45_2 - 1)) < (l1.length : Int) then (if (wrap64 (((rd_T52 l1 x45_2).f0.f0) - 1)) = ((rd_T52 l1 (wrap64 (x45_2 - 1))).f0.f1) then (if (((rd_T52 l1 x45_2).f1.f0) == ((rd_T52 l1 (wrap64 (x45_2 - 1))).f1.f0) && (((rd_T52 l1 x45_2).f1.f1) == ((rd_T52 l1 (wrap64 (x45_2 - 1))).f1.f1))) = true then (some 2) else (line_Check.l0 kj27 l1 l1 (l1.length : Int) (wrap64 (x45_2 + 1)) a0_0 a0_1)) else (some 2)) else (none)) else (none)) else (line_Check.l0 kj27 l1 l1 (l1.length : Int) (wrap64 (x45_2 + 1)) a0_0 a0_1)) = some r := by rw [if_neg (show ¬ (false = true) by decide)] at H; exact H
            clear H
            have H := H1
            clear H1
            by_cases c48 : x45_2 > 0
            ·rw [if_pos c48] at H
             have c48b0 : decide (0 < x45_2) = true := decide_eq_true c48
             clear c48
             obtain ⟨ji49, hji49⟩ : ∃ j_ : Int, (wrap64 (x45_2 - 1)) = j_ := ⟨_, rfl⟩
             replace H : (if 0 ≤ (ji49) then (if (ji49) < (l1.length : Int) then (if (wrap64 (((rd_T52 l1 x45_2).f0.f0) - 1)) = ((rd_T52 l1 (ji49)).f0.f1) then (if (((rd_T52 l1 x45_2).f1.f0) == ((rd_T52 l1 (ji49)).f1.f0) && (((rd_T52 l1 x45_2).f1.f1) == ((rd_T52 l1 (ji49)).f1.f1))) = true then (some 2) else (line_Check.l0 kj27 l1 l1 (l1.length : Int) (wrap64 (x45_2 + 1)) a0_0 a0_1)) else (some 2)) else (none)) else (none)) = some r := by first | (rw [hji49] at H; exact H) | (simp only [hji49] at H ⊢; exact H)
             have hji49w : (IntKind.i64.wrap (x45_2 - 1)) = ji49 := (i64_w _).trans hji49
             by_cases c50 : 0 ≤ (ji49)
             ·rw [if_pos c50] at H
              have c50b0 : decide (0 ≤ (ji49)) = true := decide_eq_true c50
              clear c50
              by_cases c51 : (ji49) < (l1.length : Int)
              ·rw [if_pos c51] at H
               have c51b0 : decide ((ji49) < (l1.length : Int)) = true := decide_eq_true c51
               clear c51
               by_cases c52 : (wrap64 (((rd_T52 l1 x45_2).f0.f0) - 1)) = ((rd_T52 l1 (ji49)).f0.f1)
               ·rw [if_pos c52] at H
                have c52b0 : ((wrap64 (((rd_T52 l1 x45_2).f0.f0) - 1)) == ((rd_T52 l1 (ji49)).f0.f1)) = true := beq_iff_eq.mpr c52
                have c52b1 : ((wrap64 (((rd_T52 l1 x45_2).f0.f0) - 1)) != ((rd_T52 l1 (ji49)).f0.f1)) = false := bne_eq_false_iff_eq.mpr c52
                clear c52
                by_cases c53 : (((rd_T52 l1 x45_2).f1.f0) == ((rd_T52 l1 (ji49)).f1.f0) && (((rd_T52 l1 x45_2).f1.f1) == ((rd_T52 l1 (ji49)).f1.f1))) = true
                ·rw [if_pos c53] at H
                 have c53b0 : (((rd_T52 l1 x45_2).f1.f0) == ((rd_T52 l1 (ji49)).f1.f0) && (((rd_T52 l1 x45_2).f1.f1) == ((rd_T52 l1 (ji49)).f1.f1))) = true := c53
                 (try (have c53b1 : decide (((rd_T52 l1 x45_2).f1.f0) = ((rd_T52 l1 (ji49)).f1.f0) && (((rd_T52 l1 x45_2).f1.f1) == ((rd_T52 l1 (ji49)).f1.f1))) = true := by simpa using c53))
                 (try (have c53b2 : (((rd_T52 l1 x45_2).f1.f0) == ((rd_T52 l1 (ji49)).f1.f0) && (((rd_T52 l1 x45_2).f1.f1) == ((rd_T52 l1 (ji49)).f1.f1))) = true := by simpa using c53))
                 clear c53
                 obtain rfl := Option.some.inj H
                 try go_wp2
                 replace BK125 := Ax (blk_drew BK125.out)
                 replace BK130 := Ax (blk_drew BK130.out)
                 replace HB := Ax (below_drew1 HB.out)
                 have p132 : 0 ≤ ((ji49) : Int) := of_decide_eq_true (by first | (with_reducible assumption) | assumption)
                 have q132 : (ji49) < (l1.length : Int) := of_decide_eq_true (by first | (with_reducible assumption) | assumption)
                 obtain ⟨ad132, e132, hx132_0, hx132_1, hx132_2, hx132_3⟩ := at_T52 HR1.out (ji49) p132 q132
                 have hw132_3 := hx132_3
                 have hw132_2 := hx132_2
                 have hw132_1 := hx132_1
                 have hw132_0 := hx132_0
                 obtain rfl : ad129 = ad132 := (by injection e132)
                 replace hx132_0 := (HB.out.cell (World.block_lt_of_cell? w _ hx132_0)).trans hx132_0
                 replace hx132_1 := (HB.out.cell (World.block_lt_of_cell? w _ hx132_1)).trans hx132_1
                 replace hx132_2 := (HB.out.cell (World.block_lt_of_cell? w _ hx132_2)).trans hx132_2
                 replace hx132_3 := (HB.out.cell (World.block_lt_of_cell? w _ hx132_3)).trans hx132_3
                 replace p132 := eq_true p132
                 replace q132 := eq_true q132
                 have p133 : 0 ≤ ((ji49) : Int) := of_decide_eq_true (by first | (with_reducible assumption) | assumption)
                 have q133 : (ji49) < (l1.length : Int) := of_decide_eq_true (by first | (with_reducible assumption) | assumption)
                 obtain ⟨ad133, e133, hx133_0, hx133_1, hx133_2, hx133_3⟩ := at_T52 HR1.out (ji49) p133 q133
                 have hw133_3 := hx133_3
                 have hw133_2 := hx133_2
                 have hw133_1 := hx133_1
                 have hw133_0 := hx133_0
                 obtain rfl : ad129 = ad133 := (by injection e133)
                 replace hx133_0 := (HB.out.cell (World.block_lt_of_cell? w _ hx133_0)).trans hx133_0
                 replace hx133_1 := (HB.out.cell (World.block_lt_of_cell? w _ hx133_1)).trans hx133_1
                 replace hx133_2 := (HB.out.cell (World.block_lt_of_cell? w _ hx133_2)).trans hx133_2
                 replace hx133_3 := (HB.out.cell (World.block_lt_of_cell? w _ hx133_3)).trans hx133_3
                 replace p133 := eq_true p133
                 replace q133 := eq_true q133
                 refine start_ (n := 28) (S := fun w' => w'.cell? ⟨gb130, 0, none⟩ = some (.int .i64 ((rd_T52 l1 x45_2).f0.f0)) ∧ w'.cell? ⟨gb130, 1, none⟩ = some (.int .i64 ((rd_T52 l1 x45_2).f0.f1)) ∧ w'.cell? ⟨gb130, 2, none⟩ = some (.int .u8 ((rd_T52 l1 x45_2).f1.f0)) ∧ w'.cell? ⟨gb130, 3, none⟩ = some (.int .i64 ((rd_T52 l1 x45_2).f1.f1)) ∧ w'.cell? (ad129.add (((ji49)).toNat * 4)) = some (.int .i64 ((rd_T52 l1 (ji49)).f0.f0)) ∧ w'.cell? ⟨(ad129.add (((ji49)).toNat * 4)).block, (ad129.add (((ji49)).toNat * 4)).off + 1, none⟩ = some (.int .i64 ((rd_T52 l1 (ji49)).f0.f1)) ∧ w'.cell? ⟨(ad129.add (((ji49)).toNat * 4)).block, (ad129.add (((ji49)).toNat * 4)).off + 2, none⟩ = some (.int .u8 ((rd_T52 l1 (ji49)).f1.f0)) ∧ w'.cell? ⟨(ad129.add (((ji49)).toNat * 4)).block, (ad129.add (((ji49)).toNat * 4)).off + 3, none⟩ = some (.int .i64 ((rd_T52 l1 (ji49)).f1.f1)) ∧ w'.cell? (ad129.add (((ji49)).toNat * 4)) = some (.int .i64 ((rd_T52 l1 (ji49)).f0.f0)) ∧ w'.cell? ⟨(ad129.add (((ji49)).toNat * 4)).block, (ad129.add (((ji49)).toNat * 4)).off + 1, none⟩ = some (.int .i64 ((rd_T52 l1 (ji49)).f0.f1)) ∧ w'.cell? ⟨(ad129.add (((ji49)).toNat * 4)).block, (ad129.add (((ji49)).toNat * 4)).off + 2, none⟩ = some (.int .u8 ((rd_T52 l1 (ji49)).f1.f0)) ∧ w'.cell? ⟨(ad129.add (((ji49)).toNat * 4)).block, (ad129.add (((ji49)).toNat * 4)).off + 3, none⟩ = some (.int .i64 ((rd_T52 l1 (ji49)).f1.f1))) (ds := []) #[fa,fa,fa,fa,fa,fa,fa,fa,fa,fa,fa,fa,fa,fa,fa,fa,fa,fa,fa,fa,fa,fa,fa,fa,fa,fa,fa,fa] (by kernel_rfl) rfl rfl ⟨(blk_cell BK130.out 0).trans rfl, (blk_cell BK130.out 1).trans rfl, (blk_cell BK130.out 2).trans rfl, (blk_cell BK130.out 3).trans rfl, ((HB.out.cell (World.block_lt_of_cell? w _ hw132_0)).trans hw132_0), ((HB.out.cell (World.block_lt_of_cell? w _ hw132_1)).trans hw132_1), ((HB.out.cell (World.block_lt_of_cell? w _ hw132_2)).trans hw132_2), ((HB.out.cell (World.block_lt_of_cell? w _ hw132_3)).trans hw132_3), ((HB.out.cell (World.block_lt_of_cell? w _ hw133_0)).trans hw133_0), ((HB.out.cell (World.block_lt_of_cell? w _ hw133_1)).trans hw133_1), ((HB.out.cell (World.block_lt_of_cell? w _ hw133_2)).trans hw133_2), ((HB.out.cell (World.block_lt_of_cell? w _ hw133_3)).trans hw133_3)⟩ (fun hHeld => ?_); refine with_tabW line_Check.tab9 line_Check.bits9 (fun HT_ HW_ => ?_)
                 generalize wc.drew = w54 at BK125 BK130 HB hx132_0 hx132_1 hx132_2 hx132_3 hx133_0 hx133_1 hx133_2 hx133_3 hHeld ⊢
                 refine pure_ (i := 0) (N := some 73) (v := ?_) (a' := ?_) #[tr,fa,fa,fa,fa,fa,fa,fa,fa,fa,fa,fa,fa,fa,fa,fa,fa,fa,fa,fa,fa,fa,fa,fa,fa,fa,fa,fa] rfl rfl (any_of HT_.out (by kernel_rfl)) (fun _ _ _ h => h) (Or.inl ⟨by rfl, ?_⟩) ?_ ?_
                 rotate_left
                 ·intro w'
                  go_simp
                  with_reducible rfl
                 rotate_left
                 ·simp only [sP]
                  rfl
                 refine pure_ (i := 1) (N := some 74) (v := ?_) (a' := ?_) #[tr,tr,fa,fa,fa,fa,fa,fa,fa,fa,fa,fa,fa,fa,fa,fa,fa,fa,fa,fa,fa,fa,fa,fa,fa,fa,fa,fa] rfl rfl (any_of HT_.out (by kernel_rfl)) (fun _ _ _ h => h) (Or.inl ⟨by rfl, ?_⟩) ?_ ?_
                 rotate_left
                 ·intro w'
                  go_simp
                  with_reducible rfl
                 rotate_left
                 ·simp only [sP]
                  rfl
                 refine pure_ (i := 2) (N := some 75) (v := ?_) (a' := ?_) #[tr,tr,tr,fa,fa,fa,fa,fa,fa,fa,fa,fa,fa,fa,fa,fa,fa,fa,fa,fa,fa,fa,fa,fa,fa,fa,fa,fa] rfl rfl (any_of HT_.out (by kernel_rfl)) (fun _ _ _ h => h) (Or.inl ⟨by rfl, ?_⟩) ?_ ?_
                 rotate_left
                 ·intro w'
                  go_simp
                  with_reducible rfl
                 rotate_left
                 ·simp only [sP]
                  rfl
                 refine pure_ (i := 3) (N := some 76) (v := ?_) (a' := ?_) #[tr,tr,tr,tr,fa,fa,fa,fa,fa,fa,fa,fa,fa,fa,fa,fa,fa,fa,fa,fa,fa,fa,fa,fa,fa,fa,fa,fa] rfl rfl (any_of HT_.out (by kernel_rfl)) (fun _ _ _ h => h) (Or.inl ⟨by rfl, ?_⟩) ?_ ?_
                 rotate_left
                 ·intro w'
                  go_simp
                  with_reducible rfl
                 rotate_left
                 ·simp only [sP]
                  rfl
                 refine pure_ (i := 4) (N := some 77) (v := ?_) (a' := ?_) #[tr,tr,tr,tr,tr,fa,fa,fa,fa,fa,fa,fa,fa,fa,fa,fa,fa,fa,fa,fa,fa,fa,fa,fa,fa,fa,fa,fa] rfl rfl (any_of HT_.out (by kernel_rfl)) (fun _ _ _ h => h) (Or.inl ⟨by rfl, ?_⟩) ?_ ?_
                 rotate_left
                 ·intro w'
                  go_simp
                  with_reducible rfl
                 rotate_left
                 ·simp only [sP]
                  rfl
                 refine pure_ (i := 7) (N := some 80) (v := ?_) (a' := ?_) #[tr,tr,tr,tr,tr,fa,fa,tr,fa,fa,fa,fa,fa,fa,fa,fa,fa,fa,fa,fa,fa,fa,fa,fa,fa,fa,fa,fa] rfl rfl (any_of HT_.out (by kernel_rfl)) (fun _ _ _ h => h) (Or.inl ⟨by rfl, ?_⟩) ?_ ?_
                 rotate_left
                 ·intro w'
                  go_simp
                  with_reducible rfl
                 rotate_left
                 ·simp only [sP]
                  rfl
                 refine pure_ (i := 8) (N := some 81) (v := ?_) (a' := ?_) #[tr,tr,tr,tr,tr,fa,fa,tr,tr,fa,fa,fa,fa,fa,fa,fa,fa,fa,fa,fa,fa,fa,fa,fa,fa,fa,fa,fa] rfl rfl (any_of HT_.out (by kernel_rfl)) (fun _ _ _ h => h) (Or.inl ⟨by rfl, ?_⟩) ?_ ?_
                 rotate_left
                 ·intro w'
                  go_simp
                  with_reducible rfl
                 rotate_left
                 ·simp only [sP]
                  rfl
                 refine pure_ (i := 9) (N := some 82) (v := ?_) (a' := ?_) #[tr,tr,tr,tr,tr,fa,fa,tr,tr,tr,fa,fa,fa,fa,fa,fa,fa,fa,fa,fa,fa,fa,fa,fa,fa,fa,fa,fa] rfl rfl (any_of HT_.out (by kernel_rfl)) (fun _ _ _ h => h) (Or.inl ⟨by rfl, ?_⟩) ?_ ?_
                 rotate_left
                 ·intro w'
                  go_simp
                  with_reducible rfl
                 rotate_left
                 ·simp only [sP]
                  rfl
                 refine pure_ (i := 10) (N := some 83) (v := ?_) (a' := ?_) #[tr,tr,tr,tr,tr,fa,fa,tr,tr,tr,tr,fa,fa,fa,fa,fa,fa,fa,fa,fa,fa,fa,fa,fa,fa,fa,fa,fa] rfl rfl (any_of HT_.out (by kernel_rfl)) (fun _ _ _ h => h) (Or.inl ⟨by rfl, ?_⟩) ?_ ?_
                 rotate_left
                 ·intro w'
                  go_simp
                  with_reducible rfl
                 rotate_left
                 ·simp only [sP]
                  rfl
                 refine pure_ (i := 11) (N := some 84) (v := ?_) (a' := ?_) #[tr,tr,tr,tr,tr,fa,fa,tr,tr,tr,tr,tr,fa,fa,fa,fa,fa,fa,fa,fa,fa,fa,fa,fa,fa,fa,fa,fa] rfl rfl (any_of HT_.out (by kernel_rfl)) (fun _ _ _ h => h) (Or.inl ⟨by rfl, ?_⟩) ?_ ?_
                 rotate_left
                 ·intro w'
                  go_simp
                  with_reducible rfl
                 rotate_left
                 ·simp only [sP]
                  rfl
                 refine pure_ (i := 12) (N := some 85) (v := ?_) (a' := ?_) #[tr,tr,tr,tr,tr,fa,fa,tr,tr,tr,tr,tr,tr,fa,fa,fa,fa,fa,fa,fa,fa,fa,fa,fa,fa,fa,fa,fa] rfl rfl (any_of HT_.out (by kernel_rfl)) (fun _ _ _ h => h) (Or.inl ⟨by rfl, ?_⟩) ?_ ?_
                 rotate_left
                 ·intro w'
                  go_simp
                  with_reducible rfl
                 rotate_left
                 ·simp only [sP]
                  rfl
                 refine take_ (i := 5) (N := some 78) (v := ?_) (a' := ?_) #[tr,tr,tr,tr,tr,tr,fa,tr,tr,tr,tr,tr,tr,fa,fa,fa,fa,fa,fa,fa,fa,fa,fa,fa,fa,fa,fa,fa] rfl rfl (take_ofW HT_.out HW_.out (by kernel_rfl)) (fun _ _ _ h => h) (Or.inl ⟨by rfl, ?_⟩) hHeld ?_ ?_
                 rotate_left
                 ·rintro w' ⟨s0, s1, s2, s3, s4, s5, s6, s7, s8, s9, s10, s11⟩
                  go_simp
                  with_reducible rfl
                 rotate_left
                 ·simp only [sP]
                  rfl
                 refine pure_ (i := 6) (N := some 79) (v := ?_) (a' := ?_) #[tr,tr,tr,tr,tr,tr,tr,tr,tr,tr,tr,tr,tr,fa,fa,fa,fa,fa,fa,fa,fa,fa,fa,fa,fa,fa,fa,fa] rfl rfl (any_of HT_.out (by kernel_rfl)) (fun _ _ _ h => h) (Or.inl ⟨by rfl, ?_⟩) ?_ ?_
                 rotate_left
                 ·intro w'
                  go_simp
                  with_reducible rfl
                 rotate_left
                 ·simp only [sP]
                  rfl
                 refine take_ (i := 13) (N := some 86) (v := ?_) (a' := ?_) #[tr,tr,tr,tr,tr,tr,tr,tr,tr,tr,tr,tr,tr,tr,fa,fa,fa,fa,fa,fa,fa,fa,fa,fa,fa,fa,fa,fa] rfl rfl (take_ofW HT_.out HW_.out (by kernel_rfl)) (fun _ _ _ h => h) (Or.inl ⟨by rfl, ?_⟩) hHeld ?_ ?_
                 rotate_left
                 ·rintro w' ⟨s0, s1, s2, s3, s4, s5, s6, s7, s8, s9, s10, s11⟩
                  go_simp
                  with_reducible rfl
                 rotate_left
                 ·simp only [sP]
                  rfl
                 refine pure_ (i := 14) (N := some 87) (v := ?_) (a' := ?_) #[tr,tr,tr,tr,tr,tr,tr,tr,tr,tr,tr,tr,tr,tr,tr,fa,fa,fa,fa,fa,fa,fa,fa,fa,fa,fa,fa,fa] rfl rfl (any_of HT_.out (by kernel_rfl)) (fun _ _ _ h => h) (Or.inl ⟨by rfl, ?_⟩) ?_ ?_
                 rotate_left
                 ·intro w'
                  go_simp
                  with_reducible rfl
                 rotate_left
                 ·simp only [sP]
                  rfl
                 refine pure_ (i := 15) (N := some 88) (v := ?_) (a' := ?_) #[tr,tr,tr,tr,tr,tr,tr,tr,tr,tr,tr,tr,tr,tr,tr,tr,fa,fa,fa,fa,fa,fa,fa,fa,fa,fa,fa,fa] rfl rfl (any_of HT_.out (by kernel_rfl)) (fun _ _ _ h => h) (Or.inl ⟨by rfl, ?_⟩) ?_ ?_
                 rotate_left
                 ·intro w'
                  go_simp
                  with_reducible rfl
                 rotate_left
                 ·simp only [sP]
                  rfl
                 refine pure_ (i := 16) (N := some 89) (v := ?_) (a' := ?_) #[tr,tr,tr,tr,tr,tr,tr,tr,tr,tr,tr,tr,tr,tr,tr,tr,tr,fa,fa,fa,fa,fa,fa,fa,fa,fa,fa,fa] rfl rfl (any_of HT_.out (by kernel_rfl)) (fun _ _ _ h => h) (Or.inl ⟨by rfl, ?_⟩) ?_ ?_
                 rotate_left
                 ·intro w'
                  go_simp
                  with_reducible rfl
                 rotate_left
                 ·simp only [sP]
                  rfl
                 refine pure_ (i := 18) (N := some 91) (v := ?_) (a' := ?_) #[tr,tr,tr,tr,tr,tr,tr,tr,tr,tr,tr,tr,tr,tr,tr,tr,tr,fa,tr,fa,fa,fa,fa,fa,fa,fa,fa,fa] rfl rfl (any_of HT_.out (by kernel_rfl)) (fun _ _ _ h => h) (Or.inl ⟨by rfl, ?_⟩) ?_ ?_
                 rotate_left
                 ·intro w'
                  go_simp
                  with_reducible rfl
                 rotate_left
                 ·simp only [sP]
                  rfl
                 refine pure_ (i := 19) (N := some 92) (v := ?_) (a' := ?_) #[tr,tr,tr,tr,tr,tr,tr,tr,tr,tr,tr,tr,tr,tr,tr,tr,tr,fa,tr,tr,fa,fa,fa,fa,fa,fa,fa,fa] rfl rfl (any_of HT_.out (by kernel_rfl)) (fun _ _ _ h => h) (Or.inl ⟨by rfl, ?_⟩) ?_ ?_
                 rotate_left
                 ·intro w'
                  go_simp
                  with_reducible rfl
                 rotate_left
                 ·simp only [sP]
                  rfl
                 refine pure_ (i := 20) (N := some 93) (v := ?_) (a' := ?_) #[tr,tr,tr,tr,tr,tr,tr,tr,tr,tr,tr,tr,tr,tr,tr,tr,tr,fa,tr,tr,tr,fa,fa,fa,fa,fa,fa,fa] rfl rfl (any_of HT_.out (by kernel_rfl)) (fun _ _ _ h => h) (Or.inl ⟨by rfl, ?_⟩) ?_ ?_
                 rotate_left
                 ·intro w'
                  go_simp
                  with_reducible rfl
                 rotate_left
                 ·simp only [sP]
                  rfl
                 refine pure_ (i := 21) (N := some 94) (v := ?_) (a' := ?_) #[tr,tr,tr,tr,tr,tr,tr,tr,tr,tr,tr,tr,tr,tr,tr,tr,tr,fa,tr,tr,tr,tr,fa,fa,fa,fa,fa,fa] rfl rfl (any_of HT_.out (by kernel_rfl)) (fun _ _ _ h => h) (Or.inl ⟨by rfl, ?_⟩) ?_ ?_
                 rotate_left
                 ·intro w'
                  go_simp
                  with_reducible rfl
                 rotate_left
                 ·simp only [sP]
                  rfl
                 refine pure_ (i := 22) (N := some 95) (v := ?_) (a' := ?_) #[tr,tr,tr,tr,tr,tr,tr,tr,tr,tr,tr,tr,tr,tr,tr,tr,tr,fa,tr,tr,tr,tr,tr,fa,fa,fa,fa,fa] rfl rfl (any_of HT_.out (by kernel_rfl)) (fun _ _ _ h => h) (Or.inl ⟨by rfl, ?_⟩) ?_ ?_
                 rotate_left
                 ·intro w'
                  go_simp
                  with_reducible rfl
                 rotate_left
                 ·simp only [sP]
                  rfl
                 refine take_ (i := 17) (N := some 90) (v := ?_) (a' := ?_) #[tr,tr,tr,tr,tr,tr,tr,tr,tr,tr,tr,tr,tr,tr,tr,tr,tr,tr,tr,tr,tr,tr,tr,fa,fa,fa,fa,fa] rfl rfl (take_ofW HT_.out HW_.out (by kernel_rfl)) (fun _ _ _ h => h) (Or.inl ⟨by rfl, ?_⟩) hHeld ?_ ?_
                 rotate_left
                 ·rintro w' ⟨s0, s1, s2, s3, s4, s5, s6, s7, s8, s9, s10, s11⟩
                  go_simp
                  with_reducible rfl
                 rotate_left
                 ·simp only [sP]
                  rfl
                 refine take_ (i := 23) (N := some 96) (v := ?_) (a' := ?_) #[tr,tr,tr,tr,tr,tr,tr,tr,tr,tr,tr,tr,tr,tr,tr,tr,tr,tr,tr,tr,tr,tr,tr,tr,fa,fa,fa,fa] rfl rfl (take_ofW HT_.out HW_.out (by kernel_rfl)) (fun _ _ _ h => h) (Or.inl ⟨by rfl, ?_⟩) hHeld ?_ ?_
                 rotate_left
                 ·rintro w' ⟨s0, s1, s2, s3, s4, s5, s6, s7, s8, s9, s10, s11⟩
                  go_simp
                  with_reducible rfl
                 rotate_left
                 ·simp only [sP]
                  rfl
                 refine pure_ (i := 24) (N := some 97) (v := ?_) (a' := ?_) #[tr,tr,tr,tr,tr,tr,tr,tr,tr,tr,tr,tr,tr,tr,tr,tr,tr,tr,tr,tr,tr,tr,tr,tr,tr,fa,fa,fa] rfl rfl (any_of HT_.out (by kernel_rfl)) (fun _ _ _ h => h) (Or.inl ⟨by rfl, ?_⟩) ?_ ?_
                 rotate_left
                 ·intro w'
                  go_simp
                  with_reducible rfl
                 rotate_left
                 ·simp only [sP]
                  rfl
                 refine pure_ (i := 25) (N := some 98) (v := ?_) (a' := ?_) #[tr,tr,tr,tr,tr,tr,tr,tr,tr,tr,tr,tr,tr,tr,tr,tr,tr,tr,tr,tr,tr,tr,tr,tr,tr,tr,fa,fa] rfl rfl (any_of HT_.out (by kernel_rfl)) (fun _ _ _ h => h) (Or.inl ⟨by rfl, ?_⟩) ?_ ?_
                 rotate_left
                 ·intro w'
                  go_simp
                  with_reducible rfl
                 rotate_left
                 ·simp only [sP]
                  rfl
                 refine pure_ (i := 26) (N := some 99) (v := ?_) (a' := ?_) #[tr,tr,tr,tr,tr,tr,tr,tr,tr,tr,tr,tr,tr,tr,tr,tr,tr,tr,tr,tr,tr,tr,tr,tr,tr,tr,tr,fa] rfl rfl (any_of HT_.out (by kernel_rfl)) (fun _ _ _ h => h) (Or.inl ⟨by rfl, ?_⟩) ?_ ?_
                 rotate_left
                 ·intro w'
                  go_simp
                  with_reducible rfl
                 rotate_left
                 ·simp only [sP]
                  rfl
                 refine pure_ (i := 27) (N := some 72) (v := ?_) (a' := ?_) #[tr,tr,tr,tr,tr,tr,tr,tr,tr,tr,tr,tr,tr,tr,tr,tr,tr,tr,tr,tr,tr,tr,tr,tr,tr,tr,tr,tr] rfl rfl (any_of HT_.out (by kernel_rfl)) (fun _ _ _ h => h) (Or.inl ⟨by rfl, ?_⟩) ?_ ?_
                 rotate_left
                 ·intro w'
                  go_simp
                  with_reducible rfl
                 rotate_left
                 ·simp only [sP]
                  rfl
                 refine done_ (done_of HT_.out (by kernel_rfl)) ?_
                 try go_wp2
                 go_ret
                 exact ⟨by first | rfl | (simp [errW_none, errW_some] <;> rfl) | (simp only [← hji49]; first | rfl | (simp [errW_none, errW_some] <;> rfl)) | (simp [*, errW_none, errW_some] <;> rfl), bw2 HB.out GE125.out GE130.out⟩
                ·rw [if_neg c53] at H
                 have c53b0 : (((rd_T52 l1 x45_2).f1.f0) == ((rd_T52 l1 (ji49)).f1.f0) && (((rd_T52 l1 x45_2).f1.f1) == ((rd_T52 l1 (ji49)).f1.f1))) = false := by simpa using c53
                 (try (have c53b1 : decide (((rd_T52 l1 x45_2).f1.f0) = ((rd_T52 l1 (ji49)).f1.f0) && (((rd_T52 l1 x45_2).f1.f1) == ((rd_T52 l1 (ji49)).f1.f1))) = false := by simpa using c53))
                 (try (have c53b2 : (((rd_T52 l1 x45_2).f1.f0) == ((rd_T52 l1 (ji49)).f1.f0) && (((rd_T52 l1 x45_2).f1.f1) == ((rd_T52 l1 (ji49)).f1.f1))) = false := by simpa using c53))
                 (try (have c53b3 : ¬ (((rd_T52 l1 x45_2).f1.f0) = ((rd_T52 l1 (ji49)).f1.f0) && (((rd_T52 l1 x45_2).f1.f1) == ((rd_T52 l1 (ji49)).f1.f1))) := by simpa using c53))
                 clear c53
                 have H' := Ax H
                 clear H
                 try go_wp2
                 replace BK125 := Ax (blk_drew BK125.out)
                 replace BK130 := Ax (blk_drew BK130.out)
                 replace HB := Ax (below_drew1 HB.out)
                 have p132 : 0 ≤ ((ji49) : Int) := of_decide_eq_true (by first | (with_reducible assumption) | assumption)
                 have q132 : (ji49) < (l1.length : Int) := of_decide_eq_true (by first | (with_reducible assumption) | assumption)
                 obtain ⟨ad132, e132, hx132_0, hx132_1, hx132_2, hx132_3⟩ := at_T52 HR1.out (ji49) p132 q132
                 have hw132_3 := hx132_3
                 have hw132_2 := hx132_2
                 have hw132_1 := hx132_1
                 have hw132_0 := hx132_0
                 obtain rfl : ad129 = ad132 := (by injection e132)
                 replace hx132_0 := (HB.out.cell (World.block_lt_of_cell? w _ hx132_0)).trans hx132_0
                 replace hx132_1 := (HB.out.cell (World.block_lt_of_cell? w _ hx132_1)).trans hx132_1
                 replace hx132_2 := (HB.out.cell (World.block_lt_of_cell? w _ hx132_2)).trans hx132_2
                 replace hx132_3 := (HB.out.cell (World.block_lt_of_cell? w _ hx132_3)).trans hx132_3
                 replace p132 := eq_true p132
                 replace q132 := eq_true q132
                 have p133 : 0 ≤ ((ji49) : Int) := of_decide_eq_true (by first | (with_reducible assumption) | assumption)
                 have q133 : (ji49) < (l1.length : Int) := of_decide_eq_true (by first | (with_reducible assumption) | assumption)
                 obtain ⟨ad133, e133, hx133_0, hx133_1, hx133_2, hx133_3⟩ := at_T52 HR1.out (ji49) p133 q133
                 have hw133_3 := hx133_3
                 have hw133_2 := hx133_2
                 have hw133_1 := hx133_1
                 have hw133_0 := hx133_0
                 obtain rfl : ad129 = ad133 := (by injection e133)
                 replace hx133_0 := (HB.out.cell (World.block_lt_of_cell? w _ hx133_0)).trans hx133_0
                 replace hx133_1 := (HB.out.cell (World.block_lt_of_cell? w _ hx133_1)).trans hx133_1
                 replace hx133_2 := (HB.out.cell (World.block_lt_of_cell? w _ hx133_2)).trans hx133_2
                 replace hx133_3 := (HB.out.cell (World.block_lt_of_cell? w _ hx133_3)).trans hx133_3
                 replace p133 := eq_true p133
                 replace q133 := eq_true q133
                 refine start_ (n := 28) (S := fun w' => w'.cell? ⟨gb130, 0, none⟩ = some (.int .i64 ((rd_T52 l1 x45_2).f0.f0)) ∧ w'.cell? ⟨gb130, 1, none⟩ = some (.int .i64 ((rd_T52 l1 x45_2).f0.f1)) ∧ w'.cell? ⟨gb130, 2, none⟩ = some (.int .u8 ((rd_T52 l1 x45_2).f1.f0)) ∧ w'.cell? ⟨gb130, 3, none⟩ = some (.int .i64 ((rd_T52 l1 x45_2).f1.f1)) ∧ w'.cell? (ad129.add (((ji49)).toNat * 4)) = some (.int .i64 ((rd_T52 l1 (ji49)).f0.f0)) ∧ w'.cell? ⟨(ad129.add (((ji49)).toNat * 4)).block, (ad129.add (((ji49)).toNat * 4)).off + 1, none⟩ = some (.int .i64 ((rd_T52 l1 (ji49)).f0.f1)) ∧ w'.cell? ⟨(ad129.add (((ji49)).toNat * 4)).block, (ad129.add (((ji49)).toNat * 4)).off + 2, none⟩ = some (.int .u8 ((rd_T52 l1 (ji49)).f1.f0)) ∧ w'.cell? ⟨(ad129.add (((ji49)).toNat * 4)).block, (ad129.add (((ji49)).toNat * 4)).off + 3, none⟩ = some (.int .i64 ((rd_T52 l1 (ji49)).f1.f1)) ∧ w'.cell? (ad129.add (((ji49)).toNat * 4)) = some (.int .i64 ((rd_T52 l1 (ji49)).f0.f0)) ∧ w'.cell? ⟨(ad129.add (((ji49)).toNat * 4)).block, (ad129.add (((ji49)).toNat * 4)).off + 1, none⟩ = some (.int .i64 ((rd_T52 l1 (ji49)).f0.f1)) ∧ w'.cell? ⟨(ad129.add (((ji49)).toNat * 4)).block, (ad129.add (((ji49)).toNat * 4)).off + 2, none⟩ = some (.int .u8 ((rd_T52 l1 (ji49)).f1.f0)) ∧ w'.cell? ⟨(ad129.add (((ji49)).toNat * 4)).block, (ad129.add (((ji49)).toNat * 4)).off + 3, none⟩ = some (.int .i64 ((rd_T52 l1 (ji49)).f1.f1))) (ds := []) #[fa,fa,fa,fa,fa,fa,fa,fa,fa,fa,fa,fa,fa,fa,fa,fa,fa,fa,fa,fa,fa,fa,fa,fa,fa,fa,fa,fa] (by kernel_rfl) rfl rfl ⟨(blk_cell BK130.out 0).trans rfl, (blk_cell BK130.out 1).trans rfl, (blk_cell BK130.out 2).trans rfl, (blk_cell BK130.out 3).trans rfl, ((HB.out.cell (World.block_lt_of_cell? w _ hw132_0)).trans hw132_0), ((HB.out.cell (World.block_lt_of_cell? w _ hw132_1)).trans hw132_1), ((HB.out.cell (World.block_lt_of_cell? w _ hw132_2)).trans hw132_2), ((HB.out.cell (World.block_lt_of_cell? w _ hw132_3)).trans hw132_3), ((HB.out.cell (World.block_lt_of_cell? w _ hw133_0)).trans hw133_0), ((HB.out.cell (World.block_lt_of_cell? w _ hw133_1)).trans hw133_1), ((HB.out.cell (World.block_lt_of_cell? w _ hw133_2)).trans hw133_2), ((HB.out.cell (World.block_lt_of_cell? w _ hw133_3)).trans hw133_3)⟩ (fun hHeld => ?_); refine with_tabW line_Check.tab9 line_Check.bits9 (fun HT_ HW_ => ?_)
                 generalize wc.drew = w55 at BK125 BK130 HB hx132_0 hx132_1 hx132_2 hx132_3 hx133_0 hx133_1 hx133_2 hx133_3 hHeld ⊢
                 refine pure_ (i := 0) (N := some 73) (v := ?_) (a' := ?_) #[tr,fa,fa,fa,fa,fa,fa,fa,fa,fa,fa,fa,fa,fa,fa,fa,fa,fa,fa,fa,fa,fa,fa,fa,fa,fa,fa,fa] rfl rfl (any_of HT_.out (by kernel_rfl)) (fun _ _ _ h => h) (Or.inl ⟨by rfl, ?_⟩) ?_ ?_
                 rotate_left
                 ·intro w'
                  go_simp
                  with_reducible rfl
                 rotate_left
                 ·simp only [sP]
                  rfl
                 refine pure_ (i := 1) (N := some 74) (v := ?_) (a' := ?_) #[tr,tr,fa,fa,fa,fa,fa,fa,fa,fa,fa,fa,fa,fa,fa,fa,fa,fa,fa,fa,fa,fa,fa,fa,fa,fa,fa,fa] rfl rfl (any_of HT_.out (by kernel_rfl)) (fun _ _ _ h => h) (Or.inl ⟨by rfl, ?_⟩) ?_ ?_
                 rotate_left
                 ·intro w'
                  go_simp
                  with_reducible rfl
                 rotate_left
                 ·simp only [sP]
                  rfl
                 refine pure_ (i := 2) (N := some 75) (v := ?_) (a' := ?_) #[tr,tr,tr,fa,fa,fa,fa,fa,fa,fa,fa,fa,fa,fa,fa,fa,fa,fa,fa,fa,fa,fa,fa,fa,fa,fa,fa,fa] rfl rfl (any_of HT_.out (by kernel_rfl)) (fun _ _ _ h => h) (Or.inl ⟨by rfl, ?_⟩) ?_ ?_
                 rotate_left
                 ·intro w'
                  go_simp
                  with_reducible rfl
                 rotate_left
                 ·simp only [sP]
                  rfl
                 refine pure_ (i := 3) (N := some 76) (v := ?_) (a' := ?_) #[tr,tr,tr,tr,fa,fa,fa,fa,fa,fa,fa,fa,fa,fa,fa,fa,fa,fa,fa,fa,fa,fa,fa,fa,fa,fa,fa,fa] rfl rfl (any_of HT_.out (by kernel_rfl)) (fun _ _ _ h => h) (Or.inl ⟨by rfl, ?_⟩) ?_ ?_
                 rotate_left
                 ·intro w'
                  go_simp
                  with_reducible rfl
                 rotate_left
                 ·simp only [sP]
                  rfl
                 refine pure_ (i := 4) (N := some 77) (v := ?_) (a' := ?_) #[tr,tr,tr,tr,tr,fa,fa,fa,fa,fa,fa,fa,fa,fa,fa,fa,fa,fa,fa,fa,fa,fa,fa,fa,fa,fa,fa,fa] rfl rfl (any_of HT_.out (by kernel_rfl)) (fun _ _ _ h => h) (Or.inl ⟨by rfl, ?_⟩) ?_ ?_
                 rotate_left
                 ·intro w'
                  go_simp
                  with_reducible rfl
                 rotate_left
                 ·simp only [sP]
                  rfl
                 refine pure_ (i := 7) (N := some 80) (v := ?_) (a' := ?_) #[tr,tr,tr,tr,tr,fa,fa,tr,fa,fa,fa,fa,fa,fa,fa,fa,fa,fa,fa,fa,fa,fa,fa,fa,fa,fa,fa,fa] rfl rfl (any_of HT_.out (by kernel_rfl)) (fun _ _ _ h => h) (Or.inl ⟨by rfl, ?_⟩) ?_ ?_
                 rotate_left
                 ·intro w'
                  go_simp
                  with_reducible rfl
                 rotate_left
                 ·simp only [sP]
                  rfl
                 refine pure_ (i := 8) (N := some 81) (v := ?_) (a' := ?_) #[tr,tr,tr,tr,tr,fa,fa,tr,tr,fa,fa,fa,fa,fa,fa,fa,fa,fa,fa,fa,fa,fa,fa,fa,fa,fa,fa,fa] rfl rfl (any_of HT_.out (by kernel_rfl)) (fun _ _ _ h => h) (Or.inl ⟨by rfl, ?_⟩) ?_ ?_
                 rotate_left
                 ·intro w'
                  go_simp
                  with_reducible rfl
                 rotate_left
                 ·simp only [sP]
                  rfl
                 refine pure_ (i := 9) (N := some 82) (v := ?_) (a' := ?_) #[tr,tr,tr,tr,tr,fa,fa,tr,tr,tr,fa,fa,fa,fa,fa,fa,fa,fa,fa,fa,fa,fa,fa,fa,fa,fa,fa,fa] rfl rfl (any_of HT_.out (by kernel_rfl)) (fun _ _ _ h => h) (Or.inl ⟨by rfl, ?_⟩) ?_ ?_
                 rotate_left
                 ·intro w'
                  go_simp
                  with_reducible rfl
                 rotate_left
                 ·simp only [sP]
                  rfl
                 refine pure_ (i := 10) (N := some 83) (v := ?_) (a' := ?_) #[tr,tr,tr,tr,tr,fa,fa,tr,tr,tr,tr,fa,fa,fa,fa,fa,fa,fa,fa,fa,fa,fa,fa,fa,fa,fa,fa,fa] rfl rfl (any_of HT_.out (by kernel_rfl)) (fun _ _ _ h => h) (Or.inl ⟨by rfl, ?_⟩) ?_ ?_
                 rotate_left
                 ·intro w'
                  go_simp
                  with_reducible rfl
                 rotate_left
                 ·simp only [sP]
                  rfl
                 refine pure_ (i := 11) (N := some 84) (v := ?_) (a' := ?_) #[tr,tr,tr,tr,tr,fa,fa,tr,tr,tr,tr,tr,fa,fa,fa,fa,fa,fa,fa,fa,fa,fa,fa,fa,fa,fa,fa,fa] rfl rfl (any_of HT_.out (by kernel_rfl)) (fun _ _ _ h => h) (Or.inl ⟨by rfl, ?_⟩) ?_ ?_
                 rotate_left
                 ·intro w'
                  go_simp
                  with_reducible rfl
                 rotate_left
                 ·simp only [sP]
                  rfl
                 refine pure_ (i := 12) (N := some 85) (v := ?_) (a' := ?_) #[tr,tr,tr,tr,tr,fa,fa,tr,tr,tr,tr,tr,tr,fa,fa,fa,fa,fa,fa,fa,fa,fa,fa,fa,fa,fa,fa,fa] rfl rfl (any_of HT_.out (by kernel_rfl)) (fun _ _ _ h => h) (Or.inl ⟨by rfl, ?_⟩) ?_ ?_
                 rotate_left
                 ·intro w'
                  go_simp
                  with_reducible rfl
                 rotate_left
                 ·simp only [sP]
                  rfl
                 refine take_ (i := 5) (N := some 78) (v := ?_) (a' := ?_) #[tr,tr,tr,tr,tr,tr,fa,tr,tr,tr,tr,tr,tr,fa,fa,fa,fa,fa,fa,fa,fa,fa,fa,fa,fa,fa,fa,fa] rfl rfl (take_ofW HT_.out HW_.out (by kernel_rfl)) (fun _ _ _ h => h) (Or.inl ⟨by rfl, ?_⟩) hHeld ?_ ?_
                 rotate_left
                 ·rintro w' ⟨s0, s1, s2, s3, s4, s5, s6, s7, s8, s9, s10, s11⟩
                  go_simp
                  with_reducible rfl
                 rotate_left
                 ·simp only [sP]
                  rfl
                 refine pure_ (i := 6) (N := some 79) (v := ?_) (a' := ?_) #[tr,tr,tr,tr,tr,tr,tr,tr,tr,tr,tr,tr,tr,fa,fa,fa,fa,fa,fa,fa,fa,fa,fa,fa,fa,fa,fa,fa] rfl rfl (any_of HT_.out (by kernel_rfl)) (fun _ _ _ h => h) (Or.inl ⟨by rfl, ?_⟩) ?_ ?_
                 rotate_left
                 ·intro w'
                  go_simp
                  with_reducible rfl
                 rotate_left
                 ·simp only [sP]
                  rfl
                 refine take_ (i := 13) (N := some 86) (v := ?_) (a' := ?_) #[tr,tr,tr,tr,tr,tr,tr,tr,tr,tr,tr,tr,tr,tr,fa,fa,fa,fa,fa,fa,fa,fa,fa,fa,fa,fa,fa,fa] rfl rfl (take_ofW HT_.out HW_.out (by kernel_rfl)) (fun _ _ _ h => h) (Or.inl ⟨by rfl, ?_⟩) hHeld ?_ ?_
                 rotate_left
                 ·rintro w' ⟨s0, s1, s2, s3, s4, s5, s6, s7, s8, s9, s10, s11⟩
                  go_simp
                  with_reducible rfl
                 rotate_left
                 ·simp only [sP]
                  rfl
                 refine pure_ (i := 14) (N := some 87) (v := ?_) (a' := ?_) #[tr,tr,tr,tr,tr,tr,tr,tr,tr,tr,tr,tr,tr,tr,tr,fa,fa,fa,fa,fa,fa,fa,fa,fa,fa,fa,fa,fa] rfl rfl (any_of HT_.out (by kernel_rfl)) (fun _ _ _ h => h) (Or.inl ⟨by rfl, ?_⟩) ?_ ?_
                 rotate_left
                 ·intro w'
                  go_simp
                  with_reducible rfl
                 rotate_left
                 ·simp only [sP]
                  rfl
                 refine pure_ (i := 15) (N := some 88) (v := ?_) (a' := ?_) #[tr,tr,tr,tr,tr,tr,tr,tr,tr,tr,tr,tr,tr,tr,tr,tr,fa,fa,fa,fa,fa,fa,fa,fa,fa,fa,fa,fa] rfl rfl (any_of HT_.out (by kernel_rfl)) (fun _ _ _ h => h) (Or.inl ⟨by rfl, ?_⟩) ?_ ?_
                 rotate_left
                 ·intro w'
                  go_simp
                  with_reducible rfl
                 rotate_left
                 ·simp only [sP]
                  rfl
                 refine pure_ (i := 16) (N := some 89) (v := ?_) (a' := ?_) #[tr,tr,tr,tr,tr,tr,tr,tr,tr,tr,tr,tr,tr,tr,tr,tr,tr,fa,fa,fa,fa,fa,fa,fa,fa,fa,fa,fa] rfl rfl (any_of HT_.out (by kernel_rfl)) (fun _ _ _ h => h) (Or.inl ⟨by rfl, ?_⟩) ?_ ?_
                 rotate_left
                 ·intro w'
                  go_simp
                  with_reducible rfl
                 rotate_left
                 ·simp only [sP]
                  rfl
                 refine pure_ (i := 18) (N := some 91) (v := ?_) (a' := ?_) #[tr,tr,tr,tr,tr,tr,tr,tr,tr,tr,tr,tr,tr,tr,tr,tr,tr,fa,tr,fa,fa,fa,fa,fa,fa,fa,fa,fa] rfl rfl (any_of HT_.out (by kernel_rfl)) (fun _ _ _ h => h) (Or.inl ⟨by rfl, ?_⟩) ?_ ?_
                 rotate_left
                 ·intro w'
                  go_simp
                  with_reducible rfl
                 rotate_left
                 ·simp only [sP]
                  rfl
                 refine pure_ (i := 19) (N := some 92) (v := ?_) (a' := ?_) #[tr,tr,tr,tr,tr,tr,tr,tr,tr,tr,tr,tr,tr,tr,tr,tr,tr,fa,tr,tr,fa,fa,fa,fa,fa,fa,fa,fa] rfl rfl (any_of HT_.out (by kernel_rfl)) (fun _ _ _ h => h) (Or.inl ⟨by rfl, ?_⟩) ?_ ?_
                 rotate_left
                 ·intro w'
                  go_simp
                  with_reducible rfl
                 rotate_left
                 ·simp only [sP]
                  rfl
                 refine pure_ (i := 20) (N := some 93) (v := ?_) (a' := ?_) #[tr,tr,tr,tr,tr,tr,tr,tr,tr,tr,tr,tr,tr,tr,tr,tr,tr,fa,tr,tr,tr,fa,fa,fa,fa,fa,fa,fa] rfl rfl (any_of HT_.out (by kernel_rfl)) (fun _ _ _ h => h) (Or.inl ⟨by rfl, ?_⟩) ?_ ?_
                 rotate_left
                 ·intro w'
                  go_simp
                  with_reducible rfl
                 rotate_left
                 ·simp only [sP]
                  rfl
                 refine pure_ (i := 21) (N := some 94) (v := ?_) (a' := ?_) #[tr,tr,tr,tr,tr,tr,tr,tr,tr,tr,tr,tr,tr,tr,tr,tr,tr,fa,tr,tr,tr,tr,fa,fa,fa,fa,fa,fa] rfl rfl (any_of HT_.out (by kernel_rfl)) (fun _ _ _ h => h) (Or.inl ⟨by rfl, ?_⟩) ?_ ?_
                 rotate_left
                 ·intro w'
                  go_simp
                  with_reducible rfl
                 rotate_left
                 ·simp only [sP]
                  rfl
                 refine pure_ (i := 22) (N := some 95) (v := ?_) (a' := ?_) #[tr,tr,tr,tr,tr,tr,tr,tr,tr,tr,tr,tr,tr,tr,tr,tr,tr,fa,tr,tr,tr,tr,tr,fa,fa,fa,fa,fa] rfl rfl (any_of HT_.out (by kernel_rfl)) (fun _ _ _ h => h) (Or.inl ⟨by rfl, ?_⟩) ?_ ?_
                 rotate_left
                 ·intro w'
                  go_simp
                  with_reducible rfl
                 rotate_left
                 ·simp only [sP]
                  rfl
                 refine take_ (i := 17) (N := some 90) (v := ?_) (a' := ?_) #[tr,tr,tr,tr,tr,tr,tr,tr,tr,tr,tr,tr,tr,tr,tr,tr,tr,tr,tr,tr,tr,tr,tr,fa,fa,fa,fa,fa] rfl rfl (take_ofW HT_.out HW_.out (by kernel_rfl)) (fun _ _ _ h => h) (Or.inl ⟨by rfl, ?_⟩) hHeld ?_ ?_
                 rotate_left
                 ·rintro w' ⟨s0, s1, s2, s3, s4, s5, s6, s7, s8, s9, s10, s11⟩
                  go_simp
                  with_reducible rfl
                 rotate_left
                 ·simp only [sP]
                  rfl
                 refine take_ (i := 23) (N := some 96) (v := ?_) (a' := ?_) #[tr,tr,tr,tr,tr,tr,tr,tr,tr,tr,tr,tr,tr,tr,tr,tr,tr,tr,tr,tr,tr,tr,tr,tr,fa,fa,fa,fa] rfl rfl (take_ofW HT_.out HW_.out (by kernel_rfl)) (fun _ _ _ h => h) (Or.inl ⟨by rfl, ?_⟩) hHeld ?_ ?_
                 rotate_left
                 ·rintro w' ⟨s0, s1, s2, s3, s4, s5, s6, s7, s8, s9, s10, s11⟩
                  go_simp
                  with_reducible rfl
                 rotate_left
                 ·simp only [sP]
                  rfl
                 refine pure_ (i := 24) (N := some 97) (v := ?_) (a' := ?_) #[tr,tr,tr,tr,tr,tr,tr,tr,tr,tr,tr,tr,tr,tr,tr,tr,tr,tr,tr,tr,tr,tr,tr,tr,tr,fa,fa,fa] rfl rfl (any_of HT_.out (by kernel_rfl)) (fun _ _ _ h => h) (Or.inl ⟨by rfl, ?_⟩) ?_ ?_
                 rotate_left
                 ·intro w'
                  go_simp
                  with_reducible rfl
                 rotate_left
                 ·simp only [sP]
                  rfl
                 refine pure_ (i := 25) (N := some 98) (v := ?_) (a' := ?_) #[tr,tr,tr,tr,tr,tr,tr,tr,tr,tr,tr,tr,tr,tr,tr,tr,tr,tr,tr,tr,tr,tr,tr,tr,tr,tr,fa,fa] rfl rfl (any_of HT_.out (by kernel_rfl)) (fun _ _ _ h => h) (Or.inl ⟨by rfl, ?_⟩) ?_ ?_
                 rotate_left
                 ·intro w'
                  go_simp
                  with_reducible rfl
                 rotate_left
                 ·simp only [sP]
                  rfl
                 refine pure_ (i := 26) (N := some 99) (v := ?_) (a' := ?_) #[tr,tr,tr,tr,tr,tr,tr,tr,tr,tr,tr,tr,tr,tr,tr,tr,tr,tr,tr,tr,tr,tr,tr,tr,tr,tr,tr,fa] rfl rfl (any_of HT_.out (by kernel_rfl)) (fun _ _ _ h => h) (Or.inl ⟨by rfl, ?_⟩) ?_ ?_
                 rotate_left
                 ·intro w'
                  go_simp
                  with_reducible rfl
                 rotate_left
                 ·simp only [sP]
                  rfl
                 refine pure_ (i := 27) (N := some 72) (v := ?_) (a' := ?_) #[tr,tr,tr,tr,tr,tr,tr,tr,tr,tr,tr,tr,tr,tr,tr,tr,tr,tr,tr,tr,tr,tr,tr,tr,tr,tr,tr,tr] rfl rfl (any_of HT_.out (by kernel_rfl)) (fun _ _ _ h => h) (Or.inl ⟨by rfl, ?_⟩) ?_ ?_
                 rotate_left
                 ·intro w'
                  go_simp
                  with_reducible rfl
                 rotate_left
                 ·simp only [sP]
                  rfl
                 refine done_ (done_of HT_.out (by kernel_rfl)) ?_
                 try go_wp2
                 go_roundg kj27
                 case measure => have := HJ2.out; have := HK2.out; have := HJ27.out; omega
                 case rel => exact ⟨(wrap64 (x45_2 + 1)), rS, H', ⟨by have := HJ2.out; have := HK2.out; have := HJ27.out; omega⟩, ⟨bf0 BK125.out⟩, ⟨bw2 HB.out GE125.out GE130.out⟩⟩
               ·rw [if_neg c52] at H
                have c52b0 : ((wrap64 (((rd_T52 l1 x45_2).f0.f0) - 1)) == ((rd_T52 l1 (ji49)).f0.f1)) = false := beq_eq_false_iff_ne.mpr c52
                have c52b1 : ((wrap64 (((rd_T52 l1 x45_2).f0.f0) - 1)) != ((rd_T52 l1 (ji49)).f0.f1)) = true := bne_iff_ne.mpr c52
                obtain rfl := Option.some.inj H
                try go_wp2
                replace BK125 := Ax (blk_drew BK125.out)
                replace BK130 := Ax (blk_drew BK130.out)
                replace HB := Ax (below_drew1 HB.out)
                have p132 : 0 ≤ ((ji49) : Int) := of_decide_eq_true (by first | (with_reducible assumption) | assumption)
                have q132 : (ji49) < (l1.length : Int) := of_decide_eq_true (by first | (with_reducible assumption) | assumption)
                obtain ⟨ad132, e132, hx132_0, hx132_1, hx132_2, hx132_3⟩ := at_T52 HR1.out (ji49) p132 q132
                have hw132_3 := hx132_3
                have hw132_2 := hx132_2
                have hw132_1 := hx132_1
                have hw132_0 := hx132_0
                obtain rfl : ad129 = ad132 := (by injection e132)
                replace hx132_0 := (HB.out.cell (World.block_lt_of_cell? w _ hx132_0)).trans hx132_0
                replace hx132_1 := (HB.out.cell (World.block_lt_of_cell? w _ hx132_1)).trans hx132_1
                replace hx132_2 := (HB.out.cell (World.block_lt_of_cell? w _ hx132_2)).trans hx132_2
                replace hx132_3 := (HB.out.cell (World.block_lt_of_cell? w _ hx132_3)).trans hx132_3
                replace p132 := eq_true p132
                replace q132 := eq_true q132
                refine start_ (n := 28) (S := fun w' => w'.cell? ⟨gb130, 0, none⟩ = some (.int .i64 ((rd_T52 l1 x45_2).f0.f0)) ∧ w'.cell? ⟨gb130, 1, none⟩ = some (.int .i64 ((rd_T52 l1 x45_2).f0.f1)) ∧ w'.cell? ⟨gb130, 2, none⟩ = some (.int .u8 ((rd_T52 l1 x45_2).f1.f0)) ∧ w'.cell? ⟨gb130, 3, none⟩ = some (.int .i64 ((rd_T52 l1 x45_2).f1.f1)) ∧ w'.cell? (ad129.add (((ji49)).toNat * 4)) = some (.int .i64 ((rd_T52 l1 (ji49)).f0.f0)) ∧ w'.cell? ⟨(ad129.add (((ji49)).toNat * 4)).block, (ad129.add (((ji49)).toNat * 4)).off + 1, none⟩ = some (.int .i64 ((rd_T52 l1 (ji49)).f0.f1)) ∧ w'.cell? ⟨(ad129.add (((ji49)).toNat * 4)).block, (ad129.add (((ji49)).toNat * 4)).off + 2, none⟩ = some (.int .u8 ((rd_T52 l1 (ji49)).f1.f0)) ∧ w'.cell? ⟨(ad129.add (((ji49)).toNat * 4)).block, (ad129.add (((ji49)).toNat * 4)).off + 3, none⟩ = some (.int .i64 ((rd_T52 l1 (ji49)).f1.f1))) (ds := []) #[fa,fa,fa,fa,fa,fa,fa,fa,fa,fa,fa,fa,fa,fa,fa,fa,fa,fa,fa,fa,fa,fa,fa,fa,fa,fa,fa,fa] (by kernel_rfl) rfl rfl ⟨(blk_cell BK130.out 0).trans rfl, (blk_cell BK130.out 1).trans rfl, (blk_cell BK130.out 2).trans rfl, (blk_cell BK130.out 3).trans rfl, ((HB.out.cell (World.block_lt_of_cell? w _ hw132_0)).trans hw132_0), ((HB.out.cell (World.block_lt_of_cell? w _ hw132_1)).trans hw132_1), ((HB.out.cell (World.block_lt_of_cell? w _ hw132_2)).trans hw132_2), ((HB.out.cell (World.block_lt_of_cell? w _ hw132_3)).trans hw132_3)⟩ (fun hHeld => ?_); refine with_tabW line_Check.tab9 line_Check.bits9 (fun HT_ HW_ => ?_)
                generalize wc.drew = w56 at BK125 BK130 HB hx132_0 hx132_1 hx132_2 hx132_3 hHeld ⊢
                refine pure_ (i := 0) (N := some 73) (v := ?_) (a' := ?_) #[tr,fa,fa,fa,fa,fa,fa,fa,fa,fa,fa,fa,fa,fa,fa,fa,fa,fa,fa,fa,fa,fa,fa,fa,fa,fa,fa,fa] rfl rfl (any_of HT_.out (by kernel_rfl)) (fun _ _ _ h => h) (Or.inl ⟨by rfl, ?_⟩) ?_ ?_
                rotate_left
                ·intro w'
                 go_simp
                 with_reducible rfl
                rotate_left
                ·simp only [sP]
                 rfl
                refine pure_ (i := 1) (N := some 74) (v := ?_) (a' := ?_) #[tr,tr,fa,fa,fa,fa,fa,fa,fa,fa,fa,fa,fa,fa,fa,fa,fa,fa,fa,fa,fa,fa,fa,fa,fa,fa,fa,fa] rfl rfl (any_of HT_.out (by kernel_rfl)) (fun _ _ _ h => h) (Or.inl ⟨by rfl, ?_⟩) ?_ ?_
                rotate_left
                ·intro w'
                 go_simp
                 with_reducible rfl
                rotate_left
                ·simp only [sP]
                 rfl
                refine pure_ (i := 2) (N := some 75) (v := ?_) (a' := ?_) #[tr,tr,tr,fa,fa,fa,fa,fa,fa,fa,fa,fa,fa,fa,fa,fa,fa,fa,fa,fa,fa,fa,fa,fa,fa,fa,fa,fa] rfl rfl (any_of HT_.out (by kernel_rfl)) (fun _ _ _ h => h) (Or.inl ⟨by rfl, ?_⟩) ?_ ?_
                rotate_left
                ·intro w'
                 go_simp
                 with_reducible rfl
                rotate_left
                ·simp only [sP]
                 rfl
                refine pure_ (i := 3) (N := some 76) (v := ?_) (a' := ?_) #[tr,tr,tr,tr,fa,fa,fa,fa,fa,fa,fa,fa,fa,fa,fa,fa,fa,fa,fa,fa,fa,fa,fa,fa,fa,fa,fa,fa] rfl rfl (any_of HT_.out (by kernel_rfl)) (fun _ _ _ h => h) (Or.inl ⟨by rfl, ?_⟩) ?_ ?_
                rotate_left
                ·intro w'
                 go_simp
                 with_reducible rfl
                rotate_left
                ·simp only [sP]
                 rfl
                refine pure_ (i := 4) (N := some 77) (v := ?_) (a' := ?_) #[tr,tr,tr,tr,tr,fa,fa,fa,fa,fa,fa,fa,fa,fa,fa,fa,fa,fa,fa,fa,fa,fa,fa,fa,fa,fa,fa,fa] rfl rfl (any_of HT_.out (by kernel_rfl)) (fun _ _ _ h => h) (Or.inl ⟨by rfl, ?_⟩) ?_ ?_
                rotate_left
                ·intro w'
                 go_simp
                 with_reducible rfl
                rotate_left
                ·simp only [sP]
                 rfl
                refine pure_ (i := 7) (N := some 80) (v := ?_) (a' := ?_) #[tr,tr,tr,tr,tr,fa,fa,tr,fa,fa,fa,fa,fa,fa,fa,fa,fa,fa,fa,fa,fa,fa,fa,fa,fa,fa,fa,fa] rfl rfl (any_of HT_.out (by kernel_rfl)) (fun _ _ _ h => h) (Or.inl ⟨by rfl, ?_⟩) ?_ ?_
                rotate_left
                ·intro w'
                 go_simp
                 with_reducible rfl
                rotate_left
                ·simp only [sP]
                 rfl
                refine pure_ (i := 8) (N := some 81) (v := ?_) (a' := ?_) #[tr,tr,tr,tr,tr,fa,fa,tr,tr,fa,fa,fa,fa,fa,fa,fa,fa,fa,fa,fa,fa,fa,fa,fa,fa,fa,fa,fa] rfl rfl (any_of HT_.out (by kernel_rfl)) (fun _ _ _ h => h) (Or.inl ⟨by rfl, ?_⟩) ?_ ?_
                rotate_left
                ·intro w'
                 go_simp
                 with_reducible rfl
                rotate_left
                ·simp only [sP]
                 rfl
                refine pure_ (i := 9) (N := some 82) (v := ?_) (a' := ?_) #[tr,tr,tr,tr,tr,fa,fa,tr,tr,tr,fa,fa,fa,fa,fa,fa,fa,fa,fa,fa,fa,fa,fa,fa,fa,fa,fa,fa] rfl rfl (any_of HT_.out (by kernel_rfl)) (fun _ _ _ h => h) (Or.inl ⟨by rfl, ?_⟩) ?_ ?_
                rotate_left
                ·intro w'
                 go_simp
                 with_reducible rfl
                rotate_left
                ·simp only [sP]
                 rfl
                refine pure_ (i := 10) (N := some 83) (v := ?_) (a' := ?_) #[tr,tr,tr,tr,tr,fa,fa,tr,tr,tr,tr,fa,fa,fa,fa,fa,fa,fa,fa,fa,fa,fa,fa,fa,fa,fa,fa,fa] rfl rfl (any_of HT_.out (by kernel_rfl)) (fun _ _ _ h => h) (Or.inl ⟨by rfl, ?_⟩) ?_ ?_
                rotate_left
                ·intro w'
                 go_simp
                 with_reducible rfl
                rotate_left
                ·simp only [sP]
                 rfl
                refine pure_ (i := 11) (N := some 84) (v := ?_) (a' := ?_) #[tr,tr,tr,tr,tr,fa,fa,tr,tr,tr,tr,tr,fa,fa,fa,fa,fa,fa,fa,fa,fa,fa,fa,fa,fa,fa,fa,fa] rfl rfl (any_of HT_.out (by kernel_rfl)) (fun _ _ _ h => h) (Or.inl ⟨by rfl, ?_⟩) ?_ ?_
                rotate_left
                ·intro w'
                 go_simp
                 with_reducible rfl
                rotate_left
                ·simp only [sP]
                 rfl
                refine pure_ (i := 12) (N := some 85) (v := ?_) (a' := ?_) #[tr,tr,tr,tr,tr,fa,fa,tr,tr,tr,tr,tr,tr,fa,fa,fa,fa,fa,fa,fa,fa,fa,fa,fa,fa,fa,fa,fa] rfl rfl (any_of HT_.out (by kernel_rfl)) (fun _ _ _ h => h) (Or.inl ⟨by rfl, ?_⟩) ?_ ?_
                rotate_left
                ·intro w'
                 go_simp
                 with_reducible rfl
                rotate_left
                ·simp only [sP]
                 rfl
                refine take_ (i := 5) (N := some 78) (v := ?_) (a' := ?_) #[tr,tr,tr,tr,tr,tr,fa,tr,tr,tr,tr,tr,tr,fa,fa,fa,fa,fa,fa,fa,fa,fa,fa,fa,fa,fa,fa,fa] rfl rfl (take_ofW HT_.out HW_.out (by kernel_rfl)) (fun _ _ _ h => h) (Or.inl ⟨by rfl, ?_⟩) hHeld ?_ ?_
                rotate_left
                ·rintro w' ⟨s0, s1, s2, s3, s4, s5, s6, s7⟩
                 go_simp
                 with_reducible rfl
                rotate_left
                ·simp only [sP]
                 rfl
                refine pure_ (i := 6) (N := some 79) (v := ?_) (a' := ?_) #[tr,tr,tr,tr,tr,tr,tr,tr,tr,tr,tr,tr,tr,fa,fa,fa,fa,fa,fa,fa,fa,fa,fa,fa,fa,fa,fa,fa] rfl rfl (any_of HT_.out (by kernel_rfl)) (fun _ _ _ h => h) (Or.inl ⟨by rfl, ?_⟩) ?_ ?_
                rotate_left
                ·intro w'
                 go_simp
                 with_reducible rfl
                rotate_left
                ·simp only [sP]
                 rfl
                refine take_ (i := 13) (N := some 86) (v := ?_) (a' := ?_) #[tr,tr,tr,tr,tr,tr,tr,tr,tr,tr,tr,tr,tr,tr,fa,fa,fa,fa,fa,fa,fa,fa,fa,fa,fa,fa,fa,fa] rfl rfl (take_ofW HT_.out HW_.out (by kernel_rfl)) (fun _ _ _ h => h) (Or.inl ⟨by rfl, ?_⟩) hHeld ?_ ?_
                rotate_left
                ·rintro w' ⟨s0, s1, s2, s3, s4, s5, s6, s7⟩
                 go_simp
                 with_reducible rfl
                rotate_left
                ·simp only [sP]
                 rfl
                refine pure_ (i := 14) (N := some 87) (v := ?_) (a' := ?_) #[tr,tr,tr,tr,tr,tr,tr,tr,tr,tr,tr,tr,tr,tr,tr,fa,fa,fa,fa,fa,fa,fa,fa,fa,fa,fa,fa,fa] rfl rfl (any_of HT_.out (by kernel_rfl)) (fun _ _ _ h => h) (Or.inl ⟨by rfl, ?_⟩) ?_ ?_
                rotate_left
                ·intro w'
                 go_simp
                 with_reducible rfl
                rotate_left
                ·simp only [sP]
                 rfl
                refine pure_ (i := 15) (N := some 88) (v := ?_) (a' := ?_) #[tr,tr,tr,tr,tr,tr,tr,tr,tr,tr,tr,tr,tr,tr,tr,tr,fa,fa,fa,fa,fa,fa,fa,fa,fa,fa,fa,fa] rfl rfl (any_of HT_.out (by kernel_rfl)) (fun _ _ _ h => h) (Or.inl ⟨by rfl, ?_⟩) ?_ ?_
                rotate_left
                ·intro w'
                 go_simp
                 with_reducible rfl
                rotate_left
                ·simp only [sP]
                 rfl
                refine pure_ (i := 16) (N := some 89) (v := undef) (a' := ?_) #[tr,tr,tr,tr,tr,tr,tr,tr,tr,tr,tr,tr,tr,tr,tr,tr,tr,fa,fa,fa,fa,fa,fa,fa,fa,fa,fa,fa] rfl rfl (any_of HT_.out (by kernel_rfl)) (fun _ _ _ h => h) (Or.inr ⟨by rfl, rfl⟩) ?_ ?_
                rotate_left
                ·simp only [sP]
                 rfl
                refine pure_ (i := 17) (N := some 90) (v := undef) (a' := ?_) #[tr,tr,tr,tr,tr,tr,tr,tr,tr,tr,tr,tr,tr,tr,tr,tr,tr,tr,fa,fa,fa,fa,fa,fa,fa,fa,fa,fa] rfl rfl (any_of HT_.out (by kernel_rfl)) (fun _ _ _ h => h) (Or.inr ⟨by rfl, rfl⟩) ?_ ?_
                rotate_left
                ·simp only [sP]
                 rfl
                refine pure_ (i := 18) (N := some 91) (v := undef) (a' := ?_) #[tr,tr,tr,tr,tr,tr,tr,tr,tr,tr,tr,tr,tr,tr,tr,tr,tr,tr,tr,fa,fa,fa,fa,fa,fa,fa,fa,fa] rfl rfl (any_of HT_.out (by kernel_rfl)) (fun _ _ _ h => h) (Or.inr ⟨by rfl, rfl⟩) ?_ ?_
                rotate_left
                ·simp only [sP]
                 rfl
                refine pure_ (i := 19) (N := some 92) (v := undef) (a' := ?_) #[tr,tr,tr,tr,tr,tr,tr,tr,tr,tr,tr,tr,tr,tr,tr,tr,tr,tr,tr,tr,fa,fa,fa,fa,fa,fa,fa,fa] rfl rfl (any_of HT_.out (by kernel_rfl)) (fun _ _ _ h => h) (Or.inr ⟨by rfl, rfl⟩) ?_ ?_
                rotate_left
                ·simp only [sP]
                 rfl
                refine pure_ (i := 20) (N := some 93) (v := undef) (a' := ?_) #[tr,tr,tr,tr,tr,tr,tr,tr,tr,tr,tr,tr,tr,tr,tr,tr,tr,tr,tr,tr,tr,fa,fa,fa,fa,fa,fa,fa] rfl rfl (any_of HT_.out (by kernel_rfl)) (fun _ _ _ h => h) (Or.inr ⟨by rfl, rfl⟩) ?_ ?_
                rotate_left
                ·simp only [sP]
                 rfl
                refine pure_ (i := 21) (N := some 94) (v := undef) (a' := ?_) #[tr,tr,tr,tr,tr,tr,tr,tr,tr,tr,tr,tr,tr,tr,tr,tr,tr,tr,tr,tr,tr,tr,fa,fa,fa,fa,fa,fa] rfl rfl (any_of HT_.out (by kernel_rfl)) (fun _ _ _ h => h) (Or.inr ⟨by rfl, rfl⟩) ?_ ?_
                rotate_left
                ·simp only [sP]
                 rfl
                refine pure_ (i := 22) (N := some 95) (v := undef) (a' := ?_) #[tr,tr,tr,tr,tr,tr,tr,tr,tr,tr,tr,tr,tr,tr,tr,tr,tr,tr,tr,tr,tr,tr,tr,fa,fa,fa,fa,fa] rfl rfl (any_of HT_.out (by kernel_rfl)) (fun _ _ _ h => h) (Or.inr ⟨by rfl, rfl⟩) ?_ ?_
                rotate_left
                ·simp only [sP]
                 rfl
                refine pure_ (i := 23) (N := some 96) (v := undef) (a' := ?_) #[tr,tr,tr,tr,tr,tr,tr,tr,tr,tr,tr,tr,tr,tr,tr,tr,tr,tr,tr,tr,tr,tr,tr,tr,fa,fa,fa,fa] rfl rfl (any_of HT_.out (by kernel_rfl)) (fun _ _ _ h => h) (Or.inr ⟨by rfl, rfl⟩) ?_ ?_
                rotate_left
                ·simp only [sP]
                 rfl
                refine pure_ (i := 24) (N := some 97) (v := undef) (a' := ?_) #[tr,tr,tr,tr,tr,tr,tr,tr,tr,tr,tr,tr,tr,tr,tr,tr,tr,tr,tr,tr,tr,tr,tr,tr,tr,fa,fa,fa] rfl rfl (any_of HT_.out (by kernel_rfl)) (fun _ _ _ h => h) (Or.inr ⟨by rfl, rfl⟩) ?_ ?_
                rotate_left
                ·simp only [sP]
                 rfl
                refine pure_ (i := 25) (N := some 98) (v := ?_) (a' := ?_) #[tr,tr,tr,tr,tr,tr,tr,tr,tr,tr,tr,tr,tr,tr,tr,tr,tr,tr,tr,tr,tr,tr,tr,tr,tr,tr,fa,fa] rfl rfl (any_of HT_.out (by kernel_rfl)) (fun _ _ _ h => h) (Or.inl ⟨by rfl, ?_⟩) ?_ ?_
                rotate_left
                ·intro w'
                 go_simp
                 with_reducible rfl
                rotate_left
                ·simp only [sP]
                 rfl
                refine pure_ (i := 26) (N := some 99) (v := ?_) (a' := ?_) #[tr,tr,tr,tr,tr,tr,tr,tr,tr,tr,tr,tr,tr,tr,tr,tr,tr,tr,tr,tr,tr,tr,tr,tr,tr,tr,tr,fa] rfl rfl (any_of HT_.out (by kernel_rfl)) (fun _ _ _ h => h) (Or.inl ⟨by rfl, ?_⟩) ?_ ?_
                rotate_left
                ·intro w'
                 go_simp
                 with_reducible rfl
                rotate_left
                ·simp only [sP]
                 rfl
                refine pure_ (i := 27) (N := some 72) (v := ?_) (a' := ?_) #[tr,tr,tr,tr,tr,tr,tr,tr,tr,tr,tr,tr,tr,tr,tr,tr,tr,tr,tr,tr,tr,tr,tr,tr,tr,tr,tr,tr] rfl rfl (any_of HT_.out (by kernel_rfl)) (fun _ _ _ h => h) (Or.inl ⟨by rfl, ?_⟩) ?_ ?_
                rotate_left
                ·intro w'
                 go_simp
                 with_reducible rfl
                rotate_left
                ·simp only [sP]
                 rfl
                refine done_ (done_of HT_.out (by kernel_rfl)) ?_
                try go_wp2
                go_ret
                exact ⟨by first | rfl | (simp [errW_none, errW_some] <;> rfl) | (simp only [← hji49]; first | rfl | (simp [errW_none, errW_some] <;> rfl)) | (simp [*, errW_none, errW_some] <;> rfl), bw2 HB.out GE125.out GE130.out⟩
              ·rw [if_neg c51] at H
               exact absurd H (by simp)
             ·rw [if_neg c50] at H
              exact absurd H (by simp)
            ·rw [if_neg c48] at H
             have c48b0 : decide (0 < x45_2) = false := decide_eq_false c48
             clear c48
             have H' := Ax H
             clear H
             try go_wp2
             replace BK125 := Ax (blk_drew BK125.out)
             replace BK130 := Ax (blk_drew BK130.out)
             replace HB := Ax (below_drew1 HB.out)
             refine start_ (n := 28) (S := fun w' => True) (ds := []) #[fa,fa,fa,fa,fa,fa,fa,fa,fa,fa,fa,fa,fa,fa,fa,fa,fa,fa,fa,fa,fa,fa,fa,fa,fa,fa,fa,fa] (by kernel_rfl) rfl rfl trivial (fun hHeld => ?_); refine with_tabW line_Check.tab9 line_Check.bits9 (fun HT_ HW_ => ?_)
             generalize wc.drew = w57 at BK125 BK130 HB hHeld ⊢
             refine pure_ (i := 0) (N := some 73) (v := ?_) (a' := ?_) #[tr,fa,fa,fa,fa,fa,fa,fa,fa,fa,fa,fa,fa,fa,fa,fa,fa,fa,fa,fa,fa,fa,fa,fa,fa,fa,fa,fa] rfl rfl (any_of HT_.out (by kernel_rfl)) (fun _ _ _ h => h) (Or.inl ⟨by rfl, ?_⟩) ?_ ?_
             rotate_left
             ·intro w'
              go_simp
              with_reducible rfl
             rotate_left
             ·simp only [sP]
              rfl
             refine pure_ (i := 1) (N := some 74) (v := ?_) (a' := ?_) #[tr,tr,fa,fa,fa,fa,fa,fa,fa,fa,fa,fa,fa,fa,fa,fa,fa,fa,fa,fa,fa,fa,fa,fa,fa,fa,fa,fa] rfl rfl (any_of HT_.out (by kernel_rfl)) (fun _ _ _ h => h) (Or.inl ⟨by rfl, ?_⟩) ?_ ?_
             rotate_left
             ·intro w'
              go_simp
              with_reducible rfl
             rotate_left
             ·simp only [sP]
              rfl
             refine pure_ (i := 2) (N := some 75) (v := ?_) (a' := ?_) #[tr,tr,tr,fa,fa,fa,fa,fa,fa,fa,fa,fa,fa,fa,fa,fa,fa,fa,fa,fa,fa,fa,fa,fa,fa,fa,fa,fa] rfl rfl (any_of HT_.out (by kernel_rfl)) (fun _ _ _ h => h) (Or.inl ⟨by rfl, ?_⟩) ?_ ?_
             rotate_left
             ·intro w'
              go_simp
              with_reducible rfl
             rotate_left
             ·simp only [sP]
              rfl
             refine pure_ (i := 3) (N := some 76) (v := undef) (a' := ?_) #[tr,tr,tr,tr,fa,fa,fa,fa,fa,fa,fa,fa,fa,fa,fa,fa,fa,fa,fa,fa,fa,fa,fa,fa,fa,fa,fa,fa] rfl rfl (any_of HT_.out (by kernel_rfl)) (fun _ _ _ h => h) (Or.inr ⟨by rfl, rfl⟩) ?_ ?_
             rotate_left
             ·simp only [sP]
              rfl
             refine pure_ (i := 4) (N := some 77) (v := undef) (a' := ?_) #[tr,tr,tr,tr,tr,fa,fa,fa,fa,fa,fa,fa,fa,fa,fa,fa,fa,fa,fa,fa,fa,fa,fa,fa,fa,fa,fa,fa] rfl rfl (any_of HT_.out (by kernel_rfl)) (fun _ _ _ h => h) (Or.inr ⟨by rfl, rfl⟩) ?_ ?_
             rotate_left
             ·simp only [sP]
              rfl
             refine pure_ (i := 5) (N := some 78) (v := undef) (a' := ?_) #[tr,tr,tr,tr,tr,tr,fa,fa,fa,fa,fa,fa,fa,fa,fa,fa,fa,fa,fa,fa,fa,fa,fa,fa,fa,fa,fa,fa] rfl rfl (any_of HT_.out (by kernel_rfl)) (fun _ _ _ h => h) (Or.inr ⟨by rfl, rfl⟩) ?_ ?_
             rotate_left
             ·simp only [sP]
              rfl
             refine pure_ (i := 6) (N := some 79) (v := undef) (a' := ?_) #[tr,tr,tr,tr,tr,tr,tr,fa,fa,fa,fa,fa,fa,fa,fa,fa,fa,fa,fa,fa,fa,fa,fa,fa,fa,fa,fa,fa] rfl rfl (any_of HT_.out (by kernel_rfl)) (fun _ _ _ h => h) (Or.inr ⟨by rfl, rfl⟩) ?_ ?_
             rotate_left
             ·simp only [sP]
              rfl
             refine pure_ (i := 7) (N := some 80) (v := undef) (a' := ?_) #[tr,tr,tr,tr,tr,tr,tr,tr,fa,fa,fa,fa,fa,fa,fa,fa,fa,fa,fa,fa,fa,fa,fa,fa,fa,fa,fa,fa] rfl rfl (any_of HT_.out (by kernel_rfl)) (fun _ _ _ h => h) (Or.inr ⟨by rfl, rfl⟩) ?_ ?_
             rotate_left
             ·simp only [sP]
              rfl
             refine pure_ (i := 8) (N := some 81) (v := undef) (a' := ?_) #[tr,tr,tr,tr,tr,tr,tr,tr,tr,fa,fa,fa,fa,fa,fa,fa,fa,fa,fa,fa,fa,fa,fa,fa,fa,fa,fa,fa] rfl rfl (any_of HT_.out (by kernel_rfl)) (fun _ _ _ h => h) (Or.inr ⟨by rfl, rfl⟩) ?_ ?_
             rotate_left
             ·simp only [sP]
              rfl
             refine pure_ (i := 9) (N := some 82) (v := undef) (a' := ?_) #[tr,tr,tr,tr,tr,tr,tr,tr,tr,tr,fa,fa,fa,fa,fa,fa,fa,fa,fa,fa,fa,fa,fa,fa,fa,fa,fa,fa] rfl rfl (any_of HT_.out (by kernel_rfl)) (fun _ _ _ h => h) (Or.inr ⟨by rfl, rfl⟩) ?_ ?_
             rotate_left
             ·simp only [sP]
              rfl
             refine pure_ (i := 10) (N := some 83) (v := undef) (a' := ?_) #[tr,tr,tr,tr,tr,tr,tr,tr,tr,tr,tr,fa,fa,fa,fa,fa,fa,fa,fa,fa,fa,fa,fa,fa,fa,fa,fa,fa] rfl rfl (any_of HT_.out (by kernel_rfl)) (fun _ _ _ h => h) (Or.inr ⟨by rfl, rfl⟩) ?_ ?_
             rotate_left
             ·simp only [sP]
              rfl
             refine pure_ (i := 11) (N := some 84) (v := undef) (a' := ?_) #[tr,tr,tr,tr,tr,tr,tr,tr,tr,tr,tr,tr,fa,fa,fa,fa,fa,fa,fa,fa,fa,fa,fa,fa,fa,fa,fa,fa] rfl rfl (any_of HT_.out (by kernel_rfl)) (fun _ _ _ h => h) (Or.inr ⟨by rfl, rfl⟩) ?_ ?_
             rotate_left
             ·simp only [sP]
              rfl
             refine pure_ (i := 12) (N := some 85) (v := undef) (a' := ?_) #[tr,tr,tr,tr,tr,tr,tr,tr,tr,tr,tr,tr,tr,fa,fa,fa,fa,fa,fa,fa,fa,fa,fa,fa,fa,fa,fa,fa] rfl rfl (any_of HT_.out (by kernel_rfl)) (fun _ _ _ h => h) (Or.inr ⟨by rfl, rfl⟩) ?_ ?_
             rotate_left
             ·simp only [sP]
              rfl
             refine pure_ (i := 13) (N := some 86) (v := undef) (a' := ?_) #[tr,tr,tr,tr,tr,tr,tr,tr,tr,tr,tr,tr,tr,tr,fa,fa,fa,fa,fa,fa,fa,fa,fa,fa,fa,fa,fa,fa] rfl rfl (any_of HT_.out (by kernel_rfl)) (fun _ _ _ h => h) (Or.inr ⟨by rfl, rfl⟩) ?_ ?_
             rotate_left
             ·simp only [sP]
              rfl
             refine pure_ (i := 14) (N := some 87) (v := undef) (a' := ?_) #[tr,tr,tr,tr,tr,tr,tr,tr,tr,tr,tr,tr,tr,tr,tr,fa,fa,fa,fa,fa,fa,fa,fa,fa,fa,fa,fa,fa] rfl rfl (any_of HT_.out (by kernel_rfl)) (fun _ _ _ h => h) (Or.inr ⟨by rfl, rfl⟩) ?_ ?_
             rotate_left
             ·simp only [sP]
              rfl
             refine pure_ (i := 15) (N := some 88) (v := undef) (a' := ?_) #[tr,tr,tr,tr,tr,tr,tr,tr,tr,tr,tr,tr,tr,tr,tr,tr,fa,fa,fa,fa,fa,fa,fa,fa,fa,fa,fa,fa] rfl rfl (any_of HT_.out (by kernel_rfl)) (fun _ _ _ h => h) (Or.inr ⟨by rfl, rfl⟩) ?_ ?_
             rotate_left
             ·simp only [sP]
              rfl
             refine pure_ (i := 16) (N := some 89) (v := undef) (a' := ?_) #[tr,tr,tr,tr,tr,tr,tr,tr,tr,tr,tr,tr,tr,tr,tr,tr,tr,fa,fa,fa,fa,fa,fa,fa,fa,fa,fa,fa] rfl rfl (any_of HT_.out (by kernel_rfl)) (fun _ _ _ h => h) (Or.inr ⟨by rfl, rfl⟩) ?_ ?_
             rotate_left
             ·simp only [sP]
              rfl
             refine pure_ (i := 17) (N := some 90) (v := undef) (a' := ?_) #[tr,tr,tr,tr,tr,tr,tr,tr,tr,tr,tr,tr,tr,tr,tr,tr,tr,tr,fa,fa,fa,fa,fa,fa,fa,fa,fa,fa] rfl rfl (any_of HT_.out (by kernel_rfl)) (fun _ _ _ h => h) (Or.inr ⟨by rfl, rfl⟩) ?_ ?_
             rotate_left
             ·simp only [sP]
              rfl
             refine pure_ (i := 18) (N := some 91) (v := undef) (a' := ?_) #[tr,tr,tr,tr,tr,tr,tr,tr,tr,tr,tr,tr,tr,tr,tr,tr,tr,tr,tr,fa,fa,fa,fa,fa,fa,fa,fa,fa] rfl rfl (any_of HT_.out (by kernel_rfl)) (fun _ _ _ h => h) (Or.inr ⟨by rfl, rfl⟩) ?_ ?_
             rotate_left
             ·simp only [sP]
              rfl
             refine pure_ (i := 19) (N := some 92) (v := undef) (a' := ?_) #[tr,tr,tr,tr,tr,tr,tr,tr,tr,tr,tr,tr,tr,tr,tr,tr,tr,tr,tr,tr,fa,fa,fa,fa,fa,fa,fa,fa] rfl rfl (any_of HT_.out (by kernel_rfl)) (fun _ _ _ h => h) (Or.inr ⟨by rfl, rfl⟩) ?_ ?_
             rotate_left
             ·simp only [sP]
              rfl
             refine pure_ (i := 20) (N := some 93) (v := undef) (a' := ?_) #[tr,tr,tr,tr,tr,tr,tr,tr,tr,tr,tr,tr,tr,tr,tr,tr,tr,tr,tr,tr,tr,fa,fa,fa,fa,fa,fa,fa] rfl rfl (any_of HT_.out (by kernel_rfl)) (fun _ _ _ h => h) (Or.inr ⟨by rfl, rfl⟩) ?_ ?_
             rotate_left
             ·simp only [sP]
              rfl
             refine pure_ (i := 21) (N := some 94) (v := undef) (a' := ?_) #[tr,tr,tr,tr,tr,tr,tr,tr,tr,tr,tr,tr,tr,tr,tr,tr,tr,tr,tr,tr,tr,tr,fa,fa,fa,fa,fa,fa] rfl rfl (any_of HT_.out (by kernel_rfl)) (fun _ _ _ h => h) (Or.inr ⟨by rfl, rfl⟩) ?_ ?_
             rotate_left
             ·simp only [sP]
              rfl
             refine pure_ (i := 22) (N := some 95) (v := undef) (a' := ?_) #[tr,tr,tr,tr,tr,tr,tr,tr,tr,tr,tr,tr,tr,tr,tr,tr,tr,tr,tr,tr,tr,tr,tr,fa,fa,fa,fa,fa] rfl rfl (any_of HT_.out (by kernel_rfl)) (fun _ _ _ h => h) (Or.inr ⟨by rfl, rfl⟩) ?_ ?_
             rotate_left
             ·simp only [sP]
              rfl
             refine pure_ (i := 23) (N := some 96) (v := undef) (a' := ?_) #[tr,tr,tr,tr,tr,tr,tr,tr,tr,tr,tr,tr,tr,tr,tr,tr,tr,tr,tr,tr,tr,tr,tr,tr,fa,fa,fa,fa] rfl rfl (any_of HT_.out (by kernel_rfl)) (fun _ _ _ h => h) (Or.inr ⟨by rfl, rfl⟩) ?_ ?_
             rotate_left
             ·simp only [sP]
              rfl
             refine pure_ (i := 24) (N := some 97) (v := undef) (a' := ?_) #[tr,tr,tr,tr,tr,tr,tr,tr,tr,tr,tr,tr,tr,tr,tr,tr,tr,tr,tr,tr,tr,tr,tr,tr,tr,fa,fa,fa] rfl rfl (any_of HT_.out (by kernel_rfl)) (fun _ _ _ h => h) (Or.inr ⟨by rfl, rfl⟩) ?_ ?_
             rotate_left
             ·simp only [sP]
              rfl
             refine pure_ (i := 25) (N := some 98) (v := undef) (a' := ?_) #[tr,tr,tr,tr,tr,tr,tr,tr,tr,tr,tr,tr,tr,tr,tr,tr,tr,tr,tr,tr,tr,tr,tr,tr,tr,tr,fa,fa] rfl rfl (any_of HT_.out (by kernel_rfl)) (fun _ _ _ h => h) (Or.inr ⟨by rfl, rfl⟩) ?_ ?_
             rotate_left
             ·simp only [sP]
              rfl
             refine pure_ (i := 26) (N := some 99) (v := ?_) (a' := ?_) #[tr,tr,tr,tr,tr,tr,tr,tr,tr,tr,tr,tr,tr,tr,tr,tr,tr,tr,tr,tr,tr,tr,tr,tr,tr,tr,tr,fa] rfl rfl (any_of HT_.out (by kernel_rfl)) (fun _ _ _ h => h) (Or.inl ⟨by rfl, ?_⟩) ?_ ?_
             rotate_left
             ·intro w'
              go_simp
              with_reducible rfl
             rotate_left
             ·simp only [sP]
              rfl
             refine pure_ (i := 27) (N := some 72) (v := ?_) (a' := ?_) #[tr,tr,tr,tr,tr,tr,tr,tr,tr,tr,tr,tr,tr,tr,tr,tr,tr,tr,tr,tr,tr,tr,tr,tr,tr,tr,tr,tr] rfl rfl (any_of HT_.out (by kernel_rfl)) (fun _ _ _ h => h) (Or.inl ⟨by rfl, ?_⟩) ?_ ?_
             rotate_left
             ·intro w'
              go_simp
              with_reducible rfl
             rotate_left
             ·simp only [sP]
              rfl
             refine done_ (done_of HT_.out (by kernel_rfl)) ?_
             try go_wp2
             go_roundg kj27
             case measure => have := HJ2.out; have := HK2.out; have := HJ27.out; omega
             case rel => exact ⟨(wrap64 (x45_2 + 1)), rS, H', ⟨by have := HJ2.out; have := HK2.out; have := HJ27.out; omega⟩, ⟨bf0 BK125.out⟩, ⟨bw2 HB.out GE125.out GE130.out⟩⟩
        ·rw [if_neg c27] at H
         exact absurd H (by simp)
       ·rw [if_neg c26] at H
        exact absurd H (by simp)
      ·rw [if_neg c25] at H
       have c25b0 : decide (x45_2 < (l1.length : Int)) = false := decide_eq_false c25
       clear c25
       obtain rfl := Option.some.inj H
       go_wp2
       go_ret
       exact ⟨eS, bw1 HB.out GE125.out⟩
end Go.Proofs.Ytghklhdooemjdaa.Q
end
section
namespace Go.Proofs.Ytghklhdooemjdaa.Q
open Go.RowKit Go.Proofs.YtghklhdooemjdaaW.PrintWords Go.Proofs.YtghklhdooemjdaaW.PrintLast Go.Proofs.YtghklhdooemjdaaW.PrintMore
attribute [local go_sem] max2_int min2_int max_two min_two max_three min_three max_four min_four   -- for this text's walks alone
set_option linter.unusedVariables false
set_option linter.unusedSimpArgs false
attribute [local go_sem high] eqA35
theorem at1_is (B : Nat) (t : Int) (x : S52) (w : World) (hB : w.heap[B]? = some (.cells #[.int .i64 t] 2 (0, 0))) :
    Calls Try.prog 33 #[.agg #[.int .i64 x.f0.f0, .int .i64 x.f0.f1, .int .u8 x.f1.f0, .int .i64 x.f1.f1], .pointer (some ⟨B, 0, none⟩)] w fun e w' => e = .returned (.bool (decide (t ≤ x.f0.f1))) ∧ Below w.heap.size w w' := by
  have hc : (w.alloc (.cells #[.int .i64 x.f0.f0, .int .i64 x.f0.f1, .int .u8 x.f1.f0, .int .i64 x.f1.f1] 52)).cell? ⟨B, 0, none⟩ = some (.int .i64 t) := (blk_cell (blk_alloc hB _) 0).trans rfl
  go_enter Try.func33, Try.ntmps33
  go_wp2
  go_ret
  exact ⟨rfl, below_alloc (Below.refl _ _) _⟩
def idxFrom (t : Int) : Nat → List S52 → Int
  | _, [] => -1
  | i, x :: xs => if t ≤ x.f0.f1 then (i : Int) else idxFrom t (i + 1) xs
set_option maxRecDepth 100000 in
set_option maxHeartbeats 4000000 in
theorem idx_is (B : Nat) (t : Int) (A0 : Option Addr) (c0 : Nat) (l0 : List S52) (r : Int) (h : idxFrom t 0 l0 = r) (w : World) (hB : w.heap[B]? = some (.cells #[.int .i64 t] 2 (0, 0))) (hr0 : Kd.C k52 w A0 l0.length l0) (hc0 : l0.length ≤ c0) :
    Calls Try.prog 32 #[.slice A0 l0.length c0, .func (.func 33) #[] #[.pointer (some ⟨B, 0, none⟩)]] w fun e w' => e = .returned (.int .i64 r) ∧ Below w.heap.size w w' := by
  have HR0 := Aside0.mk hr0
  have HM := Aside0.mk (Kd.C_max hr0)
  have H0 := Aside0.mk h
  have HB0 := Aside0.mk hB
  clear hr0 hB h
  go_enter Try.func32, Try.ntmps32
  go_wp2
  go_loopg [8] l0.length (fun kq v8 w' => ∃ (i : Nat), v8 = .int .i64 (i : Int) ∧ Aside0 (i ≤ l0.length ∧ kq = l0.length - i) ∧ Aside0 (idxFrom t i (l0.drop i) = r) ∧ Aside0 (w'.heap[B]? = some (.cells #[.int .i64 t] 2 (0, 0))) ∧ Aside0 (Below w.heap.size w w'))
  case atStart => exact ⟨0, rfl, ⟨Nat.zero_le _, rfl⟩, H0, HB0, ⟨Below.refl _ _⟩⟩
  case round =>
    clear H0 HB0
    obtain ⟨i, rfl, HI, HA, HB, Hb⟩ := hrel
    have hm := HM.out
    by_cases hi : i < l0.length
    · have hd : decide ((i : Int) < (l0.length : Int)) = true := decide_eq_true (by omega)
      have hdn : decide (i < l0.length) = true := decide_eq_true hi
      have hrd : l0.drop i = rd_T52 l0 (i : Int) :: l0.drop (i + 1) := by
        rw [List.drop_eq_getElem_cons hi]
        simp [rd_T52, List.getD_eq_getElem?_getD, hi]
      have ha := HA.out
      rw [hrd] at ha
      have p0 : (0 : Int) ≤ (i : Int) := by omega
      have q0 : (i : Int) < (l0.length : Int) := by omega
      obtain ⟨ad, ead, hx0, hx1, hx2, hx3⟩ := at_T52 (Kd.C_below HR0.out Hb.out) (i : Int) p0 q0
      cases ead
      simp only [Int.toNat_natCast] at hx0 hx1 hx2 hx3
      generalize rd_T52 l0 (i : Int) = x at *
      simp only [idxFrom] at ha
      have HII := Aside0.mk hi
      replace p0 := eq_true p0
      replace q0 := eq_true q0
      clear hrd HA
      by_cases c1 : t ≤ x.f0.f1
      · have d1 : decide (t ≤ x.f0.f1) = true := decide_eq_true c1
        rw [if_pos c1] at ha
        subst ha
        go_wp2_with (go_at_call 33; refine (at1_is B t x _ HB.out).mono ?_; rintro e w5 ⟨rfl, hb5⟩; have Hb5 := Aside0.mk (below_step Hb.out hb5); clear hb5)
        go_ret
        exact ⟨rfl, Hb5.out⟩
      · have d1 : decide (t ≤ x.f0.f1) = false := decide_eq_false c1
        rw [if_neg c1] at ha
        have HA2 := Aside0.mk ha
        clear ha
        go_wp2_with (go_at_call 33; refine (at1_is B t x _ HB.out).mono ?_; rintro e w5 ⟨rfl, hb5⟩; have Hb5 := Aside0.mk (below_step Hb.out hb5); have HB5 := Aside0.mk (blk_below HB.out hb5); clear hb5)
        go_roundg (l0.length - (i + 1))
        case measure => have := HI.out; omega
        case rel => exact ⟨i + 1, by go_num, ⟨by omega, rfl⟩, HA2, HB5, Hb5⟩
    · have hd : decide ((i : Int) < (l0.length : Int)) = false := decide_eq_false (by omega)
      have hdn : decide (i < l0.length) = false := decide_eq_false hi
      have ha := HA.out
      rw [List.drop_eq_nil_of_le (by omega)] at ha
      simp only [idxFrom] at ha
      subst ha
      clear HA
      go_wp2
      go_ret
      exact ⟨rfl, Hb.out⟩
theorem idx_range (t : Int) : ∀ (l : List S52) (i : Nat), idxFrom t i l = -1 ∨ ((i : Int) ≤ idxFrom t i l ∧ idxFrom t i l < (i : Int) + l.length)
  | [], i => .inl rfl
  | x :: xs, i => by
    by_cases c : t ≤ x.f0.f1
    · right
      simp only [idxFrom, if_pos c, List.length_cons]
      omega
    · have h := idx_range t xs (i + 1)
      simp only [idxFrom, if_neg c, List.length_cons]
      omega
def line_At.f (k : Nat) (a0_0 a0_1 : Int) (l1 : List S52) (a2 : Int) : Option (Int × Int × Int) := (line_Check.f k a0_0 a0_1 l1).bind fun y =>
  if y ≠ 0 then some (0, 0, y) else if a2 < a0_0 ∨ a0_1 < a2 then some (0, 0, 1) else
  if 0 ≤ idxFrom a2 0 l1 then some ((rd_T52 l1 (idxFrom a2 0 l1)).f1.f0, (rd_T52 l1 (idxFrom a2 0 l1)).f1.f1, 0) else none
theorem line_At.mono : ∀ a0 a1 a2 a3 k, LeO (line_At.f k a0 a1 a2 a3) (line_At.f (k + 1) a0 a1 a2 a3) := by
  intro a0 a1 a2 a3 k
  unfold line_At.f
  exact LeO.bind (line_Check.mono _ _ _ _) (fun _ => LeO.refl _)
set_option maxRecDepth 100000 in
set_option maxHeartbeats 4000000 in
theorem line_At.calls (k : Nat) (a0_0 : Int) (a0_1 : Int) (A1 : Option Addr) (c1 : Nat) (l1 : List (S52)) (a2 : Int) (r1 : Int) (r2 : Int) (r3 : Int) (w : World) (hr1 : Kd.C k52 w A1 l1.length l1) (hc1 : l1.length ≤ c1) (h : line_At.f k a0_0 a0_1 l1 a2 = some (r1, r2, r3)) :
    Calls Try.prog 14 #[.agg #[.int .i64 a0_0, .int .i64 a0_1], .slice A1 l1.length c1, .int .i64 a2] w fun e w' => e = .returned (.tuple #[.agg #[.int .u8 r1, .int .i64 r2], .int .i64 r3]) ∧ Below w.heap.size w w' := by
  obtain ⟨y, hy, h⟩ := Option.bind_eq_some_iff.mp h
  have HY := Aside0.mk hy
  have HM := Aside0.mk (Kd.C_max hr1)
  have HC1 := Aside0.mk hc1
  have HB := Aside0.mk (below_alloc (below_alloc (below_alloc (Below.refl w.heap.size w) (.cells #[.int .i64 a0_0, .int .i64 a0_1] 23)) (.cells #[.int .i64 a2] 2)) (.cells #[.int .u8 0, .int .i64 0] 35))
  have HR := Aside0.mk (Kd.C_below hr1 HB.out)
  have BK0 := Aside0.mk (blk_alloc (blk_alloc (heap_alloc_new w (.cells #[.int .i64 a0_0, .int .i64 a0_1] 23)) (.cells #[.int .i64 a2] 2)) (.cells #[.int .u8 0, .int .i64 0] 35))
  have BK1 : Aside0 ((((w.alloc (.cells #[.int .i64 a0_0, .int .i64 a0_1] 23)).alloc (.cells #[.int .i64 a2] 2)).alloc (.cells #[.int .u8 0, .int .i64 0] 35)).heap[w.heap.size + 1]? = some (.cells #[.int .i64 a2] 2 (0, 0))) := ⟨by
    have := heap_alloc_new (w.alloc (.cells #[.int .i64 a0_0, .int .i64 a0_1] 23)) (.cells #[.int .i64 a2] 2)
    rw [World.size_alloc] at this
    exact blk_alloc this _⟩
  have BK2 : Aside0 ((((w.alloc (.cells #[.int .i64 a0_0, .int .i64 a0_1] 23)).alloc (.cells #[.int .i64 a2] 2)).alloc (.cells #[.int .u8 0, .int .i64 0] 35)).heap[w.heap.size + 1 + 1]? = some (.cells #[.int .u8 0, .int .i64 0] 35 (0, 0))) := ⟨by
    have := heap_alloc_new ((w.alloc (.cells #[.int .i64 a0_0, .int .i64 a0_1] 23)).alloc (.cells #[.int .i64 a2] 2)) (.cells #[.int .u8 0, .int .i64 0] 35)
    rw [World.size_alloc, World.size_alloc] at this
    exact this⟩
  clear hy hr1 hc1
  go_enter Try.func14, Try.ntmps14
  have hc0 := (blk_cell BK0.out 0).trans rfl
  have hc1 := (blk_cell BK0.out 1).trans rfl
  by_cases cy : y ≠ 0
  · rw [if_pos cy] at h
    obtain ⟨e1, e23⟩ := Prod.mk.inj (Option.some.inj h)
    obtain ⟨e2, e3⟩ := Prod.mk.inj e23
    subst e1
    subst e2
    subst e3
    have d0 : (y != 0) = true := bne_iff_ne.mpr cy
    clear cy h e23
    go_wp2_with (go_at_call 12; refine (line_Check.calls k a0_0 a0_1 A1 c1 l1 _ _ HR.out HC1.out HY.out).mono ?_; rintro e w5 ⟨rfl, hb5⟩; have BK5 := Aside0.mk (blk_below BK2.out hb5); have HB5 := Aside0.mk (below_step HB.out hb5); have hs0 := (blk_cell BK5.out 0).trans rfl; have hs1 := (blk_cell BK5.out 1).trans rfl; have hf0 := blk_frozen BK5.out 0; have hf1 := blk_frozen BK5.out 1)
    refine bodyPost_ret (results_ct rfl _ _ (w.heap.size + 1 + 1) 35 #[.int .u8 0, .int .i64 0] (0, 0) _ rfl (blk_put (blk_put BK5.out 0 (.int .u8 0) rfl) 1 (.int .i64 0) rfl) Try.underlying35 rfl (by kernel_rfl)) rfl ?_
    exact ⟨rfl, (HB5.out.setCell (p := ⟨w.heap.size + 1 + 1, 0, none⟩) (show w.heap.size ≤ w.heap.size + 1 + 1 by omega) _).setCell (p := ⟨w.heap.size + 1 + 1, 1, none⟩) (show w.heap.size ≤ w.heap.size + 1 + 1 by omega) _⟩
  · have cy0 : y = 0 := Decidable.not_not.mp cy
    subst cy0
    rw [if_neg cy] at h
    clear cy
    have d0 : ((0 : Int) != 0) = false := rfl
    by_cases cr : a2 < a0_0 ∨ a0_1 < a2
    · rw [if_pos cr] at h
      obtain ⟨e1, e23⟩ := Prod.mk.inj (Option.some.inj h)
      obtain ⟨e2, e3⟩ := Prod.mk.inj e23
      subst e1
      subst e2
      subst e3
      clear h e23
      have cr2 : decide (a2 < a0_0) = true ∨ (decide (a2 < a0_0) = false ∧ decide (a0_1 < a2) = true) := by
        by_cases c : a2 < a0_0
        · exact .inl (decide_eq_true c)
        · exact .inr ⟨decide_eq_false c, decide_eq_true (cr.resolve_left c)⟩
      clear cr
      obtain (da | ⟨da, db⟩) := cr2
      all_goals
        go_wp2_with (go_at_call 12; refine (line_Check.calls k a0_0 a0_1 A1 c1 l1 _ _ HR.out HC1.out HY.out).mono ?_; rintro e w5 ⟨rfl, hb5⟩; have BK5 := Aside0.mk (blk_below BK2.out hb5); have HB5 := Aside0.mk (below_step HB.out hb5); have hs0 := (blk_cell BK5.out 0).trans rfl; have hs1 := (blk_cell BK5.out 1).trans rfl; have hf0 := blk_frozen BK5.out 0; have hf1 := blk_frozen BK5.out 1; have hw0 := (blk_cell (blk_below BK0.out hb5) 0).trans rfl; have hw1 := (blk_cell (blk_below BK0.out hb5) 1).trans rfl; have hw2 := (blk_cell (blk_below BK1.out hb5) 0).trans rfl; have BK51 := Aside0.mk (blk_below BK1.out hb5); have HR5 := Aside0.mk (Kd.C_below HR.out hb5))
        refine bodyPost_ret (results_ct rfl _ _ (w.heap.size + 1 + 1) 35 #[.int .u8 0, .int .i64 0] (0, 0) _ rfl (blk_put (blk_put BK5.out 0 (.int .u8 0) rfl) 1 (.int .i64 0) rfl) Try.underlying35 rfl (by kernel_rfl)) rfl ?_
        exact ⟨rfl, (HB5.out.setCell (p := ⟨w.heap.size + 1 + 1, 0, none⟩) (show w.heap.size ≤ w.heap.size + 1 + 1 by omega) _).setCell (p := ⟨w.heap.size + 1 + 1, 1, none⟩) (show w.heap.size ≤ w.heap.size + 1 + 1 by omega) _⟩
    · rw [if_neg cr] at h
      have da : decide (a2 < a0_0) = false := decide_eq_false (fun c => cr (.inl c))
      have db : decide (a0_1 < a2) = false := decide_eq_false (fun c => cr (.inr c))
      clear cr
      obtain ⟨r, er⟩ : ∃ r, idxFrom a2 0 l1 = r := ⟨_, rfl⟩
      rw [er] at h
      by_cases ci : 0 ≤ r
      case neg => rw [if_neg ci] at h; cases h
      rw [if_pos ci] at h
      have hrr := idx_range a2 l1 0
      rw [er] at hrr
      have HI := Aside0.mk er
      have hrl : r < (l1.length : Int) := by omega
      have PI := Aside0.mk (And.intro ci hrl)
      have p0 : (0 ≤ r) = True := eq_true ci
      have q0 : (r < (l1.length : Int)) = True := eq_true hrl
      obtain ⟨x, ex⟩ : ∃ x, rd_T52 l1 r = x := ⟨_, rfl⟩
      have HX := Aside0.mk ex
      rw [ex] at h
      obtain ⟨e1, e23⟩ := Prod.mk.inj (Option.some.inj h)
      obtain ⟨e2, e3⟩ := Prod.mk.inj e23
      subst e1
      subst e2
      subst e3
      clear h e23 hrr hrl ci er ex
      go_wp2_with (first | (go_at_call 12; refine (line_Check.calls k a0_0 a0_1 A1 c1 l1 _ _ HR.out HC1.out HY.out).mono ?_; rintro e w5 ⟨rfl, hb5⟩; have BK5 := Aside0.mk (blk_below BK2.out hb5); have HB5 := Aside0.mk (below_step HB.out hb5); have hs0 := (blk_cell BK5.out 0).trans rfl; have hs1 := (blk_cell BK5.out 1).trans rfl; have hf0 := blk_frozen BK5.out 0; have hf1 := blk_frozen BK5.out 1; have hw0 := (blk_cell (blk_below BK0.out hb5) 0).trans rfl; have hw1 := (blk_cell (blk_below BK0.out hb5) 1).trans rfl; have hw2 := (blk_cell (blk_below BK1.out hb5) 0).trans rfl; have BK51 := Aside0.mk (blk_below BK1.out hb5); have HR5 := Aside0.mk (Kd.C_below HR.out hb5)) | (go_at_call 32; refine (idx_is (w.heap.size + 1) a2 A1 c1 l1 r HI.out _ BK51.out HR5.out HC1.out).mono ?_; rintro e w6 ⟨rfl, hb6⟩; have BK6 := Aside0.mk (blk_below BK5.out hb6); have HB6 := Aside0.mk (below_step HB5.out hb6); have gs0 := (blk_cell BK6.out 0).trans rfl; have gs1 := (blk_cell BK6.out 1).trans rfl; have gf0 := blk_frozen BK6.out 0; have gf1 := blk_frozen BK6.out 1; obtain ⟨ad3, ead3, hy0, hy1, hy2, hy3⟩ := at_T52 (Kd.C_below HR5.out hb6) r PI.out.1 PI.out.2; cases ead3; simp only [HX.out] at hy2 hy3; clear hy0 hy1))
      refine bodyPost_ret (results_ct rfl _ _ (w.heap.size + 1 + 1) 35 #[.int .u8 x.f1.f0, .int .i64 x.f1.f1] (0, 0) _ rfl (blk_put (blk_put BK6.out 0 (.int .u8 x.f1.f0) rfl) 1 (.int .i64 x.f1.f1) rfl) Try.underlying35 rfl (by kernel_rfl)) rfl ?_
      exact ⟨rfl, (HB6.out.setCell (p := ⟨w.heap.size + 1 + 1, 0, none⟩) (show w.heap.size ≤ w.heap.size + 1 + 1 by omega) _).setCell (p := ⟨w.heap.size + 1 + 1, 1, none⟩) (show w.heap.size ≤ w.heap.size + 1 + 1 by omega) _⟩
def line_When.l0 : Nat → List (S23) → List (S52) → Int → Int → Int → Int → Option ((List (S23)) × Int)
 | 0, _, _, _, _, _, _ => none
 | k + 1, x9, x18, x19, x20, x136000, x136001 => if x20 < x19 then (if 0 ≤ x20 then (if x20 < (x18.length : Int) then (if (((rd_T52 x18 x20).f1.f0) == x136000 && (((rd_T52 x18 x20).f1.f1) == x136001)) = true then (if x9.length < 8796093022208 then (line_When.l0 k (x9 ++ [(⟨(rd_T52 x18 x20).f0.f0, (rd_T52 x18 x20).f0.f1⟩ : S23)]) x18 x19 (wrap64 (x20 + 1)) x136000 x136001) else (none)) else (line_When.l0 k x9 x18 x19 (wrap64 (x20 + 1)) x136000 x136001)) else (none)) else (none)) else (some (x9, 0))
def line_When.f (k : Nat) (a0_0 : Int) (a0_1 : Int) (l1 : List (S52)) (a2_0 : Int) (a2_1 : Int) : Option ((List (S23)) × Int) := (line_Check.f k a0_0 a0_1 l1).bind fun t136 => (if t136 = 0 then (line_When.l0 k ([] : List (S23)) l1 (l1.length : Int) 0 a2_0 a2_1) else (some (([] : List (S23)), t136)))
theorem line_When.mono_l : ∀ k, (∀ y0 y1 y2 y3 y4 y5, LeO (line_When.l0 k y0 y1 y2 y3 y4 y5) (line_When.l0 (k + 1) y0 y1 y2 y3 y4 y5))
 | 0 => fun _ _ _ _ _ _ r h => by simp [line_When.l0] at h
 | k + 1 => by
  have ih0 := line_When.mono_l k
  ·intro y0 y1 y2 y3 y4 y5
   unfold line_When.l0
   repeat' first
   | (with_reducible exact ih0 _ _ _ _ _ _)
   | (with_reducible exact line_Check.mono _ _ _ _)
   | (with_reducible exact LeO.refl _)
   | (with_reducible exact LeO.none _)
   | (with_reducible refine LeO.ite ?_ ?_)
   | (with_reducible refine LeO.bind ?_ (fun _ => ?_))
   | exact ih0 _ _ _ _ _ _
   | exact line_Check.mono _ _ _ _
   | exact LeO.none _
   | refine LeO.ite ?_ ?_
   | refine LeO.bind ?_ (fun _ => ?_)
theorem line_When.mono : ∀ a0 a1 a2 a3 a4 k, LeO (line_When.f k a0 a1 a2 a3 a4) (line_When.f (k + 1) a0 a1 a2 a3 a4) := by
 intro a0 a1 a2 a3 a4 k
 have ih0 := line_When.mono_l k
 unfold line_When.f
 repeat' first
   | (with_reducible exact ih0 _ _ _ _ _ _)
   | (with_reducible exact line_Check.mono _ _ _ _)
   | (with_reducible exact LeO.refl _)
   | (with_reducible exact LeO.none _)
   | (with_reducible refine LeO.ite ?_ ?_)
   | (with_reducible refine LeO.bind ?_ (fun _ => ?_))
   | exact ih0 _ _ _ _ _ _
   | exact line_Check.mono _ _ _ _
   | exact LeO.none _
   | refine LeO.ite ?_ ?_
   | refine LeO.bind ?_ (fun _ => ?_)
set_option maxHeartbeats 8000000 in
set_option maxRecDepth 100000 in
theorem line_When.calls (k : Nat) (a0_0 : Int) (a0_1 : Int) (A1 : Option Addr) (c1 : Nat) (l1 : List (S52)) (a2_0 : Int) (a2_1 : Int) (r1 : List (S23)) (r2 : Int) (w : World) (hr1 : Kd.C k52 w A1 l1.length l1) (hc1 : l1.length ≤ c1) (h : line_When.f k a0_0 a0_1 l1 a2_0 a2_1 = some (r1, r2)) :
  Calls Try.prog 16 #[.agg #[.int .i64 a0_0, .int .i64 a0_1], .slice A1 l1.length c1, .agg #[.int .u8 a2_0, .int .i64 a2_1]] w fun e w' => ∃ v0_ : Value, e = .returned (.tuple #[v0_, .int .i64 r2]) ∧ Kd.R k23 23 w' w.heap.size (fun _ => True) v0_ r1 ∧ Below w.heap.size w w' := by
 have hu23 := Try.underlying23
 have hu35 := Try.underlying35
 have hu52 := Try.underlying52
 have HR1 := Ax hr1
 have HC1 := Ax hc1
 clear hr1 hc1
 have HB := Ax (Below.refl w.heap.size w)
 have H : ((line_Check.f k a0_0 a0_1 l1).bind fun t136 => (if t136 = 0 then (line_When.l0 k ([] : List (S23)) l1 (l1.length : Int) 0 a2_0 a2_1) else (some (([] : List (S23)), t136)))) = some (r1, r2) := h
 clear h
 replace H := Option.bind_eq_some_iff.mp H
 obtain ⟨t136, A40, H⟩ := H
 replace H : (if t136 = 0 then (line_When.l0 k ([] : List (S23)) l1 (l1.length : Int) 0 a2_0 a2_1) else (some (([] : List (S23)), t136))) = some (r1, r2) := H
 have A4 := Ax A40
 clear A40
 by_cases c5 : t136 = 0
 ·rw [if_pos c5] at H
  have c5b0 : (t136 == 0) = true := beq_iff_eq.mpr c5
  have c5b1 : (t136 != 0) = false := bne_eq_false_iff_eq.mpr c5
  clear c5
  have H' := Ax H
  clear H
  go_enter Try.func16, Try.ntmps16
  go_wp2_with (first | ((with_reducible refine gate_dst (N := 3) rfl ?_); refine box_event ?hg (N := 3) ?hd (cs := #[.int .i64 a0_0, .int .i64 a0_1]) (t := 23) ?hr ?_; (case hd => rfl); (case hg => rfl); (case hr => first | (go_simp; done) | (go_simp; rfl)); intro gb134 hg w6 hbox hb; have n0_ := Bs0 HB hb; have n1_ := Ax (hbox); have n2_ := Gw0 HB hg; have n3_ := Gw0 HB hg; clear HB; have HB := n0_; have BK134 := n1_; have GW134 := n2_; have GE134 := n3_; clear n0_ n1_ n2_ n3_; clear hb hbox hg) | ((with_reducible refine gate_dst (N := 5) rfl ?_); refine box_event ?hg (N := 5) ?hd (cs := #[.int .u8 a2_0, .int .i64 a2_1]) (t := 35) ?hr ?_; (case hd => rfl); (case hg => rfl); (case hr => first | (go_simp; done) | (go_simp; rfl)); intro gb135 hg w7 hbox hb; have n0_ := Bx0 BK134 hb; have n1_ := Bs1 HB hb GE134.out; have n2_ := Ax (hbox); have n3_ := Gw1 HB hg GE134.out; have n4_ := Gw1 HB hg GE134.out; have n5_ := Nl0 BK134 hg; have n6_ := Nr0 BK134 hg; clear BK134; clear HB; have BK134 := n0_; have HB := n1_; have BK135 := n2_; have GW135 := n3_; have GE135 := n4_; have NB134_135 := n5_; have NB135_134 := n6_; clear n0_ n1_ n2_ n3_ n4_ n5_ n6_; clear hb hbox hg; have hnb8 := NB134_135.out; have hnc8 := NB135_134.out; obtain ⟨hcz9_0, hcz9_1, hfz9_0, hfz9_1⟩ := cl2 BK134) | ((with_reducible refine gate_callee (f := 12) rfl ?_); refine goesL_ (some 14) rfl rfl Try.func12 (by kernel_rfl) rfl #[.agg #[.int .i64 a0_0, .int .i64 a0_1], .slice A1 l1.length c1] rfl gS ?_; (with_reducible refine (line_Check.calls k a0_0 a0_1 _ _ l1 t136 _ ?side1 ?side2 A4.out).mono ?_); (case side1 => repeat (first | exact (Kd.C_below HR1.out HB.out) | (with_reducible refine Kd.C_alloc ?_ _) | (with_reducible refine Kd.C_drewN ?_ _) | (with_reducible refine Kd.C_drew ?_))); (case side2 => exact HC1.out); rintro e w10 ⟨rfl, hb⟩; refine ⟨_, rfl, ?_⟩; replace BK134 := Bx0 BK134 hb; replace BK135 := Bx0 BK135 hb; replace HB := Bs2 HB hb GE134.out GE135.out; (try clear hb)))
  go_loopg [9, 20] k (fun kq v9 v20 w' => ∃ (x9_1 : List (S23)) (x20_1 : Int), v20 = .int .i64 x20_1 ∧ Aside0 (line_When.l0 kq x9_1 l1 (l1.length : Int) x20_1 a2_0 a2_1 = some (r1, r2)) ∧ Aside0 (kq ≤ k) ∧ Aside0 (Kd.R k23 23 w' w.heap.size (fun k_ => k_ ≠ gb134) v9 x9_1) ∧ Aside0 (w'.heap[gb134]? = some (.cells #[.int .i64 a0_0, .int .i64 a0_1] 23 (0, 0))) ∧ Aside0 (w'.heap[gb135]? = some (.cells #[.int .u8 a2_0, .int .i64 a2_1] 35 (0, 0))) ∧ Aside0 (Below w.heap.size w w'))
  case atStart => exact ⟨(([] : List (S23))), (0), rS, H', ⟨Nat.le_refl _⟩, ⟨by first | exact Kd.R_nil _ _ _ _ _ | exact Kd.N_nil _ _ _ _ _ | exact Kd.V_nil _ _ _ _ _ | exact Kd.Q_nil _ _ _ _ _ | exact Kd.S_nil _ _ _ _ _⟩, ⟨bf0 BK134.out⟩, ⟨bf0 BK135.out⟩, ⟨bw2 HB.out GE134.out GE135.out⟩⟩
  case round =>
   clear H'
   try clear c1
   try clear p2
   try clear c5
   try clear c5b0
   try clear c5b1
   try clear c8
   try clear hcz9_0
   try clear hcz9_1
   try clear hfz9_0
   try clear hfz9_1
   obtain ⟨x9_1, x20_1, rfl, HA, HK1, HO_9, BK134, BK135, HB⟩ := hrel
   cases gk with
   | zero => exact absurd HA.out (by simp [line_When.l0])
   | succ k1 =>
    have H := HA.out
    clear HA
    simp only [line_When.l0] at H
    by_cases c11 : x20_1 < (l1.length : Int)
    ·rw [if_pos c11] at H
     have c11b0 : decide (x20_1 < (l1.length : Int)) = true := decide_eq_true c11
     clear c11
     by_cases c12 : 0 ≤ x20_1
     ·rw [if_pos c12] at H
      have c12b0 : decide (0 ≤ x20_1) = true := decide_eq_true c12
      clear c12
      by_cases c13 : x20_1 < (l1.length : Int)
      ·rw [if_pos c13] at H
       have c13b0 : decide (x20_1 < (l1.length : Int)) = true := decide_eq_true c13
       clear c13
       by_cases c14 : (((rd_T52 l1 x20_1).f1.f0) == a2_0 && (((rd_T52 l1 x20_1).f1.f1) == a2_1)) = true
       ·rw [if_pos c14] at H
        have c14b0 : (((rd_T52 l1 x20_1).f1.f0) == a2_0 && (((rd_T52 l1 x20_1).f1.f1) == a2_1)) = true := c14
        (try (have c14b1 : decide (((rd_T52 l1 x20_1).f1.f0) = a2_0 && (((rd_T52 l1 x20_1).f1.f1) == a2_1)) = true := by simpa using c14))
        (try (have c14b2 : (((rd_T52 l1 x20_1).f1.f0) == a2_0 && (((rd_T52 l1 x20_1).f1.f1) == a2_1)) = true := by simpa using c14))
        clear c14
        by_cases c15 : x9_1.length < 8796093022208
        ·rw [if_pos c15] at H
         have LMc15 := Ax c15
         clear c15
         obtain ⟨y139, hy139⟩ : ∃ y_ : List (S23), y_ = (x9_1 ++ [(⟨(rd_T52 l1 x20_1).f0.f0, (rd_T52 l1 x20_1).f0.f1⟩ : S23)]) := ⟨_, rfl⟩
         replace H : (line_When.l0 k1 y139 l1 (l1.length : Int) (wrap64 (x20_1 + 1)) a2_0 a2_1) = some (r1, r2) := by first | (rw [hy139]; with_reducible exact H) | (have H2_ := (Option.bind_some _ _).symm.trans H; rw [hy139]; with_reducible exact H2_) | (have H2_ := (Option.bind_some _ _).symm.trans H; with_reducible exact H2_) | with_reducible exact H | (rw [hy139]; exact H) | exact H
         have Ny139 := Ax hy139
         clear hy139
         have H' := Ax H
         clear H
         have p137 : 0 ≤ (x20_1 : Int) := of_decide_eq_true (by first | (with_reducible assumption) | assumption)
         have q137 : x20_1 < (l1.length : Int) := of_decide_eq_true (by first | (with_reducible assumption) | assumption)
         obtain ⟨ad137, e137, hx137_0, hx137_1, hx137_2, hx137_3⟩ := at_T52 HR1.out x20_1 p137 q137
         cases e137
         replace hx137_0 := (HB.out.cell (World.block_lt_of_cell? w _ hx137_0)).trans hx137_0
         replace hx137_1 := (HB.out.cell (World.block_lt_of_cell? w _ hx137_1)).trans hx137_1
         replace hx137_2 := (HB.out.cell (World.block_lt_of_cell? w _ hx137_2)).trans hx137_2
         replace hx137_3 := (HB.out.cell (World.block_lt_of_cell? w _ hx137_3)).trans hx137_3
         replace p137 := eq_true p137
         replace q137 := eq_true q137
         go_wp2_with (first | ((with_reducible refine gate_dst (N := 11) rfl ?_); refine box_event ?hg (N := 11) ?hd (cs := #[.int .i64 0, .int .i64 0, .int .u8 0, .int .i64 0]) (t := 52) ?hr ?_; (case hd => rfl); (case hg => rfl); (case hr => first | (go_simp; done) | (go_simp; rfl)); intro gb138 hg w16 hbox hb; have n0_ := Ax (Kd.R_below (by (with_reducible repeat (first | apply Kd.R_alloc | apply Kd.R_drewN | apply Kd.R_drew)); exact HO_9.out) hb); have n1_ := Bx0 BK134 hb; have n2_ := Bx0 BK135 hb; have n3_ := Bs2 HB hb GE134.out GE135.out; have n4_ := Ax (hbox); have n5_ := Gw2 HB hg GE134.out GE135.out; have n6_ := Gw2 HB hg GE134.out GE135.out; have n7_ := Nl0 BK134 hg; have n8_ := Nr0 BK134 hg; have n9_ := Nl0 BK135 hg; have n10_ := Nr0 BK135 hg; clear HO_9; clear BK134; clear BK135; clear HB; have HO_9 := n0_; have BK134 := n1_; have BK135 := n2_; have HB := n3_; have BK138 := n4_; have GW138 := n5_; have GE138 := n6_; have NB134_138 := n7_; have NB138_134 := n8_; have NB135_138 := n9_; have NB138_135 := n10_; clear n0_ n1_ n2_ n3_ n4_ n5_ n6_ n7_ n8_ n9_ n10_; clear hb hbox hg; have hnb17 := NB138_134.out; have hnc17 := NB134_138.out; have hnb18 := NB138_135.out; have hnc18 := NB135_138.out; obtain ⟨hcz19_0, hcz19_1, hcz19_2, hcz19_3, hfz19_0, hfz19_1, hfz19_2, hfz19_3⟩ := cl4 BK138; have hnb20 := NB135_134.out; have hnc20 := NB134_135.out; obtain ⟨hcz21_0, hcz21_1, hfz21_0, hfz21_1⟩ := cl2 BK135) | ((with_reducible refine gate_builtin (b := .append) (xs := #[.tmp 28, .tmp 31]) rfl ?_); at_builtin; refine Kd.R_append k23 (w0 := w) w.heap.size rfl (.tmp 28) (.tmp 31) 38 23 (.agg #[(.int .i64 0), (.int .i64 0)]) 16 rfl Try.underlying38 info23 rfl (by decide) (by omega) u9 x9_1 (⟨(rd_T52 l1 x20_1).f0.f0, (rd_T52 l1 x20_1).f0.f1⟩ : S23) [.int .i64 ((rd_T52 l1 x20_1).f0.f0), .int .i64 ((rd_T52 l1 x20_1).f0.f1)] (fun k_ => k_ ≠ gb134) (fun _ => False) rfl (by first | (go_simp; done) | (go_simp; rfl)) ?aP (fun _ hk => hk.elim) ?aF ?aO ?aB ?aS ?aL ?_; (case aP => exact k23_mkM _ _ _ (⟨(rd_T52 l1 x20_1).f0.f0, (rd_T52 l1 x20_1).f0.f1⟩ : S23)); (case aB => exact (bw3 HB.out GE134.out GE135.out GE138.out)); (case aF => exact (fun k_ hk => Kd.freshB (g := gb134) (o := .cells #[.int .i64 a0_0, .int .i64 a0_1] 23 (0, 0)) (bf4 BK134.out NB134_138.out NB134_138.out NB134_138.out NB134_138.out) k_ hk)); (case aO => exact (by (with_reducible repeat (first | apply Kd.R_alloc | apply Kd.R_drewN | apply Kd.R_drew)); exact Kd.R_mono (Kd.R_far (p := ⟨gb138, 3, none⟩) (Kd.R_far (p := ⟨gb138, 2, none⟩) (Kd.R_far (p := ⟨gb138, 1, none⟩) (Kd.R_far (p := ⟨gb138, 0, none⟩) (Kd.R_types HO_9.out BK138.out (by decide)) (fun _ hk => hk.2) (.int .i64 ((rd_T52 l1 x20_1).f0.f0))) (fun _ hk => hk.2) (.int .i64 ((rd_T52 l1 x20_1).f0.f1))) (fun _ hk => hk.2) (.int .u8 ((rd_T52 l1 x20_1).f1.f0))) (fun _ hk => hk.2) (.int .i64 ((rd_T52 l1 x20_1).f1.f1))) (fun _ hk => hk.1))); (case aS => exact (below_size (bw3 HB.out GE134.out GE135.out GE138.out))); (case aL => have := LMc15.out; omega); intro v140 w22 ho hb hg hat; rw [← Ny139.out] at ho; have n0_ := Ax (blk_grown (g := gb134) (o := .cells #[.int .i64 a0_0, .int .i64 a0_1] 23 (0, 0)) (bf4 BK134.out NB134_138.out NB134_138.out NB134_138.out NB134_138.out) hg (Kd.R_away HO_9.out (fun _ hk => hk))); have n1_ := Ax (blk_grown (g := gb135) (o := .cells #[.int .u8 a2_0, .int .i64 a2_1] 35 (0, 0)) (bf4 BK135.out NB135_138.out NB135_138.out NB135_138.out NB135_138.out) hg (Kd.R_ne HO_9.out BK135.out (by decide))); have n2_ := Ax (blk_grown (g := gb138) (o := .cells #[.int .i64 ((rd_T52 l1 x20_1).f0.f0), .int .i64 ((rd_T52 l1 x20_1).f0.f1), .int .u8 ((rd_T52 l1 x20_1).f1.f0), .int .i64 ((rd_T52 l1 x20_1).f1.f1)] 52 (0, 0)) (by (with_reducible repeat (first | refine blk_drewN ?_ _ | refine blk_drew ?_ | refine blk_alloc ?_ _)); refine blk_put (cs := #[.int .i64 ((rd_T52 l1 x20_1).f0.f0), .int .i64 ((rd_T52 l1 x20_1).f0.f1), .int .u8 ((rd_T52 l1 x20_1).f1.f0), .int .i64 0]) ?_ 3 _ rfl; (with_reducible repeat (first | refine blk_drewN ?_ _ | refine blk_drew ?_ | refine blk_alloc ?_ _)); refine blk_put (cs := #[.int .i64 ((rd_T52 l1 x20_1).f0.f0), .int .i64 ((rd_T52 l1 x20_1).f0.f1), .int .u8 0, .int .i64 0]) ?_ 2 _ rfl; (with_reducible repeat (first | refine blk_drewN ?_ _ | refine blk_drew ?_ | refine blk_alloc ?_ _)); refine blk_put (cs := #[.int .i64 ((rd_T52 l1 x20_1).f0.f0), .int .i64 0, .int .u8 0, .int .i64 0]) ?_ 1 _ rfl; (with_reducible repeat (first | refine blk_drewN ?_ _ | refine blk_drew ?_ | refine blk_alloc ?_ _)); refine blk_put (cs := #[.int .i64 0, .int .i64 0, .int .u8 0, .int .i64 0]) ?_ 0 _ rfl; (with_reducible repeat (first | refine blk_drewN ?_ _ | refine blk_drew ?_ | refine blk_alloc ?_ _)); exact BK138.out) hg (Kd.R_ne HO_9.out BK138.out (by decide))); have n3_ := Ax (hb); have n4_ := Ax (ho); clear BK134; clear BK135; clear BK138; clear HB; clear HO_9; have BK134 := n0_; have BK135 := n1_; have BK138 := n2_; have HB := n3_; have HO141 := n4_; clear n0_ n1_ n2_ n3_ n4_; clear ho hb hg hat))
         go_roundg k1
         case measure => have := HK1.out; omega
         case rel => exact ⟨(y139), (wrap64 (x20_1 + 1)), rS, H', ⟨by have := HK1.out; omega⟩, ⟨by (with_reducible repeat (first | apply Kd.R_alloc | apply Kd.R_drewN | apply Kd.R_drew)); exact HO141.out⟩, ⟨bf0 BK134.out⟩, ⟨bf0 BK135.out⟩, ⟨bw3 HB.out GE134.out GE135.out GE138.out⟩⟩
        ·rw [if_neg c15] at H
         exact absurd H (by simp)
       ·rw [if_neg c14] at H
        have c14b0 : (((rd_T52 l1 x20_1).f1.f0) == a2_0 && (((rd_T52 l1 x20_1).f1.f1) == a2_1)) = false := by simpa using c14
        (try (have c14b1 : decide (((rd_T52 l1 x20_1).f1.f0) = a2_0 && (((rd_T52 l1 x20_1).f1.f1) == a2_1)) = false := by simpa using c14))
        (try (have c14b2 : (((rd_T52 l1 x20_1).f1.f0) == a2_0 && (((rd_T52 l1 x20_1).f1.f1) == a2_1)) = false := by simpa using c14))
        (try (have c14b3 : ¬ (((rd_T52 l1 x20_1).f1.f0) = a2_0 && (((rd_T52 l1 x20_1).f1.f1) == a2_1)) := by simpa using c14))
        clear c14
        have H' := Ax H
        clear H
        have p137 : 0 ≤ (x20_1 : Int) := of_decide_eq_true (by first | (with_reducible assumption) | assumption)
        have q137 : x20_1 < (l1.length : Int) := of_decide_eq_true (by first | (with_reducible assumption) | assumption)
        obtain ⟨ad137, e137, hx137_0, hx137_1, hx137_2, hx137_3⟩ := at_T52 HR1.out x20_1 p137 q137
        cases e137
        replace hx137_0 := (HB.out.cell (World.block_lt_of_cell? w _ hx137_0)).trans hx137_0
        replace hx137_1 := (HB.out.cell (World.block_lt_of_cell? w _ hx137_1)).trans hx137_1
        replace hx137_2 := (HB.out.cell (World.block_lt_of_cell? w _ hx137_2)).trans hx137_2
        replace hx137_3 := (HB.out.cell (World.block_lt_of_cell? w _ hx137_3)).trans hx137_3
        replace p137 := eq_true p137
        replace q137 := eq_true q137
        go_wp2_with (first | ((with_reducible refine gate_dst (N := 11) rfl ?_); refine box_event ?hg (N := 11) ?hd (cs := #[.int .i64 0, .int .i64 0, .int .u8 0, .int .i64 0]) (t := 52) ?hr ?_; (case hd => rfl); (case hg => rfl); (case hr => first | (go_simp; done) | (go_simp; rfl)); intro gb138 hg w23 hbox hb; have n0_ := Ax (Kd.R_below (by (with_reducible repeat (first | apply Kd.R_alloc | apply Kd.R_drewN | apply Kd.R_drew)); exact HO_9.out) hb); have n1_ := Bx0 BK134 hb; have n2_ := Bx0 BK135 hb; have n3_ := Bs2 HB hb GE134.out GE135.out; have n4_ := Ax (hbox); have n5_ := Gw2 HB hg GE134.out GE135.out; have n6_ := Gw2 HB hg GE134.out GE135.out; have n7_ := Nl0 BK134 hg; have n8_ := Nr0 BK134 hg; have n9_ := Nl0 BK135 hg; have n10_ := Nr0 BK135 hg; clear HO_9; clear BK134; clear BK135; clear HB; have HO_9 := n0_; have BK134 := n1_; have BK135 := n2_; have HB := n3_; have BK138 := n4_; have GW138 := n5_; have GE138 := n6_; have NB134_138 := n7_; have NB138_134 := n8_; have NB135_138 := n9_; have NB138_135 := n10_; clear n0_ n1_ n2_ n3_ n4_ n5_ n6_ n7_ n8_ n9_ n10_; clear hb hbox hg; have hnb24 := NB138_134.out; have hnc24 := NB134_138.out; have hnb25 := NB138_135.out; have hnc25 := NB135_138.out; obtain ⟨hcz26_0, hcz26_1, hcz26_2, hcz26_3, hfz26_0, hfz26_1, hfz26_2, hfz26_3⟩ := cl4 BK138; have hnb27 := NB135_134.out; have hnc27 := NB134_135.out; obtain ⟨hcz28_0, hcz28_1, hfz28_0, hfz28_1⟩ := cl2 BK135))
        go_roundg k1
        case measure => have := HK1.out; omega
        case rel => exact ⟨(x9_1), (wrap64 (x20_1 + 1)), rS, H', ⟨by have := HK1.out; omega⟩, ⟨by (with_reducible repeat (first | apply Kd.R_alloc | apply Kd.R_drewN | apply Kd.R_drew)); exact Kd.R_mono (Kd.R_far (p := ⟨gb138, 3, none⟩) (Kd.R_far (p := ⟨gb138, 2, none⟩) (Kd.R_far (p := ⟨gb138, 1, none⟩) (Kd.R_far (p := ⟨gb138, 0, none⟩) (Kd.R_types HO_9.out BK138.out (by decide)) (fun _ hk => hk.2) (.int .i64 ((rd_T52 l1 x20_1).f0.f0))) (fun _ hk => hk.2) (.int .i64 ((rd_T52 l1 x20_1).f0.f1))) (fun _ hk => hk.2) (.int .u8 ((rd_T52 l1 x20_1).f1.f0))) (fun _ hk => hk.2) (.int .i64 ((rd_T52 l1 x20_1).f1.f1))) (fun _ hk => hk.1)⟩, ⟨bf4 BK134.out NB134_138.out NB134_138.out NB134_138.out NB134_138.out⟩, ⟨bf4 BK135.out NB135_138.out NB135_138.out NB135_138.out NB135_138.out⟩, ⟨bw3 HB.out GE134.out GE135.out GE138.out⟩⟩
      ·rw [if_neg c13] at H
       exact absurd H (by simp)
     ·rw [if_neg c12] at H
      exact absurd H (by simp)
    ·rw [if_neg c11] at H
     have c11b0 : decide (x20_1 < (l1.length : Int)) = false := decide_eq_false c11
     clear c11
     simp only [Option.some.injEq, Prod.mk.injEq] at H
     obtain ⟨rfl, rfl⟩ := H
     go_wp2
     go_ret2
     exact ⟨_, eS, by (with_reducible repeat (first | apply Kd.R_alloc | apply Kd.R_drewN | apply Kd.R_drew)); exact Kd.R_mono HO_9.out (fun _ hk => trivial), bw2 HB.out GE134.out GE135.out⟩
 ·rw [if_neg c5] at H
  have c5b0 : (t136 == 0) = false := beq_eq_false_iff_ne.mpr c5
  have c5b1 : (t136 != 0) = true := bne_iff_ne.mpr c5
  simp only [Option.some.injEq, Prod.mk.injEq] at H
  obtain ⟨rfl, rfl⟩ := H
  go_enter Try.func16, Try.ntmps16
  go_wp2_with (first | ((with_reducible refine gate_dst (N := 3) rfl ?_); refine box_event ?hg (N := 3) ?hd (cs := #[.int .i64 a0_0, .int .i64 a0_1]) (t := 23) ?hr ?_; (case hd => rfl); (case hg => rfl); (case hr => first | (go_simp; done) | (go_simp; rfl)); intro gb134 hg w29 hbox hb; have n0_ := Bs0 HB hb; have n1_ := Ax (hbox); have n2_ := Gw0 HB hg; have n3_ := Gw0 HB hg; clear HB; have HB := n0_; have BK134 := n1_; have GW134 := n2_; have GE134 := n3_; clear n0_ n1_ n2_ n3_; clear hb hbox hg) | ((with_reducible refine gate_dst (N := 5) rfl ?_); refine box_event ?hg (N := 5) ?hd (cs := #[.int .u8 a2_0, .int .i64 a2_1]) (t := 35) ?hr ?_; (case hd => rfl); (case hg => rfl); (case hr => first | (go_simp; done) | (go_simp; rfl)); intro gb135 hg w30 hbox hb; have n0_ := Bx0 BK134 hb; have n1_ := Bs1 HB hb GE134.out; have n2_ := Ax (hbox); have n3_ := Gw1 HB hg GE134.out; have n4_ := Gw1 HB hg GE134.out; have n5_ := Nl0 BK134 hg; have n6_ := Nr0 BK134 hg; clear BK134; clear HB; have BK134 := n0_; have HB := n1_; have BK135 := n2_; have GW135 := n3_; have GE135 := n4_; have NB134_135 := n5_; have NB135_134 := n6_; clear n0_ n1_ n2_ n3_ n4_ n5_ n6_; clear hb hbox hg; have hnb31 := NB134_135.out; have hnc31 := NB135_134.out; obtain ⟨hcz32_0, hcz32_1, hfz32_0, hfz32_1⟩ := cl2 BK134) | ((with_reducible refine gate_callee (f := 12) rfl ?_); refine goesL_ (some 14) rfl rfl Try.func12 (by kernel_rfl) rfl #[.agg #[.int .i64 a0_0, .int .i64 a0_1], .slice A1 l1.length c1] rfl gS ?_; (with_reducible refine (line_Check.calls k a0_0 a0_1 _ _ l1 t136 _ ?side1 ?side2 A4.out).mono ?_); (case side1 => repeat (first | exact (Kd.C_below HR1.out HB.out) | (with_reducible refine Kd.C_alloc ?_ _) | (with_reducible refine Kd.C_drewN ?_ _) | (with_reducible refine Kd.C_drew ?_))); (case side2 => exact HC1.out); rintro e w33 ⟨rfl, hb⟩; refine ⟨_, rfl, ?_⟩; replace BK134 := Bx0 BK134 hb; replace BK135 := Bx0 BK135 hb; replace HB := Bs2 HB hb GE134.out GE135.out; (try clear hb)))
  go_ret2
  exact ⟨_, eS, by first | exact Kd.R_nil _ _ _ _ _ | exact Kd.N_nil _ _ _ _ _ | exact Kd.V_nil _ _ _ _ _ | exact Kd.Q_nil _ _ _ _ _ | exact Kd.S_nil _ _ _ _ _, bw2 HB.out GE134.out GE135.out⟩
theorem val_ {P : Program} {ops : Array Oper} {Q : Exit → Act → World → Prop} {oi : Oper} {N : Option Tmp} {a : Act} {w : World} {K : Act → World → Prop} {v : Value} (hw : Region.wanted oi (yielded ops a.tmps) = true) (hN : oi.dst = N)
    (hrun : (execOp a.eval oi).run P w = .ok (.value v) w) (h : K (a.put N v) w) : if Region.wanted oi (yielded ops a.tmps) = true then Oper.wp P oi a w K Q else K (a.put N undef) w := by
  rw [if_pos hw]
  unfold Oper.wp
  rw [hrun]
  show K (a.put oi.dst v) w
  rw [hN]
  exact h
def cutE (f t : Int) (x : S52) : Option S52 := if x.f0.f1 < f ∨ t < x.f0.f0 then none else some ⟨⟨if x.f0.f0 < f then f else x.f0.f0, if t < x.f0.f1 then t else x.f0.f1⟩, x.f1⟩
def line_Cut.f (k : Nat) (a0_0 a0_1 : Int) (l1 : List S52) (a2_0 a2_1 : Int) : Option (List S52 × Int) := (line_Check.f k a0_0 a0_1 l1).bind fun y =>
  if y ≠ 0 then some ([], y) else (line_window.f k a2_0 a2_1).bind fun q =>
  if q = true ∧ ¬ a2_0 < a0_0 ∧ ¬ a0_1 < a2_1 then (if l1.length * 32 ≤ 140737488355328 then some (l1.filterMap (cutE a2_0 a2_1), 0) else none) else some ([], 1)
theorem line_Cut.mono : ∀ a0 a1 a2 a3 a4 k, LeO (line_Cut.f k a0 a1 a2 a3 a4) (line_Cut.f (k + 1) a0 a1 a2 a3 a4) := by
  intro a0 a1 a2 a3 a4 k
  unfold line_Cut.f
  exact LeO.bind (line_Check.mono _ _ _ _) (fun _ => LeO.ite (LeO.refl _) (LeO.bind (line_window.mono _ _ _) (fun _ => LeO.refl _)))
def line_Cut.T11 : Bool × List (List Nat × List Nat) := (true, [([], []), ([0], [0]), ([1], [1]), ([], []), ([3], [3]), ([2, 4], [2, 4]), ([], []), ([6], [6]), ([7], [7]), ([], []), ([9], [9]), ([8, 10], [8, 10]), ([0, 1, 2, 3, 4, 5, 6, 7, 8], []), ([12, 0, 1, 2, 3, 4, 5, 6, 7, 8], [12]), ([13, 5, 0, 1, 2, 3, 4, 5, 6, 7, 8], [5, 13]), ([0, 1, 2, 3, 4, 5, 6, 7, 8, 9, 10, 11, 12, 13, 14], []), ([15, 0, 1, 2, 3, 4, 5, 6, 7, 8, 9, 10, 11, 12, 13, 14], [15]), ([16, 11, 14, 0, 1, 2, 3, 4, 5, 6, 7, 8, 9, 10, 11, 12, 13, 14], [11, 16])])
def line_Cut.B11 : List Nat := [0, 1, 3, 0, 8, 31, 0, 64, 192, 0, 512, 1984, 511, 4607, 12799, 32767, 65535, 131071]
theorem line_Cut.tab11 : rtab .any (opsOf Try.f18 11) = line_Cut.T11 := by kernel_rfl
theorem line_Cut.bits11 : waitsOk line_Cut.T11.2 line_Cut.B11 = true := by kernel_rfl
set_option maxRecDepth 100000 in
set_option maxHeartbeats 4000000 in
theorem line_Cut.calls (k : Nat) (a0_0 : Int) (a0_1 : Int) (A1 : Option Addr) (c1 : Nat) (l1 : List (S52)) (a2_0 : Int) (a2_1 : Int) (r1 : List (S52)) (r2 : Int) (w : World) (hr1 : Kd.C k52 w A1 l1.length l1) (hc1 : l1.length ≤ c1) (h : line_Cut.f k a0_0 a0_1 l1 a2_0 a2_1 = some (r1, r2)) :
    Calls Try.prog 18 #[.agg #[.int .i64 a0_0, .int .i64 a0_1], .slice A1 l1.length c1, .agg #[.int .i64 a2_0, .int .i64 a2_1]] w fun e w' => ∃ v0_ : Value, e = .returned (.tuple #[v0_, .int .i64 r2]) ∧ Kd.R k52 52 w' w.heap.size (fun _ => True) v0_ r1 ∧ Below w.heap.size w w' := by
  obtain ⟨y, hy, h⟩ := Option.bind_eq_some_iff.mp h
  have HY := Aside0.mk hy
  have HM := Aside0.mk (Kd.C_max hr1)
  have HC1 := Aside0.mk hc1
  have HB := Aside0.mk (below_alloc (below_alloc (Below.refl w.heap.size w) (.cells #[.int .i64 a0_0, .int .i64 a0_1] 23)) (.cells #[.int .i64 a2_0, .int .i64 a2_1] 23))
  have HR := Aside0.mk (Kd.C_below hr1 HB.out)
  have BK0 := Aside0.mk (blk_alloc (heap_alloc_new w (.cells #[.int .i64 a0_0, .int .i64 a0_1] 23)) (.cells #[.int .i64 a2_0, .int .i64 a2_1] 23))
  have BK1 : Aside0 (((w.alloc (.cells #[.int .i64 a0_0, .int .i64 a0_1] 23)).alloc (.cells #[.int .i64 a2_0, .int .i64 a2_1] 23)).heap[w.heap.size + 1]? = some (.cells #[.int .i64 a2_0, .int .i64 a2_1] 23 (0, 0))) := ⟨by
    have := heap_alloc_new (w.alloc (.cells #[.int .i64 a0_0, .int .i64 a0_1] 23)) (.cells #[.int .i64 a2_0, .int .i64 a2_1] 23)
    rwa [World.size_alloc] at this⟩
  clear hy hr1 hc1
  go_enter Try.func18, Try.ntmps18
  have hc0 := (blk_cell BK0.out 0).trans rfl
  have hc1 := (blk_cell BK0.out 1).trans rfl
  by_cases cy : y ≠ 0
  · rw [if_pos cy] at h
    obtain ⟨e1, e2⟩ := Prod.mk.inj (Option.some.inj h)
    subst e1
    subst e2
    have d0 : (y != 0) = true := bne_iff_ne.mpr cy
    clear cy h
    go_wp2_with (go_at_call 12; refine (line_Check.calls k a0_0 a0_1 A1 c1 l1 _ _ HR.out HC1.out HY.out).mono ?_; rintro e w5 ⟨rfl, hb5⟩; have HB5 := Aside0.mk (below_step HB.out hb5); clear hb5)
    go_ret2
    exact ⟨_, rfl, Kd.R_nil _ _ _ _ _, HB5.out⟩
  · have cy0 : y = 0 := Decidable.not_not.mp cy
    subst cy0
    rw [if_neg cy] at h
    clear cy
    have d0 : ((0 : Int) != 0) = false := rfl
    obtain ⟨q, hq, h⟩ := Option.bind_eq_some_iff.mp h
    have HQ := Aside0.mk hq
    clear hq
    by_cases cq : q = true ∧ ¬ a2_0 < a0_0 ∧ ¬ a0_1 < a2_1
    case neg =>
      rw [if_neg cq] at h
      obtain ⟨e1, e2⟩ := Prod.mk.inj (Option.some.inj h)
      subst e1
      subst e2
      clear h
      have cr : q = false ∨ (q = true ∧ decide (a2_0 < a0_0) = true) ∨ (q = true ∧ decide (a2_0 < a0_0) = false ∧ decide (a0_1 < a2_1) = true) := by
        cases q
        · exact .inl rfl
        · by_cases c : a2_0 < a0_0
          · exact .inr (.inl ⟨rfl, decide_eq_true c⟩)
          · by_cases c2 : a0_1 < a2_1
            · exact .inr (.inr ⟨rfl, decide_eq_false c, decide_eq_true c2⟩)
            · exact absurd ⟨rfl, c, c2⟩ cq
      clear cq
      obtain (rfl | ⟨rfl, da⟩ | ⟨rfl, da, db⟩) := cr
      all_goals
        go_wp2_with (first | (go_at_call 12; refine (line_Check.calls k a0_0 a0_1 A1 c1 l1 _ _ HR.out HC1.out HY.out).mono ?_; rintro e w5 ⟨rfl, hb5⟩; have HB5 := Aside0.mk (below_step HB.out hb5); have BK05 := Aside0.mk (blk_below BK0.out hb5); have BK15 := Aside0.mk (blk_below BK1.out hb5); have HR5 := Aside0.mk (Kd.C_below HR.out hb5); have gt0 := (blk_cell BK15.out 0).trans rfl; have gt1 := (blk_cell BK15.out 1).trans rfl; clear hb5) | (go_at_call 26; refine (line_window.calls k a2_0 a2_1 _ _ HQ.out).mono ?_; rintro e w6 ⟨rfl, hb6⟩; have HB6 := Aside0.mk (below_step HB5.out hb6); have BK06 := Aside0.mk (blk_below BK05.out hb6); have BK16 := Aside0.mk (blk_below BK15.out hb6); have HR6 := Aside0.mk (Kd.C_below HR5.out hb6); have hw0 := (blk_cell BK06.out 0).trans rfl; have hw1 := (blk_cell BK06.out 1).trans rfl; have ht0 := (blk_cell BK16.out 0).trans rfl; have ht1 := (blk_cell BK16.out 1).trans rfl; clear hb6))
        go_ret2
        exact ⟨_, rfl, Kd.R_nil _ _ _ _ _, HB6.out⟩
    case pos =>
      rw [if_pos cq] at h
      by_cases hl : l1.length * 32 ≤ 140737488355328
      case neg => rw [if_neg hl] at h; cases h
      rw [if_pos hl] at h
      have HLL := Aside0.mk hl
      obtain ⟨e1, e2⟩ := Prod.mk.inj (Option.some.inj h)
      subst e1
      subst e2
      clear h hl
      obtain ⟨rfl, ca, cb⟩ := cq
      have da : decide (a2_0 < a0_0) = false := decide_eq_false ca
      have db : decide (a0_1 < a2_1) = false := decide_eq_false cb
      clear ca cb
      go_wp2_with (first | (go_at_call 12; refine (line_Check.calls k a0_0 a0_1 A1 c1 l1 _ _ HR.out HC1.out HY.out).mono ?_; rintro e w5 ⟨rfl, hb5⟩; have HB5 := Aside0.mk (below_step HB.out hb5); have BK05 := Aside0.mk (blk_below BK0.out hb5); have BK15 := Aside0.mk (blk_below BK1.out hb5); have HR5 := Aside0.mk (Kd.C_below HR.out hb5); have gt0 := (blk_cell BK15.out 0).trans rfl; have gt1 := (blk_cell BK15.out 1).trans rfl; clear hb5) | (go_at_call 26; refine (line_window.calls k a2_0 a2_1 _ _ HQ.out).mono ?_; rintro e w6 ⟨rfl, hb6⟩; have HB6 := Aside0.mk (below_step HB5.out hb6); have BK06 := Aside0.mk (blk_below BK05.out hb6); have BK16 := Aside0.mk (blk_below BK15.out hb6); have HR6 := Aside0.mk (Kd.C_below HR5.out hb6); have hw0 := (blk_cell BK06.out 0).trans rfl; have hw1 := (blk_cell BK06.out 1).trans rfl; have ht0 := (blk_cell BK16.out 0).trans rfl; have ht1 := (blk_cell BK16.out 1).trans rfl; clear hb6))
      clear hw0 hw1 ht0 ht1
      go_loopg [9, 37] l1.length (fun kq v9 v37 w' => ∃ (i : Nat), v37 = .int .i64 (i : Int) ∧ Aside0 (i ≤ l1.length ∧ kq = l1.length - i) ∧ Aside0 (Kd.R k52 52 w' w6.heap.size (fun _ => True) v9 ((l1.take i).filterMap (cutE a2_0 a2_1))) ∧ Aside0 (Below w6.heap.size w6 w'))
      case atStart => exact ⟨0, rfl, ⟨Nat.zero_le _, rfl⟩, ⟨Kd.R_nil _ _ _ _ _⟩, ⟨Below.refl _ _⟩⟩
      case round =>
        obtain ⟨i, rfl, HJ, HO, Hb⟩ := hrel
        have hm := HM.out
        obtain ⟨A9, c9, rfl⟩ := Kd.R_slice HO.out
        by_cases hi : i < l1.length
        · have hd : decide ((i : Int) < (l1.length : Int)) = true := decide_eq_true (by omega)
          have hdn : decide (i < l1.length) = true := decide_eq_true hi
          have htk : (l1.take (i + 1)).filterMap (cutE a2_0 a2_1) = (l1.take i).filterMap (cutE a2_0 a2_1) ++ (cutE a2_0 a2_1 (rd_T52 l1 (i : Int))).toList := by
            rw [List.take_succ_eq_append_getElem hi, List.filterMap_append]
            simp only [List.filterMap_cons, List.filterMap_nil, rd_T52, Int.toNat_natCast, List.getD_eq_getElem?_getD, List.getElem?_eq_getElem hi, Option.getD_some]
            cases cutE a2_0 a2_1 l1[i] <;> rfl
          have p0 : (0 : Int) ≤ (i : Int) := by omega
          have q0 : (i : Int) < (l1.length : Int) := by omega
          obtain ⟨ad, ead, hx0, hx1, hx2, hx3⟩ := at_T52 (Kd.C_below HR6.out Hb.out) (i : Int) p0 q0
          cases ead
          simp only [Int.toNat_natCast] at hx0 hx1 hx2 hx3
          obtain ⟨x, hx⟩ : ∃ x, rd_T52 l1 (i : Int) = x := ⟨_, rfl⟩
          rw [hx] at hx0 hx1 hx2 hx3 htk
          have HII := Aside0.mk hi
          replace p0 := eq_true p0
          replace q0 := eq_true q0
          have BT := Aside0.mk (blk_alloc (blk_below BK16.out Hb.out) (.cells #[.int .i64 x.f0.f0, .int .i64 x.f0.f1, .int .u8 x.f1.f0, .int .i64 x.f1.f1] 52))
          have ht0 := (blk_cell BT.out 0).trans rfl
          have ht1 := (blk_cell BT.out 1).trans rfl
          clear hx
          by_cases cx : x.f0.f1 < a2_0 ∨ a2_1 < x.f0.f0
          · have hce : cutE a2_0 a2_1 x = none := if_pos cx
            rw [hce] at htk
            have HT := Aside0.mk (htk.trans (List.append_nil _))
            have cr : decide (x.f0.f1 < a2_0) = true ∨ (decide (x.f0.f1 < a2_0) = false ∧ decide (a2_1 < x.f0.f0) = true) := by
              by_cases c : x.f0.f1 < a2_0
              · exact .inl (decide_eq_true c)
              · exact .inr ⟨decide_eq_false c, decide_eq_true (cx.resolve_left c)⟩
            clear cx htk hce
            obtain (da2 | ⟨da2, db2⟩) := cr
            all_goals
              go_wp2
              go_roundg (l1.length - (i + 1))
              case measure => have := HJ.out; have := HII.out; omega
              case rel => exact ⟨i + 1, by go_num, ⟨by have := HII.out; omega, rfl⟩, ⟨by rw [HT.out]; exact Kd.R_alloc HO.out _⟩, ⟨below_alloc Hb.out _⟩⟩
          · have hce : cutE a2_0 a2_1 x = some ⟨⟨if x.f0.f0 < a2_0 then a2_0 else x.f0.f0, if a2_1 < x.f0.f1 then a2_1 else x.f0.f1⟩, x.f1⟩ := if_neg cx
            rw [hce] at htk
            have HT := Aside0.mk (htk.trans rfl)
            have da2 : decide (x.f0.f1 < a2_0) = false := decide_eq_false (fun c => cx (.inl c))
            have db2 : decide (a2_1 < x.f0.f0) = false := decide_eq_false (fun c => cx (.inr c))
            clear cx htk hce
            go_wp2
            have HLL1 : Aside0 ((((l1.take i).filterMap (cutE a2_0 a2_1)).length + 1) * 32 ≤ 140737488355328) := ⟨by have h1 := HLL.out; have h2 := HII.out; have h3 := List.length_filterMap_le (cutE a2_0 a2_1) (l1.take i); rw [List.length_take] at h3; omega⟩
            have BX := Aside0.mk (heap_alloc_new wr (.cells #[.int .i64 x.f0.f0, .int .i64 x.f0.f1, .int .u8 x.f1.f0, .int .i64 x.f1.f1] 52))
            have HOX := Aside0.mk (Kd.R_alloc (Kd.R_bound HO.out) (.cells #[.int .i64 x.f0.f0, .int .i64 x.f0.f1, .int .u8 x.f1.f0, .int .i64 x.f1.f1] 52))
            have HbX := Aside0.mk (below_alloc Hb.out (.cells #[.int .i64 x.f0.f0, .int .i64 x.f0.f1, .int .u8 x.f1.f0, .int .i64 x.f1.f1] 52))
            generalize wr.alloc (.cells #[.int .i64 x.f0.f0, .int .i64 x.f0.f1, .int .u8 x.f1.f0, .int .i64 x.f1.f1] 52) = WX at BT BX HOX HbX ht0 ht1 ⊢
            have BTD := Aside0.mk (blk_drew BT.out)
            have BXD := Aside0.mk (blk_drew BX.out)
            have BX1 := Aside0.mk (blk_put BXD.out 0 (.int .i64 (if x.f0.f0 < a2_0 then a2_0 else x.f0.f0)) rfl)
            have BX2 := Aside0.mk (blk_put BX1.out 1 (.int .i64 (if a2_1 < x.f0.f1 then a2_1 else x.f0.f1)) rfl)
            have HNE := Aside0.mk (show w.heap.size + 1 ≠ wr.heap.size by have := blk_lt (blk_below BK16.out Hb.out); omega)
            have HO2 : Aside0 (Kd.R k52 52 ((WX.drew.setCell ⟨wr.heap.size, 0, none⟩ (.int .i64 (if x.f0.f0 < a2_0 then a2_0 else x.f0.f0))).setCell ⟨wr.heap.size, 1, none⟩ (.int .i64 (if a2_1 < x.f0.f1 then a2_1 else x.f0.f1))) w6.heap.size (fun _ => True) (.slice A9 ((l1.take i).filterMap (cutE a2_0 a2_1)).length c9) ((l1.take i).filterMap (cutE a2_0 a2_1))) :=
              ⟨Kd.R_mono (Kd.R_far (p := ⟨wr.heap.size, 1, none⟩) (Kd.R_far (p := ⟨wr.heap.size, 0, none⟩) (Kd.R_drew HOX.out) (fun k hk => Nat.ne_of_lt hk.2.2.1) _) (fun k hk => Nat.ne_of_lt hk.2.2.1) _) (fun _ _ => trivial)⟩
            have Hb2 : Aside0 (Below w6.heap.size w6 ((WX.drew.setCell ⟨wr.heap.size, 0, none⟩ (.int .i64 (if x.f0.f0 < a2_0 then a2_0 else x.f0.f0))).setCell ⟨wr.heap.size, 1, none⟩ (.int .i64 (if a2_1 < x.f0.f1 then a2_1 else x.f0.f1)))) :=
              ⟨((below_drew1 (HbX.out)).setCell (p := ⟨wr.heap.size, 0, none⟩) Hb.out.size _).setCell (p := ⟨wr.heap.size, 1, none⟩) Hb.out.size _⟩
            have Hb3 := Aside0.mk (below_step HB6.out Hb2.out)
            have hxx0 := (blk_cell BXD.out 0).trans (rfl : _ = some (Value.int .i64 x.f0.f0))
            have hxf0 := blk_frozen BXD.out 0
            have hxf1 := blk_frozen BX1.out 1
            clear hx0 hx1 hx2 hx3 p0 q0 ht0 ht1 HO HOX HbX
            refine start_ (n := 18) (S := fun w' => w'.cell? ⟨w.heap.size + 1, 0, none⟩ = some (.int .i64 a2_0) ∧ w'.cell? ⟨w.heap.size + 1, 1, none⟩ = some (.int .i64 a2_1) ∧ w'.cell? ⟨wr.heap.size, 1, none⟩ = some (.int .i64 x.f0.f1)) (ds := [17]) #[false,false,false,false,false,false,false,false,false,false,false,false,false,false,false,false,false,false] (by kernel_rfl) rfl rfl ⟨(blk_cell BTD.out 0).trans rfl, (blk_cell BTD.out 1).trans rfl, (blk_cell BXD.out 1).trans rfl⟩ (fun hHeld => ?_)
            refine with_tabW line_Cut.tab11 line_Cut.bits11 (fun HT_ HW_ => ?_)
            generalize WX.drew = WD at BTD BXD BX1 BX2 HO2 Hb2 Hb3 hxx0 hxf0 hxf1 hHeld ⊢
            refine pure_ (i := 0) (N := some 55) (v := ?_) (a' := ?_) #[true,false,false,false,false,false,false,false,false,false,false,false,false,false,false,false,false,false] rfl rfl (any_of HT_.out (by kernel_rfl)) (fun _ _ _ h => h) (Or.inl ⟨by rfl, ?_⟩) ?_ ?_
            rotate_left
            · intro w'
              go_simp
              with_reducible rfl
            rotate_left
            · simp only [sP]
              rfl
            refine pure_ (i := 1) (N := some 56) (v := ?_) (a' := ?_) #[true,true,false,false,false,false,false,false,false,false,false,false,false,false,false,false,false,false] rfl rfl (any_of HT_.out (by kernel_rfl)) (fun _ _ _ h => h) (Or.inl ⟨by rfl, ?_⟩) ?_ ?_
            rotate_left
            · intro w'
              go_simp
              with_reducible rfl
            rotate_left
            · simp only [sP]
              rfl
            refine pure_ (i := 3) (N := some 58) (v := ?_) (a' := ?_) #[true,true,false,true,false,false,false,false,false,false,false,false,false,false,false,false,false,false] rfl rfl (any_of HT_.out (by kernel_rfl)) (fun _ _ _ h => h) (Or.inl ⟨by rfl, ?_⟩) ?_ ?_
            rotate_left
            · intro w'
              go_simp
              with_reducible rfl
            rotate_left
            · simp only [sP]
              rfl
            refine take_ (i := 4) (N := some 59) (v := ?_) (a' := ?_) #[true,true,false,true,true,false,false,false,false,false,false,false,false,false,false,false,false,false] rfl rfl (take_ofW HT_.out HW_.out (by kernel_rfl)) (fun _ _ _ h => h) (Or.inl ⟨by rfl, ?_⟩) hHeld ?_ ?_
            rotate_left
            · rintro w' ⟨s0, s1, s2⟩
              go_simp
              with_reducible rfl
            rotate_left
            · simp only [sP]
              rfl
            refine pure_ (i := 6) (N := some 61) (v := ?_) (a' := ?_) #[true,true,false,true,true,false,true,false,false,false,false,false,false,false,false,false,false,false] rfl rfl (any_of HT_.out (by kernel_rfl)) (fun _ _ _ h => h) (Or.inl ⟨by rfl, ?_⟩) ?_ ?_
            rotate_left
            · intro w'
              go_simp
              with_reducible rfl
            rotate_left
            · simp only [sP]
              rfl
            refine pure_ (i := 7) (N := some 62) (v := ?_) (a' := ?_) #[true,true,false,true,true,false,true,true,false,false,false,false,false,false,false,false,false,false] rfl rfl (any_of HT_.out (by kernel_rfl)) (fun _ _ _ h => h) (Or.inl ⟨by rfl, ?_⟩) ?_ ?_
            rotate_left
            · intro w'
              go_simp
              with_reducible rfl
            rotate_left
            · simp only [sP]
              rfl
            refine take_ (i := 8) (N := some 63) (v := ?_) (a' := ?_) #[true,true,false,true,true,false,true,true,true,false,false,false,false,false,false,false,false,false] rfl rfl (take_ofW HT_.out HW_.out (by kernel_rfl)) (fun _ _ _ h => h) (Or.inl ⟨by rfl, ?_⟩) hHeld ?_ ?_
            rotate_left
            · rintro w' ⟨s0, s1, s2⟩
              go_simp
              with_reducible rfl
            rotate_left
            · simp only [sP]
              rfl
            refine pure_ (i := 9) (N := some 64) (v := ?_) (a' := ?_) #[true,true,false,true,true,false,true,true,true,true,false,false,false,false,false,false,false,false] rfl rfl (any_of HT_.out (by kernel_rfl)) (fun _ _ _ h => h) (Or.inl ⟨by rfl, ?_⟩) ?_ ?_
            rotate_left
            · intro w'
              go_simp
              with_reducible rfl
            rotate_left
            · simp only [sP]
              rfl
            refine take_ (i := 10) (N := some 65) (v := ?_) (a' := ?_) #[true,true,false,true,true,false,true,true,true,true,true,false,false,false,false,false,false,false] rfl rfl (take_ofW HT_.out HW_.out (by kernel_rfl)) (fun _ _ _ h => h) (Or.inl ⟨by rfl, ?_⟩) hHeld ?_ ?_
            rotate_left
            · rintro w' ⟨s0, s1, s2⟩
              go_simp
              with_reducible rfl
            rotate_left
            · simp only [sP]
              rfl
            refine pure_ (i := 11) (N := some 66) (v := ?_) (a' := ?_) #[true,true,false,true,true,false,true,true,true,true,true,true,false,false,false,false,false,false] rfl rfl (any_of HT_.out (by kernel_rfl)) (fun _ _ _ h => h) (Or.inl ⟨by rfl, ?_⟩) ?_ ?_
            rotate_left
            · intro w'
              go_simp
              with_reducible rfl
            rotate_left
            · simp only [sP]
              rfl
            refine one_ (i := 2) (N := some 57) #[true,true,true,true,true,false,true,true,true,true,true,true,false,false,false,false,false,false] rfl rfl (one_of HT_.out (by kernel_rfl)) (by decide) (fun K hK => ?_)
            refine val_ (v := .int .i64 x.f0.f0) (by rfl) rfl (by first | (go_simp; done) | (go_simp; rfl)) ?_
            refine hK.out _ _ hHeld (fun hHeld => ?_)
            clear hK K
            refine norm_ (a' := ?_) ?_ ?_
            rotate_left
            · show Act.put _ (some 57) _ = _
              simp only [sP]
              rfl
            refine pure_ (i := 5) (N := some 60) (v := ?_) (a' := ?_) #[true,true,true,true,true,true,true,true,true,true,true,true,false,false,false,false,false,false] rfl rfl (any_of HT_.out (by kernel_rfl)) (fun _ _ _ h => h) (Or.inl ⟨by rfl, ?_⟩) ?_ ?_
            rotate_left
            · intro w'
              go_simp
              with_reducible rfl
            rotate_left
            · simp only [sP]
              rfl
            refine pure_ (i := 12) (N := some 67) (v := ?_) (a' := ?_) #[true,true,true,true,true,true,true,true,true,true,true,true,true,false,false,false,false,false] rfl rfl (any_of HT_.out (by kernel_rfl)) (fun _ _ _ h => h) (Or.inl ⟨by rfl, ?_⟩) ?_ ?_
            rotate_left
            · intro w'
              go_simp
              with_reducible rfl
            rotate_left
            · simp only [sP]
              rfl
            refine pure_ (i := 13) (N := some 68) (v := ?_) (a' := ?_) #[true,true,true,true,true,true,true,true,true,true,true,true,true,true,false,false,false,false] rfl rfl (any_of HT_.out (by kernel_rfl)) (fun _ _ _ h => h) (Or.inl ⟨by rfl, ?_⟩) ?_ ?_
            rotate_left
            · intro w'
              go_simp
              with_reducible rfl
            rotate_left
            · simp only [sP]
              rfl
            refine one_ (i := 14) (N := none) #[true,true,true,true,true,true,true,true,true,true,true,true,true,true,true,false,false,false] rfl rfl (one_of HT_.out (by kernel_rfl)) (by decide) (fun K hK => ?_)
            refine skip_ (w1 := ?_) (by rfl) rfl ?_ ?_
            rotate_left
            · go_simp
              rfl
            refine hK.out _ _ ⟨(cell_far (p := ⟨wr.heap.size, _, none⟩) HNE.out _).trans hHeld.1, (cell_far (p := ⟨wr.heap.size, _, none⟩) HNE.out _).trans hHeld.2.1, (blk_cell BX1.out 1).trans rfl⟩ (fun hHeld => ?_)
            clear hK K
            have hx11 := hHeld.2.2
            refine pure_ (i := 15) (N := some 69) (v := ?_) (a' := ?_) #[true,true,true,true,true,true,true,true,true,true,true,true,true,true,true,true,false,false] rfl rfl (any_of HT_.out (by kernel_rfl)) (fun _ _ _ h => h) (Or.inl ⟨by rfl, ?_⟩) ?_ ?_
            rotate_left
            · intro w'
              go_simp
              with_reducible rfl
            rotate_left
            · simp only [sP]
              rfl
            refine pure_ (i := 16) (N := some 70) (v := ?_) (a' := ?_) #[true,true,true,true,true,true,true,true,true,true,true,true,true,true,true,true,true,false] rfl rfl (any_of HT_.out (by kernel_rfl)) (fun _ _ _ h => h) (Or.inl ⟨by rfl, ?_⟩) ?_ ?_
            rotate_left
            · intro w'
              go_simp
              with_reducible rfl
            rotate_left
            · simp only [sP]
              rfl
            refine last_ (i := 17) (N := none) #[true,true,true,true,true,true,true,true,true,true,true,true,true,true,true,true,true,true] rfl rfl (one_of HT_.out (by kernel_rfl)) (by decide) (fun K hK => ?_)
            refine skip_ (w1 := ?_) (by rfl) rfl ?_ ?_
            rotate_left
            · go_simp
              rfl
            refine hK.out _ _ ?_
            clear hK K
            refine done_ (done_of HT_.out (by kernel_rfl)) ?_
            clear hHeld hxx0 hxf0 hxf1 HT_ HW_
            have hz0 := (blk_cell BX2.out 0).trans rfl
            have hz1 := (blk_cell BX2.out 1).trans rfl
            have hz2 := (blk_cell BX2.out 2).trans rfl
            have hz3 := (blk_cell BX2.out 3).trans rfl
            go_wp2_with (at_builtin; refine Kd.R_append k52 (w0 := w6) w6.heap.size rfl (.tmp 71) (.tmp 73) 25 52 (.agg #[(.int .i64 0), (.int .i64 0), (.int .u8 0), (.int .i64 0)]) 32 rfl Try.underlying25 infoE rfl (by decide) (by omega) _ ((l1.take i).filterMap (cutE a2_0 a2_1)) ⟨⟨(if x.f0.f0 < a2_0 then a2_0 else x.f0.f0), (if a2_1 < x.f0.f1 then a2_1 else x.f0.f1)⟩, x.f1⟩ [.int .i64 (if x.f0.f0 < a2_0 then a2_0 else x.f0.f0), .int .i64 (if a2_1 < x.f0.f1 then a2_1 else x.f0.f1), .int .u8 x.f1.f0, .int .i64 x.f1.f1] (fun _ => True) (fun _ => False) rfl ?aX (k52_mkM _ _ _ (⟨⟨(if x.f0.f0 < a2_0 then a2_0 else x.f0.f0), (if a2_1 < x.f0.f1 then a2_1 else x.f0.f1)⟩, x.f1⟩ : S52)) (fun _ hk => hk.elim) (fun _ _ => trivial) HO2.out Hb2.out Hb2.out.size HLL1.out ?_; (case aX => first | rfl | (go_simp; done) | (go_simp; rfl)); intro v1 w1 ho1 hb1 hg1 hat1; have HO1 := Aside0.mk ho1; have Hb1 := Aside0.mk hb1; have Hg1 := Aside0.mk hg1; clear ho1 hb1 hg1 hat1)
            all_goals
              go_roundg (l1.length - (i + 1))
              case measure => have := HJ.out; have := HII.out; omega
              case rel => exact ⟨i + 1, by go_num, ⟨by have := HII.out; omega, rfl⟩, ⟨by rw [HT.out]; exact HO1.out⟩, Hb1⟩
        · have hd : decide ((i : Int) < (l1.length : Int)) = false := decide_eq_false (by omega)
          have hdn : decide (i < l1.length) = false := decide_eq_false hi
          have ho := HO.out
          generalize hv : (Value.slice A9 ((l1.take i).filterMap (cutE a2_0 a2_1)).length c9) = vv at ho
          rw [List.take_of_length_le (by omega)] at ho
          subst hv
          have HO2 := Aside0.mk ho
          clear ho
          go_wp2
          go_ret2
          exact ⟨_, rfl, Kd.R_lower HO2.out HB6.out.size, below_step HB6.out Hb.out⟩
end Go.Proofs.Ytghklhdooemjdaa.Q
end
