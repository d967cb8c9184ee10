-- Merged and trimmed by this session's program wip/tools/trim.py.
import Derived.Shelf.RegionOpen
import Derived.Deep.RegionLaw
import Derived.BigQuiet
import Derived.Deep.RegionWith
import Derived.Outline
import Derived.Laws.EntriesVeiled
import Derived.Shelf.Abstract
import Derived.RangeFuncNested
import Derived.RangeFuncBox
import Derived.RangeFuncLeaves
import Derived.RangeFuncFrom
import Derived.RangeFuncCalls
import Derived.RangeFuncBound
import Derived.OwnWalkIn
import Derived.TacticsInMore
import Derived.LoopNIn
import Derived.LoopIn
import Derived.Sort.QuietIn
import Derived.Maps.AppendAt
import Derived.OrdersHeld
import Derived.OrdersIn
import Derived.TacticsIn
import Derived.Test.YtoheongejamapaaTTopAgree1
section
namespace Go.Proofs.Ytoheongejamapaa.Q
open Go.RowKit Go.Proofs.YtoheongejamapaaW.PrintWords Go.Proofs.YtoheongejamapaaW.PrintLast Go.Proofs.YtoheongejamapaaW.PrintMore
attribute [local go_sem] max2_int min2_int max_two min_two max_three min_three max_four min_four   -- for this text's walks alone
set_option linter.unusedVariables false
set_option linter.unusedSimpArgs false
attribute [local go_sem high] eqA32
set_option maxHeartbeats 8000000 in
set_option maxRecDepth 100000 in
theorem line_Check.calls (k : Nat) (a0_0 : Int) (a0_1 : Int) (A1 : Option Addr) (c1 : Nat) (l1 : List (S34)) (r : Int) (w : World) (hr1 : Kd.C k34 w A1 l1.length l1) (hc1 : l1.length ≤ c1) (h : line_Check.f k a0_0 a0_1 l1 = some r) :
  Calls Try.prog 14 #[.agg #[.int .i64 a0_0, .int .i64 a0_1], .slice A1 l1.length c1] w fun e w' => e = .returned (.int .i64 r) ∧ Below w.heap.size w w' := by
 have hu23 := Try.underlying23
 have hu34 := Try.underlying34
 have hu32 := Try.underlying32
 have HR1 := Ax hr1
 have HC1 := Ax hc1
 clear hr1 hc1
 have HB := Ax (Below.refl w.heap.size w)
 have H : ((line_window.f k a0_0 a0_1).bind fun t136 => (if t136 = true then (if (l1.length : Int) = 0 then (line_Check.j0 k l1 true a0_0 a0_1) else (if (l1.length : Int) > 1024 then (line_Check.j0 k l1 true a0_0 a0_1) else (if 0 < (l1.length : Int) then (if ((rd_T34 l1 0).f0.f0) = a0_0 then (if 0 ≤ (wrap64 ((l1.length : Int) - 1)) then (if (wrap64 ((l1.length : Int) - 1)) < (l1.length : Int) then (line_Check.j0 k l1 (((rd_T34 l1 (wrap64 ((l1.length : Int) - 1))).f0.f1) != a0_1) a0_0 a0_1) else (none)) else (none)) else (line_Check.j0 k l1 true a0_0 a0_1)) else (none)))) else (line_Check.j0 k l1 true a0_0 a0_1))) = some r := h
 clear h
 have HC3 := Ax H
 clear H
 go_enter Try.func14, Try.ntmps14
 go_upto_region 2 with (first | ((with_reducible refine gate_dst (N := 2) rfl ?_); refine box_event ?hg (N := 2) ?hd (cs := #[.int .i64 a0_0, .int .i64 a0_1]) (t := 23) ?hr ?_; (case hd => rfl); (case hg => rfl); (case hr => first | (go_simp; done) | (go_simp; rfl)); intro gb135 hg w4 hbox hb; have n0_ := Bs0 HB hb; have n1_ := Ax (hbox); have n2_ := Gw0 HB hg; have n3_ := Gw0 HB hg; clear HB; have HB := n0_; have BK135 := n1_; have GW135 := n2_; have GE135 := n3_; clear n0_ n1_ n2_ n3_; clear hb hbox hg))
 (try simp only [Act.put, List.setIfInBounds_toArray, List.set_cons_zero, List.set_cons_succ])
 go_cut [42] (fun v42 wc => ∃ (kq : Nat) (x42_2 : Bool), v42 = .bool x42_2 ∧ Aside0 (line_Check.j0 kq l1 x42_2 a0_0 a0_1 = some r) ∧ Aside0 (kq ≤ k) ∧ Aside0 (wc.heap[gb135]? = some (.cells #[.int .i64 a0_0, .int .i64 a0_1] 23 (0, 0))) ∧ Aside0 (Below w.heap.size w wc))
 case first =>
  have H := HC3.out
  clear HC3
  replace H := Option.bind_eq_some_iff.mp H
  obtain ⟨t136, A50, H⟩ := H
  replace H : (if t136 = true then (if (l1.length : Int) = 0 then (line_Check.j0 k l1 true a0_0 a0_1) else (if (l1.length : Int) > 1024 then (line_Check.j0 k l1 true a0_0 a0_1) else (if 0 < (l1.length : Int) then (if ((rd_T34 l1 0).f0.f0) = a0_0 then (if 0 ≤ (wrap64 ((l1.length : Int) - 1)) then (if (wrap64 ((l1.length : Int) - 1)) < (l1.length : Int) then (line_Check.j0 k l1 (((rd_T34 l1 (wrap64 ((l1.length : Int) - 1))).f0.f1) != a0_1) a0_0 a0_1) else (none)) else (none)) else (line_Check.j0 k l1 true a0_0 a0_1)) else (none)))) else (line_Check.j0 k l1 true a0_0 a0_1)) = some r := H
  have A5 := Ax A50
  clear A50
  by_cases c6 : t136 = true
  ·subst c6
   have H1 : (if (l1.length : Int) = 0 then (line_Check.j0 k l1 true a0_0 a0_1) else (if (l1.length : Int) > 1024 then (line_Check.j0 k l1 true a0_0 a0_1) else (if 0 < (l1.length : Int) then (if ((rd_T34 l1 0).f0.f0) = a0_0 then (if 0 ≤ (wrap64 ((l1.length : Int) - 1)) then (if (wrap64 ((l1.length : Int) - 1)) < (l1.length : Int) then (line_Check.j0 k l1 (((rd_T34 l1 (wrap64 ((l1.length : Int) - 1))).f0.f1) != a0_1) a0_0 a0_1) else (none)) else (none)) else (line_Check.j0 k l1 true a0_0 a0_1)) else (none)))) = some r := by rw [if_pos rfl] at H; exact H
   clear H
   have H := H1
   clear H1
   by_cases c7 : (l1.length : Int) = 0
   ·rw [if_pos c7] at H
    have c7b0 : ((l1.length : Int) == 0) = true := beq_iff_eq.mpr c7
    have c7b1 : ((l1.length : Int) != 0) = false := bne_eq_false_iff_eq.mpr c7
    clear c7
    (first | rw [c7b0] | (simp only [i64_w, i32_w]; rw [c7b0]) | skip)
    have H' := Ax H
    clear H
    try go_wp2
    replace BK135 := Ax (blk_drew BK135.out)
    replace HB := Ax (below_drew1 HB.out)
    refine start_ (n := 33) (S := fun w' => w'.cell? ⟨gb135, 0, none⟩ = some (.int .i64 a0_0) ∧ w'.cell? ⟨gb135, 1, none⟩ = some (.int .i64 a0_1)) (ds := []) #[fa,fa,fa,fa,fa,fa,fa,fa,fa,fa,fa,fa,fa,fa,fa,fa,fa,fa,fa,fa,fa,fa,fa,fa,fa,fa,fa,fa,fa,fa,fa,fa,fa] (by kernel_rfl) rfl rfl ⟨(blk_cell BK135.out 0).trans rfl, (blk_cell BK135.out 1).trans rfl⟩ (fun hHeld => ?_); refine with_tabW line_Check.tab2 line_Check.bits2 (fun HT_ HW_ => ?_)
    generalize w4.drew = w8 at BK135 HB hHeld ⊢
    refine take_ (i := 0) (N := some 10) (v := ?_) (a' := ?_) #[tr,fa,fa,fa,fa,fa,fa,fa,fa,fa,fa,fa,fa,fa,fa,fa,fa,fa,fa,fa,fa,fa,fa,fa,fa,fa,fa,fa,fa,fa,fa,fa,fa] rfl rfl (take_ofW HT_.out HW_.out (by kernel_rfl)) (fun _ _ _ h => h) (Or.inl ⟨by rfl, ?_⟩) hHeld ?_ ?_
    rotate_left
    ·rintro w' ⟨s0, s1⟩
     go_simp
     with_reducible rfl
    rotate_left
    ·simp only [sP]
     rfl
    refine one_ (i := 1) (N := some 11) #[tr,tr,fa,fa,fa,fa,fa,fa,fa,fa,fa,fa,fa,fa,fa,fa,fa,fa,fa,fa,fa,fa,fa,fa,fa,fa,fa,fa,fa,fa,fa,fa,fa] rfl rfl (one_of HT_.out (by kernel_rfl)) (by decide) (fun K hK => ?_)
    refine goes_ Try.func29 (by kernel_rfl) rfl #[.agg #[.int .i64 a0_0, .int .i64 a0_1]] (by rfl) rfl rfl gS ?_
    with_reducible refine (line_window.calls k a0_0 a0_1 true _ A5.out).mono ?_
    rintro e w9 ⟨rfl, hb⟩
    refine ⟨_, rfl, ?_⟩
    replace BK135 := Bx0 BK135 hb
    replace HB := Bs1 HB hb GE135.out
    (try clear hb)
    refine hK.out _ _ ⟨(blk_cell BK135.out 0).trans rfl, (blk_cell BK135.out 1).trans rfl⟩ (fun hHeld => ?_)
    clear hK K
    refine norm_ (a' := ?_) ?_ ?_
    rotate_left
    ·show Act.put _ (some 11) _ = _
     simp only [sP]
     rfl
    refine pure_ (i := 2) (N := some 12) (v := ?_) (a' := ?_) #[tr,tr,tr,fa,fa,fa,fa,fa,fa,fa,fa,fa,fa,fa,fa,fa,fa,fa,fa,fa,fa,fa,fa,fa,fa,fa,fa,fa,fa,fa,fa,fa,fa] rfl rfl (any_of HT_.out (by kernel_rfl)) (fun _ _ _ h => h) (Or.inl ⟨by rfl, ?_⟩) ?_ ?_
    rotate_left
    ·intro w'
     go_simp
     with_reducible rfl
    rotate_left
    ·simp only [sP]
     rfl
    refine pure_ (i := 3) (N := some 13) (v := ?_) (a' := ?_) #[tr,tr,tr,tr,fa,fa,fa,fa,fa,fa,fa,fa,fa,fa,fa,fa,fa,fa,fa,fa,fa,fa,fa,fa,fa,fa,fa,fa,fa,fa,fa,fa,fa] rfl rfl (any_of HT_.out (by kernel_rfl)) (fun _ _ _ h => h) (Or.inl ⟨by rfl, ?_⟩) ?_ ?_
    rotate_left
    ·intro w'
     go_simp
     with_reducible rfl
    rotate_left
    ·simp only [sP]
     rfl
    refine pure_ (i := 4) (N := some 14) (v := ?_) (a' := ?_) #[tr,tr,tr,tr,tr,fa,fa,fa,fa,fa,fa,fa,fa,fa,fa,fa,fa,fa,fa,fa,fa,fa,fa,fa,fa,fa,fa,fa,fa,fa,fa,fa,fa] rfl rfl (any_of HT_.out (by kernel_rfl)) (fun _ _ _ h => h) (Or.inl ⟨by rfl, ?_⟩) ?_ ?_
    rotate_left
    ·intro w'
     go_simp
     with_reducible rfl
    rotate_left
    ·simp only [sP]
     rfl
    refine pure_ (i := 5) (N := some 15) (v := ?_) (a' := ?_) #[tr,tr,tr,tr,tr,tr,fa,fa,fa,fa,fa,fa,fa,fa,fa,fa,fa,fa,fa,fa,fa,fa,fa,fa,fa,fa,fa,fa,fa,fa,fa,fa,fa] rfl rfl (any_of HT_.out (by kernel_rfl)) (fun _ _ _ h => h) (Or.inl ⟨by rfl, ?_⟩) ?_ ?_
    rotate_left
    ·intro w'
     go_simp
     with_reducible rfl
    rotate_left
    ·simp only [sP]
     rfl
    refine pure_ (i := 6) (N := some 16) (v := ?_) (a' := ?_) #[tr,tr,tr,tr,tr,tr,tr,fa,fa,fa,fa,fa,fa,fa,fa,fa,fa,fa,fa,fa,fa,fa,fa,fa,fa,fa,fa,fa,fa,fa,fa,fa,fa] rfl rfl (any_of HT_.out (by kernel_rfl)) (fun _ _ _ h => h) (Or.inl ⟨by rfl, ?_⟩) ?_ ?_
    rotate_left
    ·intro w'
     go_simp
     with_reducible rfl
    rotate_left
    ·simp only [sP]
     rfl
    refine pure_ (i := 7) (N := some 17) (v := ?_) (a' := ?_) #[tr,tr,tr,tr,tr,tr,tr,tr,fa,fa,fa,fa,fa,fa,fa,fa,fa,fa,fa,fa,fa,fa,fa,fa,fa,fa,fa,fa,fa,fa,fa,fa,fa] rfl rfl (any_of HT_.out (by kernel_rfl)) (fun _ _ _ h => h) (Or.inl ⟨by rfl, ?_⟩) ?_ ?_
    rotate_left
    ·intro w'
     go_simp
     with_reducible rfl
    rotate_left
    ·simp only [sP]
     rfl
    refine pure_ (i := 8) (N := some 18) (v := undef) (a' := ?_) #[tr,tr,tr,tr,tr,tr,tr,tr,tr,fa,fa,fa,fa,fa,fa,fa,fa,fa,fa,fa,fa,fa,fa,fa,fa,fa,fa,fa,fa,fa,fa,fa,fa] rfl rfl (any_of HT_.out (by kernel_rfl)) (fun _ _ _ h => h) (Or.inr ⟨by rfl, rfl⟩) ?_ ?_
    rotate_left
    ·simp only [sP]
     rfl
    refine pure_ (i := 9) (N := some 19) (v := undef) (a' := ?_) #[tr,tr,tr,tr,tr,tr,tr,tr,tr,tr,fa,fa,fa,fa,fa,fa,fa,fa,fa,fa,fa,fa,fa,fa,fa,fa,fa,fa,fa,fa,fa,fa,fa] rfl rfl (any_of HT_.out (by kernel_rfl)) (fun _ _ _ h => h) (Or.inr ⟨by rfl, rfl⟩) ?_ ?_
    rotate_left
    ·simp only [sP]
     rfl
    refine pure_ (i := 10) (N := some 20) (v := ?_) (a' := ?_) #[tr,tr,tr,tr,tr,tr,tr,tr,tr,tr,tr,fa,fa,fa,fa,fa,fa,fa,fa,fa,fa,fa,fa,fa,fa,fa,fa,fa,fa,fa,fa,fa,fa] rfl rfl (any_of HT_.out (by kernel_rfl)) (fun _ _ _ h => h) (Or.inl ⟨by rfl, ?_⟩) ?_ ?_
    rotate_left
    ·intro w'
     go_simp
     with_reducible rfl
    rotate_left
    ·simp only [sP]
     rfl
    refine pure_ (i := 11) (N := some 21) (v := ?_) (a' := ?_) #[tr,tr,tr,tr,tr,tr,tr,tr,tr,tr,tr,tr,fa,fa,fa,fa,fa,fa,fa,fa,fa,fa,fa,fa,fa,fa,fa,fa,fa,fa,fa,fa,fa] rfl rfl (any_of HT_.out (by kernel_rfl)) (fun _ _ _ h => h) (Or.inl ⟨by rfl, ?_⟩) ?_ ?_
    rotate_left
    ·intro w'
     go_simp
     with_reducible rfl
    rotate_left
    ·simp only [sP]
     rfl
    refine pure_ (i := 12) (N := some 22) (v := undef) (a' := ?_) #[tr,tr,tr,tr,tr,tr,tr,tr,tr,tr,tr,tr,tr,fa,fa,fa,fa,fa,fa,fa,fa,fa,fa,fa,fa,fa,fa,fa,fa,fa,fa,fa,fa] rfl rfl (any_of HT_.out (by kernel_rfl)) (fun _ _ _ h => h) (Or.inr ⟨by rfl, rfl⟩) ?_ ?_
    rotate_left
    ·simp only [sP]
     rfl
    refine pure_ (i := 13) (N := some 23) (v := undef) (a' := ?_) #[tr,tr,tr,tr,tr,tr,tr,tr,tr,tr,tr,tr,tr,tr,fa,fa,fa,fa,fa,fa,fa,fa,fa,fa,fa,fa,fa,fa,fa,fa,fa,fa,fa] rfl rfl (any_of HT_.out (by kernel_rfl)) (fun _ _ _ h => h) (Or.inr ⟨by rfl, rfl⟩) ?_ ?_
    rotate_left
    ·simp only [sP]
     rfl
    refine pure_ (i := 14) (N := some 24) (v := undef) (a' := ?_) #[tr,tr,tr,tr,tr,tr,tr,tr,tr,tr,tr,tr,tr,tr,tr,fa,fa,fa,fa,fa,fa,fa,fa,fa,fa,fa,fa,fa,fa,fa,fa,fa,fa] rfl rfl (any_of HT_.out (by kernel_rfl)) (fun _ _ _ h => h) (Or.inr ⟨by rfl, rfl⟩) ?_ ?_
    rotate_left
    ·simp only [sP]
     rfl
    refine pure_ (i := 15) (N := some 25) (v := undef) (a' := ?_) #[tr,tr,tr,tr,tr,tr,tr,tr,tr,tr,tr,tr,tr,tr,tr,tr,fa,fa,fa,fa,fa,fa,fa,fa,fa,fa,fa,fa,fa,fa,fa,fa,fa] rfl rfl (any_of HT_.out (by kernel_rfl)) (fun _ _ _ h => h) (Or.inr ⟨by rfl, rfl⟩) ?_ ?_
    rotate_left
    ·simp only [sP]
     rfl
    refine pure_ (i := 16) (N := some 26) (v := undef) (a' := ?_) #[tr,tr,tr,tr,tr,tr,tr,tr,tr,tr,tr,tr,tr,tr,tr,tr,tr,fa,fa,fa,fa,fa,fa,fa,fa,fa,fa,fa,fa,fa,fa,fa,fa] rfl rfl (any_of HT_.out (by kernel_rfl)) (fun _ _ _ h => h) (Or.inr ⟨by rfl, rfl⟩) ?_ ?_
    rotate_left
    ·simp only [sP]
     rfl
    refine pure_ (i := 17) (N := some 27) (v := undef) (a' := ?_) #[tr,tr,tr,tr,tr,tr,tr,tr,tr,tr,tr,tr,tr,tr,tr,tr,tr,tr,fa,fa,fa,fa,fa,fa,fa,fa,fa,fa,fa,fa,fa,fa,fa] rfl rfl (any_of HT_.out (by kernel_rfl)) (fun _ _ _ h => h) (Or.inr ⟨by rfl, rfl⟩) ?_ ?_
    rotate_left
    ·simp only [sP]
     rfl
    refine pure_ (i := 18) (N := some 28) (v := undef) (a' := ?_) #[tr,tr,tr,tr,tr,tr,tr,tr,tr,tr,tr,tr,tr,tr,tr,tr,tr,tr,tr,fa,fa,fa,fa,fa,fa,fa,fa,fa,fa,fa,fa,fa,fa] rfl rfl (any_of HT_.out (by kernel_rfl)) (fun _ _ _ h => h) (Or.inr ⟨by rfl, rfl⟩) ?_ ?_
    rotate_left
    ·simp only [sP]
     rfl
    refine pure_ (i := 19) (N := some 29) (v := undef) (a' := ?_) #[tr,tr,tr,tr,tr,tr,tr,tr,tr,tr,tr,tr,tr,tr,tr,tr,tr,tr,tr,tr,fa,fa,fa,fa,fa,fa,fa,fa,fa,fa,fa,fa,fa] rfl rfl (any_of HT_.out (by kernel_rfl)) (fun _ _ _ h => h) (Or.inr ⟨by rfl, rfl⟩) ?_ ?_
    rotate_left
    ·simp only [sP]
     rfl
    refine pure_ (i := 20) (N := some 30) (v := ?_) (a' := ?_) #[tr,tr,tr,tr,tr,tr,tr,tr,tr,tr,tr,tr,tr,tr,tr,tr,tr,tr,tr,tr,tr,fa,fa,fa,fa,fa,fa,fa,fa,fa,fa,fa,fa] rfl rfl (any_of HT_.out (by kernel_rfl)) (fun _ _ _ h => h) (Or.inl ⟨by rfl, ?_⟩) ?_ ?_
    rotate_left
    ·intro w'
     go_simp
     with_reducible rfl
    rotate_left
    ·simp only [sP]
     rfl
    refine pure_ (i := 21) (N := some 31) (v := ?_) (a' := ?_) #[tr,tr,tr,tr,tr,tr,tr,tr,tr,tr,tr,tr,tr,tr,tr,tr,tr,tr,tr,tr,tr,tr,fa,fa,fa,fa,fa,fa,fa,fa,fa,fa,fa] rfl rfl (any_of HT_.out (by kernel_rfl)) (fun _ _ _ h => h) (Or.inl ⟨by rfl, ?_⟩) ?_ ?_
    rotate_left
    ·intro w'
     go_simp
     with_reducible rfl
    rotate_left
    ·simp only [sP]
     rfl
    refine pure_ (i := 22) (N := some 32) (v := undef) (a' := ?_) #[tr,tr,tr,tr,tr,tr,tr,tr,tr,tr,tr,tr,tr,tr,tr,tr,tr,tr,tr,tr,tr,tr,tr,fa,fa,fa,fa,fa,fa,fa,fa,fa,fa] rfl rfl (any_of HT_.out (by kernel_rfl)) (fun _ _ _ h => h) (Or.inr ⟨by rfl, rfl⟩) ?_ ?_
    rotate_left
    ·simp only [sP]
     rfl
    refine pure_ (i := 23) (N := some 33) (v := undef) (a' := ?_) #[tr,tr,tr,tr,tr,tr,tr,tr,tr,tr,tr,tr,tr,tr,tr,tr,tr,tr,tr,tr,tr,tr,tr,tr,fa,fa,fa,fa,fa,fa,fa,fa,fa] rfl rfl (any_of HT_.out (by kernel_rfl)) (fun _ _ _ h => h) (Or.inr ⟨by rfl, rfl⟩) ?_ ?_
    rotate_left
    ·simp only [sP]
     rfl
    refine pure_ (i := 24) (N := some 34) (v := undef) (a' := ?_) #[tr,tr,tr,tr,tr,tr,tr,tr,tr,tr,tr,tr,tr,tr,tr,tr,tr,tr,tr,tr,tr,tr,tr,tr,tr,fa,fa,fa,fa,fa,fa,fa,fa] rfl rfl (any_of HT_.out (by kernel_rfl)) (fun _ _ _ h => h) (Or.inr ⟨by rfl, rfl⟩) ?_ ?_
    rotate_left
    ·simp only [sP]
     rfl
    refine pure_ (i := 25) (N := some 35) (v := undef) (a' := ?_) #[tr,tr,tr,tr,tr,tr,tr,tr,tr,tr,tr,tr,tr,tr,tr,tr,tr,tr,tr,tr,tr,tr,tr,tr,tr,tr,fa,fa,fa,fa,fa,fa,fa] rfl rfl (any_of HT_.out (by kernel_rfl)) (fun _ _ _ h => h) (Or.inr ⟨by rfl, rfl⟩) ?_ ?_
    rotate_left
    ·simp only [sP]
     rfl
    refine pure_ (i := 26) (N := some 36) (v := undef) (a' := ?_) #[tr,tr,tr,tr,tr,tr,tr,tr,tr,tr,tr,tr,tr,tr,tr,tr,tr,tr,tr,tr,tr,tr,tr,tr,tr,tr,tr,fa,fa,fa,fa,fa,fa] rfl rfl (any_of HT_.out (by kernel_rfl)) (fun _ _ _ h => h) (Or.inr ⟨by rfl, rfl⟩) ?_ ?_
    rotate_left
    ·simp only [sP]
     rfl
    refine pure_ (i := 27) (N := some 37) (v := undef) (a' := ?_) #[tr,tr,tr,tr,tr,tr,tr,tr,tr,tr,tr,tr,tr,tr,tr,tr,tr,tr,tr,tr,tr,tr,tr,tr,tr,tr,tr,tr,fa,fa,fa,fa,fa] rfl rfl (any_of HT_.out (by kernel_rfl)) (fun _ _ _ h => h) (Or.inr ⟨by rfl, rfl⟩) ?_ ?_
    rotate_left
    ·simp only [sP]
     rfl
    refine pure_ (i := 28) (N := some 38) (v := undef) (a' := ?_) #[tr,tr,tr,tr,tr,tr,tr,tr,tr,tr,tr,tr,tr,tr,tr,tr,tr,tr,tr,tr,tr,tr,tr,tr,tr,tr,tr,tr,tr,fa,fa,fa,fa] rfl rfl (any_of HT_.out (by kernel_rfl)) (fun _ _ _ h => h) (Or.inr ⟨by rfl, rfl⟩) ?_ ?_
    rotate_left
    ·simp only [sP]
     rfl
    refine pure_ (i := 29) (N := some 39) (v := undef) (a' := ?_) #[tr,tr,tr,tr,tr,tr,tr,tr,tr,tr,tr,tr,tr,tr,tr,tr,tr,tr,tr,tr,tr,tr,tr,tr,tr,tr,tr,tr,tr,tr,fa,fa,fa] rfl rfl (any_of HT_.out (by kernel_rfl)) (fun _ _ _ h => h) (Or.inr ⟨by rfl, rfl⟩) ?_ ?_
    rotate_left
    ·simp only [sP]
     rfl
    refine pure_ (i := 30) (N := some 40) (v := undef) (a' := ?_) #[tr,tr,tr,tr,tr,tr,tr,tr,tr,tr,tr,tr,tr,tr,tr,tr,tr,tr,tr,tr,tr,tr,tr,tr,tr,tr,tr,tr,tr,tr,tr,fa,fa] rfl rfl (any_of HT_.out (by kernel_rfl)) (fun _ _ _ h => h) (Or.inr ⟨by rfl, rfl⟩) ?_ ?_
    rotate_left
    ·simp only [sP]
     rfl
    refine pure_ (i := 31) (N := some 41) (v := undef) (a' := ?_) #[tr,tr,tr,tr,tr,tr,tr,tr,tr,tr,tr,tr,tr,tr,tr,tr,tr,tr,tr,tr,tr,tr,tr,tr,tr,tr,tr,tr,tr,tr,tr,tr,fa] rfl rfl (any_of HT_.out (by kernel_rfl)) (fun _ _ _ h => h) (Or.inr ⟨by rfl, rfl⟩) ?_ ?_
    rotate_left
    ·simp only [sP]
     rfl
    refine pure_ (i := 32) (N := some 42) (v := ?_) (a' := ?_) #[tr,tr,tr,tr,tr,tr,tr,tr,tr,tr,tr,tr,tr,tr,tr,tr,tr,tr,tr,tr,tr,tr,tr,tr,tr,tr,tr,tr,tr,tr,tr,tr,tr] rfl rfl (any_of HT_.out (by kernel_rfl)) (fun _ _ _ h => h) (Or.inl ⟨by rfl, ?_⟩) ?_ ?_
    rotate_left
    ·intro w'
     go_simp
     with_reducible rfl
    rotate_left
    ·simp only [sP]
     rfl
    refine done_ (done_of HT_.out (by kernel_rfl)) ?_
    try go_wp2
    go_meet
    case rel => exact ⟨_, (true), rS, H', ⟨by first | omega | exact Nat.le_refl _⟩, ⟨bf0 BK135.out⟩, ⟨bw1 HB.out GE135.out⟩⟩
   ·rw [if_neg c7] at H
    have c7b0 : ((l1.length : Int) == 0) = false := beq_eq_false_iff_ne.mpr c7
    have c7b1 : ((l1.length : Int) != 0) = true := bne_iff_ne.mpr c7
    have c7b2 : ¬ (l1 = []) := fun h_ => c7 (by rw [h_]; rfl)
    (first | rw [c7b0] | (simp only [i64_w, i32_w]; rw [c7b0]) | skip)
    by_cases c10 : (l1.length : Int) > 1024
    ·rw [if_pos c10] at H
     have c10b0 : decide (1024 < (l1.length : Int)) = true := decide_eq_true c10
     have c10b1 : decide (1024 < l1.length) = true := decide_eq_true (by omega)
     clear c10
     have H' := Ax H
     clear H
     try go_wp2
     replace BK135 := Ax (blk_drew BK135.out)
     replace HB := Ax (below_drew1 HB.out)
     refine start_ (n := 33) (S := fun w' => w'.cell? ⟨gb135, 0, none⟩ = some (.int .i64 a0_0) ∧ w'.cell? ⟨gb135, 1, none⟩ = some (.int .i64 a0_1)) (ds := []) #[fa,fa,fa,fa,fa,fa,fa,fa,fa,fa,fa,fa,fa,fa,fa,fa,fa,fa,fa,fa,fa,fa,fa,fa,fa,fa,fa,fa,fa,fa,fa,fa,fa] (by kernel_rfl) rfl rfl ⟨(blk_cell BK135.out 0).trans rfl, (blk_cell BK135.out 1).trans rfl⟩ (fun hHeld => ?_); refine with_tabW line_Check.tab2 line_Check.bits2 (fun HT_ HW_ => ?_)
     generalize w4.drew = w11 at BK135 HB hHeld ⊢
     refine take_ (i := 0) (N := some 10) (v := ?_) (a' := ?_) #[tr,fa,fa,fa,fa,fa,fa,fa,fa,fa,fa,fa,fa,fa,fa,fa,fa,fa,fa,fa,fa,fa,fa,fa,fa,fa,fa,fa,fa,fa,fa,fa,fa] rfl rfl (take_ofW HT_.out HW_.out (by kernel_rfl)) (fun _ _ _ h => h) (Or.inl ⟨by rfl, ?_⟩) hHeld ?_ ?_
     rotate_left
     ·rintro w' ⟨s0, s1⟩
      go_simp
      with_reducible rfl
     rotate_left
     ·simp only [sP]
      rfl
     refine one_ (i := 1) (N := some 11) #[tr,tr,fa,fa,fa,fa,fa,fa,fa,fa,fa,fa,fa,fa,fa,fa,fa,fa,fa,fa,fa,fa,fa,fa,fa,fa,fa,fa,fa,fa,fa,fa,fa] rfl rfl (one_of HT_.out (by kernel_rfl)) (by decide) (fun K hK => ?_)
     refine goes_ Try.func29 (by kernel_rfl) rfl #[.agg #[.int .i64 a0_0, .int .i64 a0_1]] (by rfl) rfl rfl gS ?_
     with_reducible refine (line_window.calls k a0_0 a0_1 true _ A5.out).mono ?_
     rintro e w12 ⟨rfl, hb⟩
     refine ⟨_, rfl, ?_⟩
     replace BK135 := Bx0 BK135 hb
     replace HB := Bs1 HB hb GE135.out
     (try clear hb)
     refine hK.out _ _ ⟨(blk_cell BK135.out 0).trans rfl, (blk_cell BK135.out 1).trans rfl⟩ (fun hHeld => ?_)
     clear hK K
     refine norm_ (a' := ?_) ?_ ?_
     rotate_left
     ·show Act.put _ (some 11) _ = _
      simp only [sP]
      rfl
     refine pure_ (i := 2) (N := some 12) (v := ?_) (a' := ?_) #[tr,tr,tr,fa,fa,fa,fa,fa,fa,fa,fa,fa,fa,fa,fa,fa,fa,fa,fa,fa,fa,fa,fa,fa,fa,fa,fa,fa,fa,fa,fa,fa,fa] rfl rfl (any_of HT_.out (by kernel_rfl)) (fun _ _ _ h => h) (Or.inl ⟨by rfl, ?_⟩) ?_ ?_
     rotate_left
     ·intro w'
      go_simp
      with_reducible rfl
     rotate_left
     ·simp only [sP]
      rfl
     refine pure_ (i := 3) (N := some 13) (v := ?_) (a' := ?_) #[tr,tr,tr,tr,fa,fa,fa,fa,fa,fa,fa,fa,fa,fa,fa,fa,fa,fa,fa,fa,fa,fa,fa,fa,fa,fa,fa,fa,fa,fa,fa,fa,fa] rfl rfl (any_of HT_.out (by kernel_rfl)) (fun _ _ _ h => h) (Or.inl ⟨by rfl, ?_⟩) ?_ ?_
     rotate_left
     ·intro w'
      go_simp
      with_reducible rfl
     rotate_left
     ·simp only [sP]
      rfl
     refine pure_ (i := 4) (N := some 14) (v := ?_) (a' := ?_) #[tr,tr,tr,tr,tr,fa,fa,fa,fa,fa,fa,fa,fa,fa,fa,fa,fa,fa,fa,fa,fa,fa,fa,fa,fa,fa,fa,fa,fa,fa,fa,fa,fa] rfl rfl (any_of HT_.out (by kernel_rfl)) (fun _ _ _ h => h) (Or.inl ⟨by rfl, ?_⟩) ?_ ?_
     rotate_left
     ·intro w'
      go_simp
      with_reducible rfl
     rotate_left
     ·simp only [sP]
      rfl
     refine pure_ (i := 5) (N := some 15) (v := ?_) (a' := ?_) #[tr,tr,tr,tr,tr,tr,fa,fa,fa,fa,fa,fa,fa,fa,fa,fa,fa,fa,fa,fa,fa,fa,fa,fa,fa,fa,fa,fa,fa,fa,fa,fa,fa] rfl rfl (any_of HT_.out (by kernel_rfl)) (fun _ _ _ h => h) (Or.inl ⟨by rfl, ?_⟩) ?_ ?_
     rotate_left
     ·intro w'
      go_simp
      with_reducible rfl
     rotate_left
     ·simp only [sP]
      rfl
     refine pure_ (i := 6) (N := some 16) (v := ?_) (a' := ?_) #[tr,tr,tr,tr,tr,tr,tr,fa,fa,fa,fa,fa,fa,fa,fa,fa,fa,fa,fa,fa,fa,fa,fa,fa,fa,fa,fa,fa,fa,fa,fa,fa,fa] rfl rfl (any_of HT_.out (by kernel_rfl)) (fun _ _ _ h => h) (Or.inl ⟨by rfl, ?_⟩) ?_ ?_
     rotate_left
     ·intro w'
      go_simp
      with_reducible rfl
     rotate_left
     ·simp only [sP]
      rfl
     refine pure_ (i := 7) (N := some 17) (v := ?_) (a' := ?_) #[tr,tr,tr,tr,tr,tr,tr,tr,fa,fa,fa,fa,fa,fa,fa,fa,fa,fa,fa,fa,fa,fa,fa,fa,fa,fa,fa,fa,fa,fa,fa,fa,fa] rfl rfl (any_of HT_.out (by kernel_rfl)) (fun _ _ _ h => h) (Or.inl ⟨by rfl, ?_⟩) ?_ ?_
     rotate_left
     ·intro w'
      go_simp
      with_reducible rfl
     rotate_left
     ·simp only [sP]
      rfl
     refine pure_ (i := 8) (N := some 18) (v := ?_) (a' := ?_) #[tr,tr,tr,tr,tr,tr,tr,tr,tr,fa,fa,fa,fa,fa,fa,fa,fa,fa,fa,fa,fa,fa,fa,fa,fa,fa,fa,fa,fa,fa,fa,fa,fa] rfl rfl (any_of HT_.out (by kernel_rfl)) (fun _ _ _ h => h) (Or.inl ⟨by rfl, ?_⟩) ?_ ?_
     rotate_left
     ·intro w'
      go_simp
      with_reducible rfl
     rotate_left
     ·simp only [sP]
      rfl
     refine pure_ (i := 9) (N := some 19) (v := ?_) (a' := ?_) #[tr,tr,tr,tr,tr,tr,tr,tr,tr,tr,fa,fa,fa,fa,fa,fa,fa,fa,fa,fa,fa,fa,fa,fa,fa,fa,fa,fa,fa,fa,fa,fa,fa] rfl rfl (any_of HT_.out (by kernel_rfl)) (fun _ _ _ h => h) (Or.inl ⟨by rfl, ?_⟩) ?_ ?_
     rotate_left
     ·intro w'
      go_simp
      with_reducible rfl
     rotate_left
     ·simp only [sP]
      rfl
     refine pure_ (i := 10) (N := some 20) (v := ?_) (a' := ?_) #[tr,tr,tr,tr,tr,tr,tr,tr,tr,tr,tr,fa,fa,fa,fa,fa,fa,fa,fa,fa,fa,fa,fa,fa,fa,fa,fa,fa,fa,fa,fa,fa,fa] rfl rfl (any_of HT_.out (by kernel_rfl)) (fun _ _ _ h => h) (Or.inl ⟨by rfl, ?_⟩) ?_ ?_
     rotate_left
     ·intro w'
      go_simp
      with_reducible rfl
     rotate_left
     ·simp only [sP]
      rfl
     refine pure_ (i := 11) (N := some 21) (v := ?_) (a' := ?_) #[tr,tr,tr,tr,tr,tr,tr,tr,tr,tr,tr,tr,fa,fa,fa,fa,fa,fa,fa,fa,fa,fa,fa,fa,fa,fa,fa,fa,fa,fa,fa,fa,fa] rfl rfl (any_of HT_.out (by kernel_rfl)) (fun _ _ _ h => h) (Or.inl ⟨by rfl, ?_⟩) ?_ ?_
     rotate_left
     ·intro w'
      go_simp
      with_reducible rfl
     rotate_left
     ·simp only [sP]
      rfl
     refine pure_ (i := 12) (N := some 22) (v := undef) (a' := ?_) #[tr,tr,tr,tr,tr,tr,tr,tr,tr,tr,tr,tr,tr,fa,fa,fa,fa,fa,fa,fa,fa,fa,fa,fa,fa,fa,fa,fa,fa,fa,fa,fa,fa] rfl rfl (any_of HT_.out (by kernel_rfl)) (fun _ _ _ h => h) (Or.inr ⟨by rfl, rfl⟩) ?_ ?_
     rotate_left
     ·simp only [sP]
      rfl
     refine pure_ (i := 13) (N := some 23) (v := undef) (a' := ?_) #[tr,tr,tr,tr,tr,tr,tr,tr,tr,tr,tr,tr,tr,tr,fa,fa,fa,fa,fa,fa,fa,fa,fa,fa,fa,fa,fa,fa,fa,fa,fa,fa,fa] rfl rfl (any_of HT_.out (by kernel_rfl)) (fun _ _ _ h => h) (Or.inr ⟨by rfl, rfl⟩) ?_ ?_
     rotate_left
     ·simp only [sP]
      rfl
     refine pure_ (i := 14) (N := some 24) (v := undef) (a' := ?_) #[tr,tr,tr,tr,tr,tr,tr,tr,tr,tr,tr,tr,tr,tr,tr,fa,fa,fa,fa,fa,fa,fa,fa,fa,fa,fa,fa,fa,fa,fa,fa,fa,fa] rfl rfl (any_of HT_.out (by kernel_rfl)) (fun _ _ _ h => h) (Or.inr ⟨by rfl, rfl⟩) ?_ ?_
     rotate_left
     ·simp only [sP]
      rfl
     refine pure_ (i := 15) (N := some 25) (v := undef) (a' := ?_) #[tr,tr,tr,tr,tr,tr,tr,tr,tr,tr,tr,tr,tr,tr,tr,tr,fa,fa,fa,fa,fa,fa,fa,fa,fa,fa,fa,fa,fa,fa,fa,fa,fa] rfl rfl (any_of HT_.out (by kernel_rfl)) (fun _ _ _ h => h) (Or.inr ⟨by rfl, rfl⟩) ?_ ?_
     rotate_left
     ·simp only [sP]
      rfl
     refine pure_ (i := 16) (N := some 26) (v := undef) (a' := ?_) #[tr,tr,tr,tr,tr,tr,tr,tr,tr,tr,tr,tr,tr,tr,tr,tr,tr,fa,fa,fa,fa,fa,fa,fa,fa,fa,fa,fa,fa,fa,fa,fa,fa] rfl rfl (any_of HT_.out (by kernel_rfl)) (fun _ _ _ h => h) (Or.inr ⟨by rfl, rfl⟩) ?_ ?_
     rotate_left
     ·simp only [sP]
      rfl
     refine pure_ (i := 17) (N := some 27) (v := undef) (a' := ?_) #[tr,tr,tr,tr,tr,tr,tr,tr,tr,tr,tr,tr,tr,tr,tr,tr,tr,tr,fa,fa,fa,fa,fa,fa,fa,fa,fa,fa,fa,fa,fa,fa,fa] rfl rfl (any_of HT_.out (by kernel_rfl)) (fun _ _ _ h => h) (Or.inr ⟨by rfl, rfl⟩) ?_ ?_
     rotate_left
     ·simp only [sP]
      rfl
     refine pure_ (i := 18) (N := some 28) (v := undef) (a' := ?_) #[tr,tr,tr,tr,tr,tr,tr,tr,tr,tr,tr,tr,tr,tr,tr,tr,tr,tr,tr,fa,fa,fa,fa,fa,fa,fa,fa,fa,fa,fa,fa,fa,fa] rfl rfl (any_of HT_.out (by kernel_rfl)) (fun _ _ _ h => h) (Or.inr ⟨by rfl, rfl⟩) ?_ ?_
     rotate_left
     ·simp only [sP]
      rfl
     refine pure_ (i := 19) (N := some 29) (v := undef) (a' := ?_) #[tr,tr,tr,tr,tr,tr,tr,tr,tr,tr,tr,tr,tr,tr,tr,tr,tr,tr,tr,tr,fa,fa,fa,fa,fa,fa,fa,fa,fa,fa,fa,fa,fa] rfl rfl (any_of HT_.out (by kernel_rfl)) (fun _ _ _ h => h) (Or.inr ⟨by rfl, rfl⟩) ?_ ?_
     rotate_left
     ·simp only [sP]
      rfl
     refine pure_ (i := 20) (N := some 30) (v := ?_) (a' := ?_) #[tr,tr,tr,tr,tr,tr,tr,tr,tr,tr,tr,tr,tr,tr,tr,tr,tr,tr,tr,tr,tr,fa,fa,fa,fa,fa,fa,fa,fa,fa,fa,fa,fa] rfl rfl (any_of HT_.out (by kernel_rfl)) (fun _ _ _ h => h) (Or.inl ⟨by rfl, ?_⟩) ?_ ?_
     rotate_left
     ·intro w'
      go_simp
      with_reducible rfl
     rotate_left
     ·simp only [sP]
      rfl
     refine pure_ (i := 21) (N := some 31) (v := ?_) (a' := ?_) #[tr,tr,tr,tr,tr,tr,tr,tr,tr,tr,tr,tr,tr,tr,tr,tr,tr,tr,tr,tr,tr,tr,fa,fa,fa,fa,fa,fa,fa,fa,fa,fa,fa] rfl rfl (any_of HT_.out (by kernel_rfl)) (fun _ _ _ h => h) (Or.inl ⟨by rfl, ?_⟩) ?_ ?_
     rotate_left
     ·intro w'
      go_simp
      with_reducible rfl
     rotate_left
     ·simp only [sP]
      rfl
     refine pure_ (i := 22) (N := some 32) (v := undef) (a' := ?_) #[tr,tr,tr,tr,tr,tr,tr,tr,tr,tr,tr,tr,tr,tr,tr,tr,tr,tr,tr,tr,tr,tr,tr,fa,fa,fa,fa,fa,fa,fa,fa,fa,fa] rfl rfl (any_of HT_.out (by kernel_rfl)) (fun _ _ _ h => h) (Or.inr ⟨by rfl, rfl⟩) ?_ ?_
     rotate_left
     ·simp only [sP]
      rfl
     refine pure_ (i := 23) (N := some 33) (v := undef) (a' := ?_) #[tr,tr,tr,tr,tr,tr,tr,tr,tr,tr,tr,tr,tr,tr,tr,tr,tr,tr,tr,tr,tr,tr,tr,tr,fa,fa,fa,fa,fa,fa,fa,fa,fa] rfl rfl (any_of HT_.out (by kernel_rfl)) (fun _ _ _ h => h) (Or.inr ⟨by rfl, rfl⟩) ?_ ?_
     rotate_left
     ·simp only [sP]
      rfl
     refine pure_ (i := 24) (N := some 34) (v := undef) (a' := ?_) #[tr,tr,tr,tr,tr,tr,tr,tr,tr,tr,tr,tr,tr,tr,tr,tr,tr,tr,tr,tr,tr,tr,tr,tr,tr,fa,fa,fa,fa,fa,fa,fa,fa] rfl rfl (any_of HT_.out (by kernel_rfl)) (fun _ _ _ h => h) (Or.inr ⟨by rfl, rfl⟩) ?_ ?_
     rotate_left
     ·simp only [sP]
      rfl
     refine pure_ (i := 25) (N := some 35) (v := undef) (a' := ?_) #[tr,tr,tr,tr,tr,tr,tr,tr,tr,tr,tr,tr,tr,tr,tr,tr,tr,tr,tr,tr,tr,tr,tr,tr,tr,tr,fa,fa,fa,fa,fa,fa,fa] rfl rfl (any_of HT_.out (by kernel_rfl)) (fun _ _ _ h => h) (Or.inr ⟨by rfl, rfl⟩) ?_ ?_
     rotate_left
     ·simp only [sP]
      rfl
     refine pure_ (i := 26) (N := some 36) (v := undef) (a' := ?_) #[tr,tr,tr,tr,tr,tr,tr,tr,tr,tr,tr,tr,tr,tr,tr,tr,tr,tr,tr,tr,tr,tr,tr,tr,tr,tr,tr,fa,fa,fa,fa,fa,fa] rfl rfl (any_of HT_.out (by kernel_rfl)) (fun _ _ _ h => h) (Or.inr ⟨by rfl, rfl⟩) ?_ ?_
     rotate_left
     ·simp only [sP]
      rfl
     refine pure_ (i := 27) (N := some 37) (v := undef) (a' := ?_) #[tr,tr,tr,tr,tr,tr,tr,tr,tr,tr,tr,tr,tr,tr,tr,tr,tr,tr,tr,tr,tr,tr,tr,tr,tr,tr,tr,tr,fa,fa,fa,fa,fa] rfl rfl (any_of HT_.out (by kernel_rfl)) (fun _ _ _ h => h) (Or.inr ⟨by rfl, rfl⟩) ?_ ?_
     rotate_left
     ·simp only [sP]
      rfl
     refine pure_ (i := 28) (N := some 38) (v := undef) (a' := ?_) #[tr,tr,tr,tr,tr,tr,tr,tr,tr,tr,tr,tr,tr,tr,tr,tr,tr,tr,tr,tr,tr,tr,tr,tr,tr,tr,tr,tr,tr,fa,fa,fa,fa] rfl rfl (any_of HT_.out (by kernel_rfl)) (fun _ _ _ h => h) (Or.inr ⟨by rfl, rfl⟩) ?_ ?_
     rotate_left
     ·simp only [sP]
      rfl
     refine pure_ (i := 29) (N := some 39) (v := undef) (a' := ?_) #[tr,tr,tr,tr,tr,tr,tr,tr,tr,tr,tr,tr,tr,tr,tr,tr,tr,tr,tr,tr,tr,tr,tr,tr,tr,tr,tr,tr,tr,tr,fa,fa,fa] rfl rfl (any_of HT_.out (by kernel_rfl)) (fun _ _ _ h => h) (Or.inr ⟨by rfl, rfl⟩) ?_ ?_
     rotate_left
     ·simp only [sP]
      rfl
     refine pure_ (i := 30) (N := some 40) (v := undef) (a' := ?_) #[tr,tr,tr,tr,tr,tr,tr,tr,tr,tr,tr,tr,tr,tr,tr,tr,tr,tr,tr,tr,tr,tr,tr,tr,tr,tr,tr,tr,tr,tr,tr,fa,fa] rfl rfl (any_of HT_.out (by kernel_rfl)) (fun _ _ _ h => h) (Or.inr ⟨by rfl, rfl⟩) ?_ ?_
     rotate_left
     ·simp only [sP]
      rfl
     refine pure_ (i := 31) (N := some 41) (v := undef) (a' := ?_) #[tr,tr,tr,tr,tr,tr,tr,tr,tr,tr,tr,tr,tr,tr,tr,tr,tr,tr,tr,tr,tr,tr,tr,tr,tr,tr,tr,tr,tr,tr,tr,tr,fa] rfl rfl (any_of HT_.out (by kernel_rfl)) (fun _ _ _ h => h) (Or.inr ⟨by rfl, rfl⟩) ?_ ?_
     rotate_left
     ·simp only [sP]
      rfl
     refine pure_ (i := 32) (N := some 42) (v := ?_) (a' := ?_) #[tr,tr,tr,tr,tr,tr,tr,tr,tr,tr,tr,tr,tr,tr,tr,tr,tr,tr,tr,tr,tr,tr,tr,tr,tr,tr,tr,tr,tr,tr,tr,tr,tr] rfl rfl (any_of HT_.out (by kernel_rfl)) (fun _ _ _ h => h) (Or.inl ⟨by rfl, ?_⟩) ?_ ?_
     rotate_left
     ·intro w'
      go_simp
      with_reducible rfl
     rotate_left
     ·simp only [sP]
      rfl
     refine done_ (done_of HT_.out (by kernel_rfl)) ?_
     try go_wp2
     go_meet
     case rel => exact ⟨_, (true), rS, H', ⟨by first | omega | exact Nat.le_refl _⟩, ⟨bf0 BK135.out⟩, ⟨bw1 HB.out GE135.out⟩⟩
    ·rw [if_neg c10] at H
     have c10b0 : decide (1024 < (l1.length : Int)) = false := decide_eq_false c10
     have c10b1 : decide (1024 < l1.length) = false := decide_eq_false (by omega)
     clear c10
     by_cases c13 : 0 < (l1.length : Int)
     ·rw [if_pos c13] at H
      have c13b0 : decide (0 < (l1.length : Int)) = true := decide_eq_true c13
      have c13b1 : decide (0 < l1.length) = true := decide_eq_true (by omega)
      clear c13
      by_cases c14 : ((rd_T34 l1 0).f0.f0) = a0_0
      ·rw [if_pos c14] at H
       have c14b0 : (((rd_T34 l1 0).f0.f0) == a0_0) = true := beq_iff_eq.mpr c14
       have c14b1 : (((rd_T34 l1 0).f0.f0) != a0_0) = false := bne_eq_false_iff_eq.mpr c14
       clear c14
       obtain ⟨ji15, hji15⟩ : ∃ j_ : Int, (wrap64 ((l1.length : Int) - 1)) = j_ := ⟨_, rfl⟩
       replace H : (if 0 ≤ (ji15) then (if (ji15) < (l1.length : Int) then (line_Check.j0 k l1 (((rd_T34 l1 (ji15)).f0.f1) != a0_1) a0_0 a0_1) else (none)) else (none)) = some r := by first | (rw [hji15] at H; exact H) | (simp only [hji15] at H ⊢; exact H)
       (try rw [hji15] at A5)
       have hji15w : (IntKind.i64.wrap ((l1.length : Int) - 1)) = ji15 := (i64_w _).trans hji15
       by_cases c16 : 0 ≤ (ji15)
       ·rw [if_pos c16] at H
        have c16b0 : decide (0 ≤ (ji15)) = true := decide_eq_true c16
        clear c16
        by_cases c17 : (ji15) < (l1.length : Int)
        ·rw [if_pos c17] at H
         have c17b0 : decide ((ji15) < (l1.length : Int)) = true := decide_eq_true c17
         clear c17
         have H' := Ax H
         clear H
         try go_wp2
         replace BK135 := Ax (blk_drew BK135.out)
         replace HB := Ax (below_drew1 HB.out)
         have p137 : 0 ≤ (0 : Int) := (by omega)
         have q137 : 0 < (l1.length : Int) := of_decide_eq_true (by first | (with_reducible assumption) | assumption)
         obtain ⟨ad137, e137, hx137_0, hx137_1, hx137_2, hx137_3⟩ := at_T34 HR1.out 0 p137 q137
         have hw137_3 := hx137_3
         (try rw [show ((0 : Int)).toNat = 0 from rfl] at hw137_3)
         (try rw [show 0 * 4 = 0 from rfl] at hw137_3)
         (try rw [Addr.add_zero'] at hw137_3)
         have hw137_2 := hx137_2
         (try rw [show ((0 : Int)).toNat = 0 from rfl] at hw137_2)
         (try rw [show 0 * 4 = 0 from rfl] at hw137_2)
         (try rw [Addr.add_zero'] at hw137_2)
         have hw137_1 := hx137_1
         (try rw [show ((0 : Int)).toNat = 0 from rfl] at hw137_1)
         (try rw [show 0 * 4 = 0 from rfl] at hw137_1)
         (try rw [Addr.add_zero'] at hw137_1)
         have hw137_0 := hx137_0
         (try rw [show ((0 : Int)).toNat = 0 from rfl] at hw137_0)
         (try rw [show 0 * 4 = 0 from rfl] at hw137_0)
         (try rw [Addr.add_zero'] at hw137_0)
         cases e137
         have qi137 : (0 < l1.length) = True := eq_true (by omega)
         (try rw [show ((0 : Int)).toNat = 0 from rfl] at hx137_0)
         (try rw [show 0 * 4 = 0 from rfl] at hx137_0)
         (try rw [Addr.add_zero'] at hx137_0)
         (try rw [show ((0 : Int)).toNat = 0 from rfl] at hx137_1)
         (try rw [show 0 * 4 = 0 from rfl] at hx137_1)
         (try rw [Addr.add_zero'] at hx137_1)
         (try rw [show ((0 : Int)).toNat = 0 from rfl] at hx137_2)
         (try rw [show 0 * 4 = 0 from rfl] at hx137_2)
         (try rw [Addr.add_zero'] at hx137_2)
         (try rw [show ((0 : Int)).toNat = 0 from rfl] at hx137_3)
         (try rw [show 0 * 4 = 0 from rfl] at hx137_3)
         (try rw [Addr.add_zero'] at hx137_3)
         replace hx137_0 := (HB.out.cell (World.block_lt_of_cell? w _ hx137_0)).trans hx137_0
         replace hx137_1 := (HB.out.cell (World.block_lt_of_cell? w _ hx137_1)).trans hx137_1
         replace hx137_2 := (HB.out.cell (World.block_lt_of_cell? w _ hx137_2)).trans hx137_2
         replace hx137_3 := (HB.out.cell (World.block_lt_of_cell? w _ hx137_3)).trans hx137_3
         replace p137 := eq_true p137
         replace q137 := eq_true q137
         have p138 : 0 ≤ ((ji15) : Int) := of_decide_eq_true (by first | (with_reducible assumption) | assumption)
         have q138 : (ji15) < (l1.length : Int) := of_decide_eq_true (by first | (with_reducible assumption) | assumption)
         obtain ⟨ad138, e138, hx138_0, hx138_1, hx138_2, hx138_3⟩ := at_T34 HR1.out (ji15) p138 q138
         have hw138_3 := hx138_3
         have hw138_2 := hx138_2
         have hw138_1 := hx138_1
         have hw138_0 := hx138_0
         obtain rfl : ad137 = ad138 := (by injection e138)
         replace hx138_0 := (HB.out.cell (World.block_lt_of_cell? w _ hx138_0)).trans hx138_0
         replace hx138_1 := (HB.out.cell (World.block_lt_of_cell? w _ hx138_1)).trans hx138_1
         replace hx138_2 := (HB.out.cell (World.block_lt_of_cell? w _ hx138_2)).trans hx138_2
         replace hx138_3 := (HB.out.cell (World.block_lt_of_cell? w _ hx138_3)).trans hx138_3
         replace p138 := eq_true p138
         replace q138 := eq_true q138
         refine start_ (n := 33) (S := fun w' => w'.cell? ⟨gb135, 0, none⟩ = some (.int .i64 a0_0) ∧ w'.cell? ⟨gb135, 1, none⟩ = some (.int .i64 a0_1) ∧ w'.cell? ad137 = some (.int .i64 ((rd_T34 l1 0).f0.f0)) ∧ w'.cell? ⟨ad137.block, ad137.off + 1, none⟩ = some (.int .i64 ((rd_T34 l1 0).f0.f1)) ∧ w'.cell? ⟨ad137.block, ad137.off + 2, none⟩ = some (.int .u8 ((rd_T34 l1 0).f1.f0)) ∧ w'.cell? ⟨ad137.block, ad137.off + 3, none⟩ = some (.int .i64 ((rd_T34 l1 0).f1.f1)) ∧ w'.cell? (ad137.add (((ji15)).toNat * 4)) = some (.int .i64 ((rd_T34 l1 (ji15)).f0.f0)) ∧ w'.cell? ⟨(ad137.add (((ji15)).toNat * 4)).block, (ad137.add (((ji15)).toNat * 4)).off + 1, none⟩ = some (.int .i64 ((rd_T34 l1 (ji15)).f0.f1)) ∧ w'.cell? ⟨(ad137.add (((ji15)).toNat * 4)).block, (ad137.add (((ji15)).toNat * 4)).off + 2, none⟩ = some (.int .u8 ((rd_T34 l1 (ji15)).f1.f0)) ∧ w'.cell? ⟨(ad137.add (((ji15)).toNat * 4)).block, (ad137.add (((ji15)).toNat * 4)).off + 3, none⟩ = some (.int .i64 ((rd_T34 l1 (ji15)).f1.f1))) (ds := []) #[fa,fa,fa,fa,fa,fa,fa,fa,fa,fa,fa,fa,fa,fa,fa,fa,fa,fa,fa,fa,fa,fa,fa,fa,fa,fa,fa,fa,fa,fa,fa,fa,fa] (by kernel_rfl) rfl rfl ⟨(blk_cell BK135.out 0).trans rfl, (blk_cell BK135.out 1).trans rfl, ((HB.out.cell (World.block_lt_of_cell? w _ hw137_0)).trans hw137_0), ((HB.out.cell (World.block_lt_of_cell? w _ hw137_1)).trans hw137_1), ((HB.out.cell (World.block_lt_of_cell? w _ hw137_2)).trans hw137_2), ((HB.out.cell (World.block_lt_of_cell? w _ hw137_3)).trans hw137_3), ((HB.out.cell (World.block_lt_of_cell? w _ hw138_0)).trans hw138_0), ((HB.out.cell (World.block_lt_of_cell? w _ hw138_1)).trans hw138_1), ((HB.out.cell (World.block_lt_of_cell? w _ hw138_2)).trans hw138_2), ((HB.out.cell (World.block_lt_of_cell? w _ hw138_3)).trans hw138_3)⟩ (fun hHeld => ?_); refine with_tabW line_Check.tab2 line_Check.bits2 (fun HT_ HW_ => ?_)
         generalize w4.drew = w18 at BK135 HB hx137_0 hx137_1 hx137_2 hx137_3 hx138_0 hx138_1 hx138_2 hx138_3 hHeld ⊢
         refine take_ (i := 0) (N := some 10) (v := ?_) (a' := ?_) #[tr,fa,fa,fa,fa,fa,fa,fa,fa,fa,fa,fa,fa,fa,fa,fa,fa,fa,fa,fa,fa,fa,fa,fa,fa,fa,fa,fa,fa,fa,fa,fa,fa] rfl rfl (take_ofW HT_.out HW_.out (by kernel_rfl)) (fun _ _ _ h => h) (Or.inl ⟨by rfl, ?_⟩) hHeld ?_ ?_
         rotate_left
         ·rintro w' ⟨s0, s1, s2, s3, s4, s5, s6, s7, s8, s9⟩
          go_simp
          with_reducible rfl
         rotate_left
         ·simp only [sP]
          rfl
         refine one_ (i := 1) (N := some 11) #[tr,tr,fa,fa,fa,fa,fa,fa,fa,fa,fa,fa,fa,fa,fa,fa,fa,fa,fa,fa,fa,fa,fa,fa,fa,fa,fa,fa,fa,fa,fa,fa,fa] rfl rfl (one_of HT_.out (by kernel_rfl)) (by decide) (fun K hK => ?_)
         refine goes_ Try.func29 (by kernel_rfl) rfl #[.agg #[.int .i64 a0_0, .int .i64 a0_1]] (by rfl) rfl rfl gS ?_
         with_reducible refine (line_window.calls k a0_0 a0_1 true _ A5.out).mono ?_
         rintro e w19 ⟨rfl, hb⟩
         refine ⟨_, rfl, ?_⟩
         replace BK135 := Bx0 BK135 hb
         replace HB := Bs1 HB hb GE135.out
         (try clear hb)
         refine hK.out _ _ ⟨(blk_cell BK135.out 0).trans rfl, (blk_cell BK135.out 1).trans rfl, ((HB.out.cell (World.block_lt_of_cell? w _ hw137_0)).trans hw137_0), ((HB.out.cell (World.block_lt_of_cell? w _ hw137_1)).trans hw137_1), ((HB.out.cell (World.block_lt_of_cell? w _ hw137_2)).trans hw137_2), ((HB.out.cell (World.block_lt_of_cell? w _ hw137_3)).trans hw137_3), ((HB.out.cell (World.block_lt_of_cell? w _ hw138_0)).trans hw138_0), ((HB.out.cell (World.block_lt_of_cell? w _ hw138_1)).trans hw138_1), ((HB.out.cell (World.block_lt_of_cell? w _ hw138_2)).trans hw138_2), ((HB.out.cell (World.block_lt_of_cell? w _ hw138_3)).trans hw138_3)⟩ (fun hHeld => ?_)
         clear hK K
         refine norm_ (a' := ?_) ?_ ?_
         rotate_left
         ·show Act.put _ (some 11) _ = _
          simp only [sP]
          rfl
         refine pure_ (i := 2) (N := some 12) (v := ?_) (a' := ?_) #[tr,tr,tr,fa,fa,fa,fa,fa,fa,fa,fa,fa,fa,fa,fa,fa,fa,fa,fa,fa,fa,fa,fa,fa,fa,fa,fa,fa,fa,fa,fa,fa,fa] rfl rfl (any_of HT_.out (by kernel_rfl)) (fun _ _ _ h => h) (Or.inl ⟨by rfl, ?_⟩) ?_ ?_
         rotate_left
         ·intro w'
          go_simp
          with_reducible rfl
         rotate_left
         ·simp only [sP]
          rfl
         refine pure_ (i := 3) (N := some 13) (v := ?_) (a' := ?_) #[tr,tr,tr,tr,fa,fa,fa,fa,fa,fa,fa,fa,fa,fa,fa,fa,fa,fa,fa,fa,fa,fa,fa,fa,fa,fa,fa,fa,fa,fa,fa,fa,fa] rfl rfl (any_of HT_.out (by kernel_rfl)) (fun _ _ _ h => h) (Or.inl ⟨by rfl, ?_⟩) ?_ ?_
         rotate_left
         ·intro w'
          go_simp
          with_reducible rfl
         rotate_left
         ·simp only [sP]
          rfl
         refine pure_ (i := 4) (N := some 14) (v := ?_) (a' := ?_) #[tr,tr,tr,tr,tr,fa,fa,fa,fa,fa,fa,fa,fa,fa,fa,fa,fa,fa,fa,fa,fa,fa,fa,fa,fa,fa,fa,fa,fa,fa,fa,fa,fa] rfl rfl (any_of HT_.out (by kernel_rfl)) (fun _ _ _ h => h) (Or.inl ⟨by rfl, ?_⟩) ?_ ?_
         rotate_left
         ·intro w'
          go_simp
          with_reducible rfl
         rotate_left
         ·simp only [sP]
          rfl
         refine pure_ (i := 5) (N := some 15) (v := ?_) (a' := ?_) #[tr,tr,tr,tr,tr,tr,fa,fa,fa,fa,fa,fa,fa,fa,fa,fa,fa,fa,fa,fa,fa,fa,fa,fa,fa,fa,fa,fa,fa,fa,fa,fa,fa] rfl rfl (any_of HT_.out (by kernel_rfl)) (fun _ _ _ h => h) (Or.inl ⟨by rfl, ?_⟩) ?_ ?_
         rotate_left
         ·intro w'
          go_simp
          with_reducible rfl
         rotate_left
         ·simp only [sP]
          rfl
         refine pure_ (i := 6) (N := some 16) (v := ?_) (a' := ?_) #[tr,tr,tr,tr,tr,tr,tr,fa,fa,fa,fa,fa,fa,fa,fa,fa,fa,fa,fa,fa,fa,fa,fa,fa,fa,fa,fa,fa,fa,fa,fa,fa,fa] rfl rfl (any_of HT_.out (by kernel_rfl)) (fun _ _ _ h => h) (Or.inl ⟨by rfl, ?_⟩) ?_ ?_
         rotate_left
         ·intro w'
          go_simp
          with_reducible rfl
         rotate_left
         ·simp only [sP]
          rfl
         refine pure_ (i := 7) (N := some 17) (v := ?_) (a' := ?_) #[tr,tr,tr,tr,tr,tr,tr,tr,fa,fa,fa,fa,fa,fa,fa,fa,fa,fa,fa,fa,fa,fa,fa,fa,fa,fa,fa,fa,fa,fa,fa,fa,fa] rfl rfl (any_of HT_.out (by kernel_rfl)) (fun _ _ _ h => h) (Or.inl ⟨by rfl, ?_⟩) ?_ ?_
         rotate_left
         ·intro w'
          go_simp
          with_reducible rfl
         rotate_left
         ·simp only [sP]
          rfl
         refine pure_ (i := 8) (N := some 18) (v := ?_) (a' := ?_) #[tr,tr,tr,tr,tr,tr,tr,tr,tr,fa,fa,fa,fa,fa,fa,fa,fa,fa,fa,fa,fa,fa,fa,fa,fa,fa,fa,fa,fa,fa,fa,fa,fa] rfl rfl (any_of HT_.out (by kernel_rfl)) (fun _ _ _ h => h) (Or.inl ⟨by rfl, ?_⟩) ?_ ?_
         rotate_left
         ·intro w'
          go_simp
          with_reducible rfl
         rotate_left
         ·simp only [sP]
          rfl
         refine pure_ (i := 9) (N := some 19) (v := ?_) (a' := ?_) #[tr,tr,tr,tr,tr,tr,tr,tr,tr,tr,fa,fa,fa,fa,fa,fa,fa,fa,fa,fa,fa,fa,fa,fa,fa,fa,fa,fa,fa,fa,fa,fa,fa] rfl rfl (any_of HT_.out (by kernel_rfl)) (fun _ _ _ h => h) (Or.inl ⟨by rfl, ?_⟩) ?_ ?_
         rotate_left
         ·intro w'
          go_simp
          with_reducible rfl
         rotate_left
         ·simp only [sP]
          rfl
         refine pure_ (i := 10) (N := some 20) (v := ?_) (a' := ?_) #[tr,tr,tr,tr,tr,tr,tr,tr,tr,tr,tr,fa,fa,fa,fa,fa,fa,fa,fa,fa,fa,fa,fa,fa,fa,fa,fa,fa,fa,fa,fa,fa,fa] rfl rfl (any_of HT_.out (by kernel_rfl)) (fun _ _ _ h => h) (Or.inl ⟨by rfl, ?_⟩) ?_ ?_
         rotate_left
         ·intro w'
          go_simp
          with_reducible rfl
         rotate_left
         ·simp only [sP]
          rfl
         refine pure_ (i := 11) (N := some 21) (v := ?_) (a' := ?_) #[tr,tr,tr,tr,tr,tr,tr,tr,tr,tr,tr,tr,fa,fa,fa,fa,fa,fa,fa,fa,fa,fa,fa,fa,fa,fa,fa,fa,fa,fa,fa,fa,fa] rfl rfl (any_of HT_.out (by kernel_rfl)) (fun _ _ _ h => h) (Or.inl ⟨by rfl, ?_⟩) ?_ ?_
         rotate_left
         ·intro w'
          go_simp
          with_reducible rfl
         rotate_left
         ·simp only [sP]
          rfl
         refine pure_ (i := 12) (N := some 22) (v := ?_) (a' := ?_) #[tr,tr,tr,tr,tr,tr,tr,tr,tr,tr,tr,tr,tr,fa,fa,fa,fa,fa,fa,fa,fa,fa,fa,fa,fa,fa,fa,fa,fa,fa,fa,fa,fa] rfl rfl (any_of HT_.out (by kernel_rfl)) (fun _ _ _ h => h) (Or.inl ⟨by rfl, ?_⟩) ?_ ?_
         rotate_left
         ·intro w'
          go_simp
          with_reducible rfl
         rotate_left
         ·simp only [sP]
          rfl
         refine pure_ (i := 13) (N := some 23) (v := ?_) (a' := ?_) #[tr,tr,tr,tr,tr,tr,tr,tr,tr,tr,tr,tr,tr,tr,fa,fa,fa,fa,fa,fa,fa,fa,fa,fa,fa,fa,fa,fa,fa,fa,fa,fa,fa] rfl rfl (any_of HT_.out (by kernel_rfl)) (fun _ _ _ h => h) (Or.inl ⟨by rfl, ?_⟩) ?_ ?_
         rotate_left
         ·intro w'
          go_simp
          with_reducible rfl
         rotate_left
         ·simp only [sP]
          rfl
         refine pure_ (i := 14) (N := some 24) (v := ?_) (a' := ?_) #[tr,tr,tr,tr,tr,tr,tr,tr,tr,tr,tr,tr,tr,tr,tr,fa,fa,fa,fa,fa,fa,fa,fa,fa,fa,fa,fa,fa,fa,fa,fa,fa,fa] rfl rfl (any_of HT_.out (by kernel_rfl)) (fun _ _ _ h => h) (Or.inl ⟨by rfl, ?_⟩) ?_ ?_
         rotate_left
         ·intro w'
          go_simp
          with_reducible rfl
         rotate_left
         ·simp only [sP]
          rfl
         refine pure_ (i := 15) (N := some 25) (v := ?_) (a' := ?_) #[tr,tr,tr,tr,tr,tr,tr,tr,tr,tr,tr,tr,tr,tr,tr,tr,fa,fa,fa,fa,fa,fa,fa,fa,fa,fa,fa,fa,fa,fa,fa,fa,fa] rfl rfl (any_of HT_.out (by kernel_rfl)) (fun _ _ _ h => h) (Or.inl ⟨by rfl, ?_⟩) ?_ ?_
         rotate_left
         ·intro w'
          go_simp
          with_reducible rfl
         rotate_left
         ·simp only [sP]
          rfl
         refine pure_ (i := 17) (N := some 27) (v := ?_) (a' := ?_) #[tr,tr,tr,tr,tr,tr,tr,tr,tr,tr,tr,tr,tr,tr,tr,tr,fa,tr,fa,fa,fa,fa,fa,fa,fa,fa,fa,fa,fa,fa,fa,fa,fa] rfl rfl (any_of HT_.out (by kernel_rfl)) (fun _ _ _ h => h) (Or.inl ⟨by rfl, ?_⟩) ?_ ?_
         rotate_left
         ·intro w'
          go_simp
          with_reducible rfl
         rotate_left
         ·simp only [sP]
          rfl
         refine take_ (i := 16) (N := some 26) (v := ?_) (a' := ?_) #[tr,tr,tr,tr,tr,tr,tr,tr,tr,tr,tr,tr,tr,tr,tr,tr,tr,tr,fa,fa,fa,fa,fa,fa,fa,fa,fa,fa,fa,fa,fa,fa,fa] rfl rfl (take_ofW HT_.out HW_.out (by kernel_rfl)) (fun _ _ _ h => h) (Or.inl ⟨by rfl, ?_⟩) hHeld ?_ ?_
         rotate_left
         ·rintro w' ⟨s0, s1, s2, s3, s4, s5, s6, s7, s8, s9⟩
          go_simp
          with_reducible rfl
         rotate_left
         ·simp only [sP]
          rfl
         refine take_ (i := 18) (N := some 28) (v := ?_) (a' := ?_) #[tr,tr,tr,tr,tr,tr,tr,tr,tr,tr,tr,tr,tr,tr,tr,tr,tr,tr,tr,fa,fa,fa,fa,fa,fa,fa,fa,fa,fa,fa,fa,fa,fa] rfl rfl (take_ofW HT_.out HW_.out (by kernel_rfl)) (fun _ _ _ h => h) (Or.inl ⟨by rfl, ?_⟩) hHeld ?_ ?_
         rotate_left
         ·rintro w' ⟨s0, s1, s2, s3, s4, s5, s6, s7, s8, s9⟩
          go_simp
          with_reducible rfl
         rotate_left
         ·simp only [sP]
          rfl
         refine pure_ (i := 19) (N := some 29) (v := ?_) (a' := ?_) #[tr,tr,tr,tr,tr,tr,tr,tr,tr,tr,tr,tr,tr,tr,tr,tr,tr,tr,tr,tr,fa,fa,fa,fa,fa,fa,fa,fa,fa,fa,fa,fa,fa] rfl rfl (any_of HT_.out (by kernel_rfl)) (fun _ _ _ h => h) (Or.inl ⟨by rfl, ?_⟩) ?_ ?_
         rotate_left
         ·intro w'
          go_simp
          with_reducible rfl
         rotate_left
         ·simp only [sP]
          rfl
         refine pure_ (i := 20) (N := some 30) (v := ?_) (a' := ?_) #[tr,tr,tr,tr,tr,tr,tr,tr,tr,tr,tr,tr,tr,tr,tr,tr,tr,tr,tr,tr,tr,fa,fa,fa,fa,fa,fa,fa,fa,fa,fa,fa,fa] rfl rfl (any_of HT_.out (by kernel_rfl)) (fun _ _ _ h => h) (Or.inl ⟨by rfl, ?_⟩) ?_ ?_
         rotate_left
         ·intro w'
          go_simp
          with_reducible rfl
         rotate_left
         ·simp only [sP]
          rfl
         refine pure_ (i := 21) (N := some 31) (v := ?_) (a' := ?_) #[tr,tr,tr,tr,tr,tr,tr,tr,tr,tr,tr,tr,tr,tr,tr,tr,tr,tr,tr,tr,tr,tr,fa,fa,fa,fa,fa,fa,fa,fa,fa,fa,fa] rfl rfl (any_of HT_.out (by kernel_rfl)) (fun _ _ _ h => h) (Or.inl ⟨by rfl, ?_⟩) ?_ ?_
         rotate_left
         ·intro w'
          go_simp
          with_reducible rfl
         rotate_left
         ·simp only [sP]
          rfl
         refine pure_ (i := 22) (N := some 32) (v := ?_) (a' := ?_) #[tr,tr,tr,tr,tr,tr,tr,tr,tr,tr,tr,tr,tr,tr,tr,tr,tr,tr,tr,tr,tr,tr,tr,fa,fa,fa,fa,fa,fa,fa,fa,fa,fa] rfl rfl (any_of HT_.out (by kernel_rfl)) (fun _ _ _ h => h) (Or.inl ⟨by rfl, ?_⟩) ?_ ?_
         rotate_left
         ·intro w'
          go_simp
          with_reducible rfl
         rotate_left
         ·simp only [sP]
          rfl
         refine pure_ (i := 23) (N := some 33) (v := ?_) (a' := ?_) #[tr,tr,tr,tr,tr,tr,tr,tr,tr,tr,tr,tr,tr,tr,tr,tr,tr,tr,tr,tr,tr,tr,tr,tr,fa,fa,fa,fa,fa,fa,fa,fa,fa] rfl rfl (any_of HT_.out (by kernel_rfl)) (fun _ _ _ h => h) (Or.inl ⟨by rfl, ?_⟩) ?_ ?_
         rotate_left
         ·intro w'
          go_simp
          with_reducible rfl
         rotate_left
         ·simp only [sP]
          rfl
         refine pure_ (i := 24) (N := some 34) (v := ?_) (a' := ?_) #[tr,tr,tr,tr,tr,tr,tr,tr,tr,tr,tr,tr,tr,tr,tr,tr,tr,tr,tr,tr,tr,tr,tr,tr,tr,fa,fa,fa,fa,fa,fa,fa,fa] rfl rfl (any_of HT_.out (by kernel_rfl)) (fun _ _ _ h => h) (Or.inl ⟨by rfl, ?_⟩) ?_ ?_
         rotate_left
         ·intro w'
          go_simp
          with_reducible rfl
         rotate_left
         ·simp only [sP]
          rfl
         refine pure_ (i := 25) (N := some 35) (v := ?_) (a' := ?_) #[tr,tr,tr,tr,tr,tr,tr,tr,tr,tr,tr,tr,tr,tr,tr,tr,tr,tr,tr,tr,tr,tr,tr,tr,tr,tr,fa,fa,fa,fa,fa,fa,fa] rfl rfl (any_of HT_.out (by kernel_rfl)) (fun _ _ _ h => h) (Or.inl ⟨by rfl, ?_⟩) ?_ ?_
         rotate_left
         ·intro w'
          go_simp
          with_reducible rfl
         rotate_left
         ·simp only [sP]
          rfl
         refine pure_ (i := 26) (N := some 36) (v := ?_) (a' := ?_) #[tr,tr,tr,tr,tr,tr,tr,tr,tr,tr,tr,tr,tr,tr,tr,tr,tr,tr,tr,tr,tr,tr,tr,tr,tr,tr,tr,fa,fa,fa,fa,fa,fa] rfl rfl (any_of HT_.out (by kernel_rfl)) (fun _ _ _ h => h) (Or.inl ⟨by rfl, ?_⟩) ?_ ?_
         rotate_left
         ·intro w'
          go_simp
          with_reducible rfl
         rotate_left
         ·simp only [sP]
          rfl
         refine pure_ (i := 27) (N := some 37) (v := ?_) (a' := ?_) #[tr,tr,tr,tr,tr,tr,tr,tr,tr,tr,tr,tr,tr,tr,tr,tr,tr,tr,tr,tr,tr,tr,tr,tr,tr,tr,tr,tr,fa,fa,fa,fa,fa] rfl rfl (any_of HT_.out (by kernel_rfl)) (fun _ _ _ h => h) (Or.inl ⟨by rfl, ?_⟩) ?_ ?_
         rotate_left
         ·intro w'
          go_simp
          with_reducible rfl
         rotate_left
         ·simp only [sP]
          rfl
         refine pure_ (i := 29) (N := some 39) (v := ?_) (a' := ?_) #[tr,tr,tr,tr,tr,tr,tr,tr,tr,tr,tr,tr,tr,tr,tr,tr,tr,tr,tr,tr,tr,tr,tr,tr,tr,tr,tr,tr,fa,tr,fa,fa,fa] rfl rfl (any_of HT_.out (by kernel_rfl)) (fun _ _ _ h => h) (Or.inl ⟨by rfl, ?_⟩) ?_ ?_
         rotate_left
         ·intro w'
          go_simp
          with_reducible rfl
         rotate_left
         ·simp only [sP]
          rfl
         refine take_ (i := 28) (N := some 38) (v := ?_) (a' := ?_) #[tr,tr,tr,tr,tr,tr,tr,tr,tr,tr,tr,tr,tr,tr,tr,tr,tr,tr,tr,tr,tr,tr,tr,tr,tr,tr,tr,tr,tr,tr,fa,fa,fa] rfl rfl (take_ofW HT_.out HW_.out (by kernel_rfl)) (fun _ _ _ h => h) (Or.inl ⟨by rfl, ?_⟩) hHeld ?_ ?_
         rotate_left
         ·rintro w' ⟨s0, s1, s2, s3, s4, s5, s6, s7, s8, s9⟩
          go_simp
          with_reducible rfl
         rotate_left
         ·simp only [sP]
          rfl
         refine take_ (i := 30) (N := some 40) (v := ?_) (a' := ?_) #[tr,tr,tr,tr,tr,tr,tr,tr,tr,tr,tr,tr,tr,tr,tr,tr,tr,tr,tr,tr,tr,tr,tr,tr,tr,tr,tr,tr,tr,tr,tr,fa,fa] rfl rfl (take_ofW HT_.out HW_.out (by kernel_rfl)) (fun _ _ _ h => h) (Or.inl ⟨by rfl, ?_⟩) hHeld ?_ ?_
         rotate_left
         ·rintro w' ⟨s0, s1, s2, s3, s4, s5, s6, s7, s8, s9⟩
          go_simp
          with_reducible rfl
         rotate_left
         ·simp only [sP]
          rfl
         refine pure_ (i := 31) (N := some 41) (v := ?_) (a' := ?_) #[tr,tr,tr,tr,tr,tr,tr,tr,tr,tr,tr,tr,tr,tr,tr,tr,tr,tr,tr,tr,tr,tr,tr,tr,tr,tr,tr,tr,tr,tr,tr,tr,fa] rfl rfl (any_of HT_.out (by kernel_rfl)) (fun _ _ _ h => h) (Or.inl ⟨by rfl, ?_⟩) ?_ ?_
         rotate_left
         ·intro w'
          go_simp
          with_reducible rfl
         rotate_left
         ·simp only [sP]
          rfl
         refine pure_ (i := 32) (N := some 42) (v := ?_) (a' := ?_) #[tr,tr,tr,tr,tr,tr,tr,tr,tr,tr,tr,tr,tr,tr,tr,tr,tr,tr,tr,tr,tr,tr,tr,tr,tr,tr,tr,tr,tr,tr,tr,tr,tr] rfl rfl (any_of HT_.out (by kernel_rfl)) (fun _ _ _ h => h) (Or.inl ⟨by rfl, ?_⟩) ?_ ?_
         rotate_left
         ·intro w'
          go_simp
          with_reducible rfl
         rotate_left
         ·simp only [sP]
          rfl
         refine done_ (done_of HT_.out (by kernel_rfl)) ?_
         try go_wp2
         go_meet
         case rel => exact ⟨_, ((((rd_T34 l1 (ji15)).f0.f1) != a0_1)), (by first | rfl | (simp; done) | (simp only [← hji15] <;> (first | rfl | simp)) | (simp [*]; done)), H', ⟨by first | omega | exact Nat.le_refl _⟩, ⟨bf0 BK135.out⟩, ⟨bw1 HB.out GE135.out⟩⟩
        ·rw [if_neg c17] at H
         exact absurd H (by simp)
       ·rw [if_neg c16] at H
        exact absurd H (by simp)
      ·rw [if_neg c14] at H
       have c14b0 : (((rd_T34 l1 0).f0.f0) == a0_0) = false := beq_eq_false_iff_ne.mpr c14
       have c14b1 : (((rd_T34 l1 0).f0.f0) != a0_0) = true := bne_iff_ne.mpr c14
       have H' := Ax H
       clear H
       try go_wp2
       replace BK135 := Ax (blk_drew BK135.out)
       replace HB := Ax (below_drew1 HB.out)
       have p137 : 0 ≤ (0 : Int) := (by omega)
       have q137 : 0 < (l1.length : Int) := of_decide_eq_true (by first | (with_reducible assumption) | assumption)
       obtain ⟨ad137, e137, hx137_0, hx137_1, hx137_2, hx137_3⟩ := at_T34 HR1.out 0 p137 q137
       have hw137_3 := hx137_3
       (try rw [show ((0 : Int)).toNat = 0 from rfl] at hw137_3)
       (try rw [show 0 * 4 = 0 from rfl] at hw137_3)
       (try rw [Addr.add_zero'] at hw137_3)
       have hw137_2 := hx137_2
       (try rw [show ((0 : Int)).toNat = 0 from rfl] at hw137_2)
       (try rw [show 0 * 4 = 0 from rfl] at hw137_2)
       (try rw [Addr.add_zero'] at hw137_2)
       have hw137_1 := hx137_1
       (try rw [show ((0 : Int)).toNat = 0 from rfl] at hw137_1)
       (try rw [show 0 * 4 = 0 from rfl] at hw137_1)
       (try rw [Addr.add_zero'] at hw137_1)
       have hw137_0 := hx137_0
       (try rw [show ((0 : Int)).toNat = 0 from rfl] at hw137_0)
       (try rw [show 0 * 4 = 0 from rfl] at hw137_0)
       (try rw [Addr.add_zero'] at hw137_0)
       cases e137
       have qi137 : (0 < l1.length) = True := eq_true (by omega)
       (try rw [show ((0 : Int)).toNat = 0 from rfl] at hx137_0)
       (try rw [show 0 * 4 = 0 from rfl] at hx137_0)
       (try rw [Addr.add_zero'] at hx137_0)
       (try rw [show ((0 : Int)).toNat = 0 from rfl] at hx137_1)
       (try rw [show 0 * 4 = 0 from rfl] at hx137_1)
       (try rw [Addr.add_zero'] at hx137_1)
       (try rw [show ((0 : Int)).toNat = 0 from rfl] at hx137_2)
       (try rw [show 0 * 4 = 0 from rfl] at hx137_2)
       (try rw [Addr.add_zero'] at hx137_2)
       (try rw [show ((0 : Int)).toNat = 0 from rfl] at hx137_3)
       (try rw [show 0 * 4 = 0 from rfl] at hx137_3)
       (try rw [Addr.add_zero'] at hx137_3)
       replace hx137_0 := (HB.out.cell (World.block_lt_of_cell? w _ hx137_0)).trans hx137_0
       replace hx137_1 := (HB.out.cell (World.block_lt_of_cell? w _ hx137_1)).trans hx137_1
       replace hx137_2 := (HB.out.cell (World.block_lt_of_cell? w _ hx137_2)).trans hx137_2
       replace hx137_3 := (HB.out.cell (World.block_lt_of_cell? w _ hx137_3)).trans hx137_3
       replace p137 := eq_true p137
       replace q137 := eq_true q137
       refine start_ (n := 33) (S := fun w' => w'.cell? ⟨gb135, 0, none⟩ = some (.int .i64 a0_0) ∧ w'.cell? ⟨gb135, 1, none⟩ = some (.int .i64 a0_1) ∧ w'.cell? ad137 = some (.int .i64 ((rd_T34 l1 0).f0.f0)) ∧ w'.cell? ⟨ad137.block, ad137.off + 1, none⟩ = some (.int .i64 ((rd_T34 l1 0).f0.f1)) ∧ w'.cell? ⟨ad137.block, ad137.off + 2, none⟩ = some (.int .u8 ((rd_T34 l1 0).f1.f0)) ∧ w'.cell? ⟨ad137.block, ad137.off + 3, none⟩ = some (.int .i64 ((rd_T34 l1 0).f1.f1))) (ds := []) #[fa,fa,fa,fa,fa,fa,fa,fa,fa,fa,fa,fa,fa,fa,fa,fa,fa,fa,fa,fa,fa,fa,fa,fa,fa,fa,fa,fa,fa,fa,fa,fa,fa] (by kernel_rfl) rfl rfl ⟨(blk_cell BK135.out 0).trans rfl, (blk_cell BK135.out 1).trans rfl, ((HB.out.cell (World.block_lt_of_cell? w _ hw137_0)).trans hw137_0), ((HB.out.cell (World.block_lt_of_cell? w _ hw137_1)).trans hw137_1), ((HB.out.cell (World.block_lt_of_cell? w _ hw137_2)).trans hw137_2), ((HB.out.cell (World.block_lt_of_cell? w _ hw137_3)).trans hw137_3)⟩ (fun hHeld => ?_); refine with_tabW line_Check.tab2 line_Check.bits2 (fun HT_ HW_ => ?_)
       generalize w4.drew = w20 at BK135 HB hx137_0 hx137_1 hx137_2 hx137_3 hHeld ⊢
       refine take_ (i := 0) (N := some 10) (v := ?_) (a' := ?_) #[tr,fa,fa,fa,fa,fa,fa,fa,fa,fa,fa,fa,fa,fa,fa,fa,fa,fa,fa,fa,fa,fa,fa,fa,fa,fa,fa,fa,fa,fa,fa,fa,fa] rfl rfl (take_ofW HT_.out HW_.out (by kernel_rfl)) (fun _ _ _ h => h) (Or.inl ⟨by rfl, ?_⟩) hHeld ?_ ?_
       rotate_left
       ·rintro w' ⟨s0, s1, s2, s3, s4, s5⟩
        go_simp
        with_reducible rfl
       rotate_left
       ·simp only [sP]
        rfl
       refine one_ (i := 1) (N := some 11) #[tr,tr,fa,fa,fa,fa,fa,fa,fa,fa,fa,fa,fa,fa,fa,fa,fa,fa,fa,fa,fa,fa,fa,fa,fa,fa,fa,fa,fa,fa,fa,fa,fa] rfl rfl (one_of HT_.out (by kernel_rfl)) (by decide) (fun K hK => ?_)
       refine goes_ Try.func29 (by kernel_rfl) rfl #[.agg #[.int .i64 a0_0, .int .i64 a0_1]] (by rfl) rfl rfl gS ?_
       with_reducible refine (line_window.calls k a0_0 a0_1 true _ A5.out).mono ?_
       rintro e w21 ⟨rfl, hb⟩
       refine ⟨_, rfl, ?_⟩
       replace BK135 := Bx0 BK135 hb
       replace HB := Bs1 HB hb GE135.out
       (try clear hb)
       refine hK.out _ _ ⟨(blk_cell BK135.out 0).trans rfl, (blk_cell BK135.out 1).trans rfl, ((HB.out.cell (World.block_lt_of_cell? w _ hw137_0)).trans hw137_0), ((HB.out.cell (World.block_lt_of_cell? w _ hw137_1)).trans hw137_1), ((HB.out.cell (World.block_lt_of_cell? w _ hw137_2)).trans hw137_2), ((HB.out.cell (World.block_lt_of_cell? w _ hw137_3)).trans hw137_3)⟩ (fun hHeld => ?_)
       clear hK K
       refine norm_ (a' := ?_) ?_ ?_
       rotate_left
       ·show Act.put _ (some 11) _ = _
        simp only [sP]
        rfl
       refine pure_ (i := 2) (N := some 12) (v := ?_) (a' := ?_) #[tr,tr,tr,fa,fa,fa,fa,fa,fa,fa,fa,fa,fa,fa,fa,fa,fa,fa,fa,fa,fa,fa,fa,fa,fa,fa,fa,fa,fa,fa,fa,fa,fa] rfl rfl (any_of HT_.out (by kernel_rfl)) (fun _ _ _ h => h) (Or.inl ⟨by rfl, ?_⟩) ?_ ?_
       rotate_left
       ·intro w'
        go_simp
        with_reducible rfl
       rotate_left
       ·simp only [sP]
        rfl
       refine pure_ (i := 3) (N := some 13) (v := ?_) (a' := ?_) #[tr,tr,tr,tr,fa,fa,fa,fa,fa,fa,fa,fa,fa,fa,fa,fa,fa,fa,fa,fa,fa,fa,fa,fa,fa,fa,fa,fa,fa,fa,fa,fa,fa] rfl rfl (any_of HT_.out (by kernel_rfl)) (fun _ _ _ h => h) (Or.inl ⟨by rfl, ?_⟩) ?_ ?_
       rotate_left
       ·intro w'
        go_simp
        with_reducible rfl
       rotate_left
       ·simp only [sP]
        rfl
       refine pure_ (i := 4) (N := some 14) (v := ?_) (a' := ?_) #[tr,tr,tr,tr,tr,fa,fa,fa,fa,fa,fa,fa,fa,fa,fa,fa,fa,fa,fa,fa,fa,fa,fa,fa,fa,fa,fa,fa,fa,fa,fa,fa,fa] rfl rfl (any_of HT_.out (by kernel_rfl)) (fun _ _ _ h => h) (Or.inl ⟨by rfl, ?_⟩) ?_ ?_
       rotate_left
       ·intro w'
        go_simp
        with_reducible rfl
       rotate_left
       ·simp only [sP]
        rfl
       refine pure_ (i := 5) (N := some 15) (v := ?_) (a' := ?_) #[tr,tr,tr,tr,tr,tr,fa,fa,fa,fa,fa,fa,fa,fa,fa,fa,fa,fa,fa,fa,fa,fa,fa,fa,fa,fa,fa,fa,fa,fa,fa,fa,fa] rfl rfl (any_of HT_.out (by kernel_rfl)) (fun _ _ _ h => h) (Or.inl ⟨by rfl, ?_⟩) ?_ ?_
       rotate_left
       ·intro w'
        go_simp
        with_reducible rfl
       rotate_left
       ·simp only [sP]
        rfl
       refine pure_ (i := 6) (N := some 16) (v := ?_) (a' := ?_) #[tr,tr,tr,tr,tr,tr,tr,fa,fa,fa,fa,fa,fa,fa,fa,fa,fa,fa,fa,fa,fa,fa,fa,fa,fa,fa,fa,fa,fa,fa,fa,fa,fa] rfl rfl (any_of HT_.out (by kernel_rfl)) (fun _ _ _ h => h) (Or.inl ⟨by rfl, ?_⟩) ?_ ?_
       rotate_left
       ·intro w'
        go_simp
        with_reducible rfl
       rotate_left
       ·simp only [sP]
        rfl
       refine pure_ (i := 7) (N := some 17) (v := ?_) (a' := ?_) #[tr,tr,tr,tr,tr,tr,tr,tr,fa,fa,fa,fa,fa,fa,fa,fa,fa,fa,fa,fa,fa,fa,fa,fa,fa,fa,fa,fa,fa,fa,fa,fa,fa] rfl rfl (any_of HT_.out (by kernel_rfl)) (fun _ _ _ h => h) (Or.inl ⟨by rfl, ?_⟩) ?_ ?_
       rotate_left
       ·intro w'
        go_simp
        with_reducible rfl
       rotate_left
       ·simp only [sP]
        rfl
       refine pure_ (i := 8) (N := some 18) (v := ?_) (a' := ?_) #[tr,tr,tr,tr,tr,tr,tr,tr,tr,fa,fa,fa,fa,fa,fa,fa,fa,fa,fa,fa,fa,fa,fa,fa,fa,fa,fa,fa,fa,fa,fa,fa,fa] rfl rfl (any_of HT_.out (by kernel_rfl)) (fun _ _ _ h => h) (Or.inl ⟨by rfl, ?_⟩) ?_ ?_
       rotate_left
       ·intro w'
        go_simp
        with_reducible rfl
       rotate_left
       ·simp only [sP]
        rfl
       refine pure_ (i := 9) (N := some 19) (v := ?_) (a' := ?_) #[tr,tr,tr,tr,tr,tr,tr,tr,tr,tr,fa,fa,fa,fa,fa,fa,fa,fa,fa,fa,fa,fa,fa,fa,fa,fa,fa,fa,fa,fa,fa,fa,fa] rfl rfl (any_of HT_.out (by kernel_rfl)) (fun _ _ _ h => h) (Or.inl ⟨by rfl, ?_⟩) ?_ ?_
       rotate_left
       ·intro w'
        go_simp
        with_reducible rfl
       rotate_left
       ·simp only [sP]
        rfl
       refine pure_ (i := 10) (N := some 20) (v := ?_) (a' := ?_) #[tr,tr,tr,tr,tr,tr,tr,tr,tr,tr,tr,fa,fa,fa,fa,fa,fa,fa,fa,fa,fa,fa,fa,fa,fa,fa,fa,fa,fa,fa,fa,fa,fa] rfl rfl (any_of HT_.out (by kernel_rfl)) (fun _ _ _ h => h) (Or.inl ⟨by rfl, ?_⟩) ?_ ?_
       rotate_left
       ·intro w'
        go_simp
        with_reducible rfl
       rotate_left
       ·simp only [sP]
        rfl
       refine pure_ (i := 11) (N := some 21) (v := ?_) (a' := ?_) #[tr,tr,tr,tr,tr,tr,tr,tr,tr,tr,tr,tr,fa,fa,fa,fa,fa,fa,fa,fa,fa,fa,fa,fa,fa,fa,fa,fa,fa,fa,fa,fa,fa] rfl rfl (any_of HT_.out (by kernel_rfl)) (fun _ _ _ h => h) (Or.inl ⟨by rfl, ?_⟩) ?_ ?_
       rotate_left
       ·intro w'
        go_simp
        with_reducible rfl
       rotate_left
       ·simp only [sP]
        rfl
       refine pure_ (i := 12) (N := some 22) (v := ?_) (a' := ?_) #[tr,tr,tr,tr,tr,tr,tr,tr,tr,tr,tr,tr,tr,fa,fa,fa,fa,fa,fa,fa,fa,fa,fa,fa,fa,fa,fa,fa,fa,fa,fa,fa,fa] rfl rfl (any_of HT_.out (by kernel_rfl)) (fun _ _ _ h => h) (Or.inl ⟨by rfl, ?_⟩) ?_ ?_
       rotate_left
       ·intro w'
        go_simp
        with_reducible rfl
       rotate_left
       ·simp only [sP]
        rfl
       refine pure_ (i := 13) (N := some 23) (v := ?_) (a' := ?_) #[tr,tr,tr,tr,tr,tr,tr,tr,tr,tr,tr,tr,tr,tr,fa,fa,fa,fa,fa,fa,fa,fa,fa,fa,fa,fa,fa,fa,fa,fa,fa,fa,fa] rfl rfl (any_of HT_.out (by kernel_rfl)) (fun _ _ _ h => h) (Or.inl ⟨by rfl, ?_⟩) ?_ ?_
       rotate_left
       ·intro w'
        go_simp
        with_reducible rfl
       rotate_left
       ·simp only [sP]
        rfl
       refine pure_ (i := 14) (N := some 24) (v := ?_) (a' := ?_) #[tr,tr,tr,tr,tr,tr,tr,tr,tr,tr,tr,tr,tr,tr,tr,fa,fa,fa,fa,fa,fa,fa,fa,fa,fa,fa,fa,fa,fa,fa,fa,fa,fa] rfl rfl (any_of HT_.out (by kernel_rfl)) (fun _ _ _ h => h) (Or.inl ⟨by rfl, ?_⟩) ?_ ?_
       rotate_left
       ·intro w'
        go_simp
        with_reducible rfl
       rotate_left
       ·simp only [sP]
        rfl
       refine pure_ (i := 15) (N := some 25) (v := ?_) (a' := ?_) #[tr,tr,tr,tr,tr,tr,tr,tr,tr,tr,tr,tr,tr,tr,tr,tr,fa,fa,fa,fa,fa,fa,fa,fa,fa,fa,fa,fa,fa,fa,fa,fa,fa] rfl rfl (any_of HT_.out (by kernel_rfl)) (fun _ _ _ h => h) (Or.inl ⟨by rfl, ?_⟩) ?_ ?_
       rotate_left
       ·intro w'
        go_simp
        with_reducible rfl
       rotate_left
       ·simp only [sP]
        rfl
       refine pure_ (i := 17) (N := some 27) (v := ?_) (a' := ?_) #[tr,tr,tr,tr,tr,tr,tr,tr,tr,tr,tr,tr,tr,tr,tr,tr,fa,tr,fa,fa,fa,fa,fa,fa,fa,fa,fa,fa,fa,fa,fa,fa,fa] rfl rfl (any_of HT_.out (by kernel_rfl)) (fun _ _ _ h => h) (Or.inl ⟨by rfl, ?_⟩) ?_ ?_
       rotate_left
       ·intro w'
        go_simp
        with_reducible rfl
       rotate_left
       ·simp only [sP]
        rfl
       refine take_ (i := 16) (N := some 26) (v := ?_) (a' := ?_) #[tr,tr,tr,tr,tr,tr,tr,tr,tr,tr,tr,tr,tr,tr,tr,tr,tr,tr,fa,fa,fa,fa,fa,fa,fa,fa,fa,fa,fa,fa,fa,fa,fa] rfl rfl (take_ofW HT_.out HW_.out (by kernel_rfl)) (fun _ _ _ h => h) (Or.inl ⟨by rfl, ?_⟩) hHeld ?_ ?_
       rotate_left
       ·rintro w' ⟨s0, s1, s2, s3, s4, s5⟩
        go_simp
        with_reducible rfl
       rotate_left
       ·simp only [sP]
        rfl
       refine take_ (i := 18) (N := some 28) (v := ?_) (a' := ?_) #[tr,tr,tr,tr,tr,tr,tr,tr,tr,tr,tr,tr,tr,tr,tr,tr,tr,tr,tr,fa,fa,fa,fa,fa,fa,fa,fa,fa,fa,fa,fa,fa,fa] rfl rfl (take_ofW HT_.out HW_.out (by kernel_rfl)) (fun _ _ _ h => h) (Or.inl ⟨by rfl, ?_⟩) hHeld ?_ ?_
       rotate_left
       ·rintro w' ⟨s0, s1, s2, s3, s4, s5⟩
        go_simp
        with_reducible rfl
       rotate_left
       ·simp only [sP]
        rfl
       refine pure_ (i := 19) (N := some 29) (v := ?_) (a' := ?_) #[tr,tr,tr,tr,tr,tr,tr,tr,tr,tr,tr,tr,tr,tr,tr,tr,tr,tr,tr,tr,fa,fa,fa,fa,fa,fa,fa,fa,fa,fa,fa,fa,fa] rfl rfl (any_of HT_.out (by kernel_rfl)) (fun _ _ _ h => h) (Or.inl ⟨by rfl, ?_⟩) ?_ ?_
       rotate_left
       ·intro w'
        go_simp
        with_reducible rfl
       rotate_left
       ·simp only [sP]
        rfl
       refine pure_ (i := 20) (N := some 30) (v := ?_) (a' := ?_) #[tr,tr,tr,tr,tr,tr,tr,tr,tr,tr,tr,tr,tr,tr,tr,tr,tr,tr,tr,tr,tr,fa,fa,fa,fa,fa,fa,fa,fa,fa,fa,fa,fa] rfl rfl (any_of HT_.out (by kernel_rfl)) (fun _ _ _ h => h) (Or.inl ⟨by rfl, ?_⟩) ?_ ?_
       rotate_left
       ·intro w'
        go_simp
        with_reducible rfl
       rotate_left
       ·simp only [sP]
        rfl
       refine pure_ (i := 21) (N := some 31) (v := ?_) (a' := ?_) #[tr,tr,tr,tr,tr,tr,tr,tr,tr,tr,tr,tr,tr,tr,tr,tr,tr,tr,tr,tr,tr,tr,fa,fa,fa,fa,fa,fa,fa,fa,fa,fa,fa] rfl rfl (any_of HT_.out (by kernel_rfl)) (fun _ _ _ h => h) (Or.inl ⟨by rfl, ?_⟩) ?_ ?_
       rotate_left
       ·intro w'
        go_simp
        with_reducible rfl
       rotate_left
       ·simp only [sP]
        rfl
       refine pure_ (i := 22) (N := some 32) (v := undef) (a' := ?_) #[tr,tr,tr,tr,tr,tr,tr,tr,tr,tr,tr,tr,tr,tr,tr,tr,tr,tr,tr,tr,tr,tr,tr,fa,fa,fa,fa,fa,fa,fa,fa,fa,fa] rfl rfl (any_of HT_.out (by kernel_rfl)) (fun _ _ _ h => h) (Or.inr ⟨by rfl, rfl⟩) ?_ ?_
       rotate_left
       ·simp only [sP]
        rfl
       refine pure_ (i := 23) (N := some 33) (v := undef) (a' := ?_) #[tr,tr,tr,tr,tr,tr,tr,tr,tr,tr,tr,tr,tr,tr,tr,tr,tr,tr,tr,tr,tr,tr,tr,tr,fa,fa,fa,fa,fa,fa,fa,fa,fa] rfl rfl (any_of HT_.out (by kernel_rfl)) (fun _ _ _ h => h) (Or.inr ⟨by rfl, rfl⟩) ?_ ?_
       rotate_left
       ·simp only [sP]
        rfl
       refine pure_ (i := 24) (N := some 34) (v := undef) (a' := ?_) #[tr,tr,tr,tr,tr,tr,tr,tr,tr,tr,tr,tr,tr,tr,tr,tr,tr,tr,tr,tr,tr,tr,tr,tr,tr,fa,fa,fa,fa,fa,fa,fa,fa] rfl rfl (any_of HT_.out (by kernel_rfl)) (fun _ _ _ h => h) (Or.inr ⟨by rfl, rfl⟩) ?_ ?_
       rotate_left
       ·simp only [sP]
        rfl
       refine pure_ (i := 25) (N := some 35) (v := undef) (a' := ?_) #[tr,tr,tr,tr,tr,tr,tr,tr,tr,tr,tr,tr,tr,tr,tr,tr,tr,tr,tr,tr,tr,tr,tr,tr,tr,tr,fa,fa,fa,fa,fa,fa,fa] rfl rfl (any_of HT_.out (by kernel_rfl)) (fun _ _ _ h => h) (Or.inr ⟨by rfl, rfl⟩) ?_ ?_
       rotate_left
       ·simp only [sP]
        rfl
       refine pure_ (i := 26) (N := some 36) (v := undef) (a' := ?_) #[tr,tr,tr,tr,tr,tr,tr,tr,tr,tr,tr,tr,tr,tr,tr,tr,tr,tr,tr,tr,tr,tr,tr,tr,tr,tr,tr,fa,fa,fa,fa,fa,fa] rfl rfl (any_of HT_.out (by kernel_rfl)) (fun _ _ _ h => h) (Or.inr ⟨by rfl, rfl⟩) ?_ ?_
       rotate_left
       ·simp only [sP]
        rfl
       refine pure_ (i := 27) (N := some 37) (v := undef) (a' := ?_) #[tr,tr,tr,tr,tr,tr,tr,tr,tr,tr,tr,tr,tr,tr,tr,tr,tr,tr,tr,tr,tr,tr,tr,tr,tr,tr,tr,tr,fa,fa,fa,fa,fa] rfl rfl (any_of HT_.out (by kernel_rfl)) (fun _ _ _ h => h) (Or.inr ⟨by rfl, rfl⟩) ?_ ?_
       rotate_left
       ·simp only [sP]
        rfl
       refine pure_ (i := 28) (N := some 38) (v := undef) (a' := ?_) #[tr,tr,tr,tr,tr,tr,tr,tr,tr,tr,tr,tr,tr,tr,tr,tr,tr,tr,tr,tr,tr,tr,tr,tr,tr,tr,tr,tr,tr,fa,fa,fa,fa] rfl rfl (any_of HT_.out (by kernel_rfl)) (fun _ _ _ h => h) (Or.inr ⟨by rfl, rfl⟩) ?_ ?_
       rotate_left
       ·simp only [sP]
        rfl
       refine pure_ (i := 29) (N := some 39) (v := undef) (a' := ?_) #[tr,tr,tr,tr,tr,tr,tr,tr,tr,tr,tr,tr,tr,tr,tr,tr,tr,tr,tr,tr,tr,tr,tr,tr,tr,tr,tr,tr,tr,tr,fa,fa,fa] rfl rfl (any_of HT_.out (by kernel_rfl)) (fun _ _ _ h => h) (Or.inr ⟨by rfl, rfl⟩) ?_ ?_
       rotate_left
       ·simp only [sP]
        rfl
       refine pure_ (i := 30) (N := some 40) (v := undef) (a' := ?_) #[tr,tr,tr,tr,tr,tr,tr,tr,tr,tr,tr,tr,tr,tr,tr,tr,tr,tr,tr,tr,tr,tr,tr,tr,tr,tr,tr,tr,tr,tr,tr,fa,fa] rfl rfl (any_of HT_.out (by kernel_rfl)) (fun _ _ _ h => h) (Or.inr ⟨by rfl, rfl⟩) ?_ ?_
       rotate_left
       ·simp only [sP]
        rfl
       refine pure_ (i := 31) (N := some 41) (v := undef) (a' := ?_) #[tr,tr,tr,tr,tr,tr,tr,tr,tr,tr,tr,tr,tr,tr,tr,tr,tr,tr,tr,tr,tr,tr,tr,tr,tr,tr,tr,tr,tr,tr,tr,tr,fa] rfl rfl (any_of HT_.out (by kernel_rfl)) (fun _ _ _ h => h) (Or.inr ⟨by rfl, rfl⟩) ?_ ?_
       rotate_left
       ·simp only [sP]
        rfl
       refine pure_ (i := 32) (N := some 42) (v := ?_) (a' := ?_) #[tr,tr,tr,tr,tr,tr,tr,tr,tr,tr,tr,tr,tr,tr,tr,tr,tr,tr,tr,tr,tr,tr,tr,tr,tr,tr,tr,tr,tr,tr,tr,tr,tr] rfl rfl (any_of HT_.out (by kernel_rfl)) (fun _ _ _ h => h) (Or.inl ⟨by rfl, ?_⟩) ?_ ?_
       rotate_left
       ·intro w'
        go_simp
        with_reducible rfl
       rotate_left
       ·simp only [sP]
        rfl
       refine done_ (done_of HT_.out (by kernel_rfl)) ?_
       try go_wp2
       go_meet
       case rel => exact ⟨_, (true), rS, H', ⟨by first | omega | exact Nat.le_refl _⟩, ⟨bf0 BK135.out⟩, ⟨bw1 HB.out GE135.out⟩⟩
     ·rw [if_neg c13] at H
      exact absurd H (by simp)
  ·replace c6 := Bool.eq_false_iff.mpr c6
   subst c6
   have H1 : (line_Check.j0 k l1 true a0_0 a0_1) = some r := by rw [if_neg (show ¬ (false = true) by decide)] at H; exact H
   clear H
   have H := H1
   clear H1
   have H' := Ax H
   clear H
   try go_wp2
   replace BK135 := Ax (blk_drew BK135.out)
   replace HB := Ax (below_drew1 HB.out)
   refine start_ (n := 33) (S := fun w' => w'.cell? ⟨gb135, 0, none⟩ = some (.int .i64 a0_0) ∧ w'.cell? ⟨gb135, 1, none⟩ = some (.int .i64 a0_1)) (ds := []) #[fa,fa,fa,fa,fa,fa,fa,fa,fa,fa,fa,fa,fa,fa,fa,fa,fa,fa,fa,fa,fa,fa,fa,fa,fa,fa,fa,fa,fa,fa,fa,fa,fa] (by kernel_rfl) rfl rfl ⟨(blk_cell BK135.out 0).trans rfl, (blk_cell BK135.out 1).trans rfl⟩ (fun hHeld => ?_); refine with_tabW line_Check.tab2 line_Check.bits2 (fun HT_ HW_ => ?_)
   generalize w4.drew = w22 at BK135 HB hHeld ⊢
   refine take_ (i := 0) (N := some 10) (v := ?_) (a' := ?_) #[tr,fa,fa,fa,fa,fa,fa,fa,fa,fa,fa,fa,fa,fa,fa,fa,fa,fa,fa,fa,fa,fa,fa,fa,fa,fa,fa,fa,fa,fa,fa,fa,fa] rfl rfl (take_ofW HT_.out HW_.out (by kernel_rfl)) (fun _ _ _ h => h) (Or.inl ⟨by rfl, ?_⟩) hHeld ?_ ?_
   rotate_left
   ·rintro w' ⟨s0, s1⟩
    go_simp
    with_reducible rfl
   rotate_left
   ·simp only [sP]
    rfl
   refine one_ (i := 1) (N := some 11) #[tr,tr,fa,fa,fa,fa,fa,fa,fa,fa,fa,fa,fa,fa,fa,fa,fa,fa,fa,fa,fa,fa,fa,fa,fa,fa,fa,fa,fa,fa,fa,fa,fa] rfl rfl (one_of HT_.out (by kernel_rfl)) (by decide) (fun K hK => ?_)
   refine goes_ Try.func29 (by kernel_rfl) rfl #[.agg #[.int .i64 a0_0, .int .i64 a0_1]] (by rfl) rfl rfl gS ?_
   with_reducible refine (line_window.calls k a0_0 a0_1 false _ A5.out).mono ?_
   rintro e w23 ⟨rfl, hb⟩
   refine ⟨_, rfl, ?_⟩
   replace BK135 := Bx0 BK135 hb
   replace HB := Bs1 HB hb GE135.out
   (try clear hb)
   refine hK.out _ _ ⟨(blk_cell BK135.out 0).trans rfl, (blk_cell BK135.out 1).trans rfl⟩ (fun hHeld => ?_)
   clear hK K
   refine norm_ (a' := ?_) ?_ ?_
   rotate_left
   ·show Act.put _ (some 11) _ = _
    simp only [sP]
    rfl
   refine pure_ (i := 2) (N := some 12) (v := ?_) (a' := ?_) #[tr,tr,tr,fa,fa,fa,fa,fa,fa,fa,fa,fa,fa,fa,fa,fa,fa,fa,fa,fa,fa,fa,fa,fa,fa,fa,fa,fa,fa,fa,fa,fa,fa] rfl rfl (any_of HT_.out (by kernel_rfl)) (fun _ _ _ h => h) (Or.inl ⟨by rfl, ?_⟩) ?_ ?_
   rotate_left
   ·intro w'
    go_simp
    with_reducible rfl
   rotate_left
   ·simp only [sP]
    rfl
   refine pure_ (i := 3) (N := some 13) (v := ?_) (a' := ?_) #[tr,tr,tr,tr,fa,fa,fa,fa,fa,fa,fa,fa,fa,fa,fa,fa,fa,fa,fa,fa,fa,fa,fa,fa,fa,fa,fa,fa,fa,fa,fa,fa,fa] rfl rfl (any_of HT_.out (by kernel_rfl)) (fun _ _ _ h => h) (Or.inl ⟨by rfl, ?_⟩) ?_ ?_
   rotate_left
   ·intro w'
    go_simp
    with_reducible rfl
   rotate_left
   ·simp only [sP]
    rfl
   refine pure_ (i := 4) (N := some 14) (v := undef) (a' := ?_) #[tr,tr,tr,tr,tr,fa,fa,fa,fa,fa,fa,fa,fa,fa,fa,fa,fa,fa,fa,fa,fa,fa,fa,fa,fa,fa,fa,fa,fa,fa,fa,fa,fa] rfl rfl (any_of HT_.out (by kernel_rfl)) (fun _ _ _ h => h) (Or.inr ⟨by rfl, rfl⟩) ?_ ?_
   rotate_left
   ·simp only [sP]
    rfl
   refine pure_ (i := 5) (N := some 15) (v := undef) (a' := ?_) #[tr,tr,tr,tr,tr,tr,fa,fa,fa,fa,fa,fa,fa,fa,fa,fa,fa,fa,fa,fa,fa,fa,fa,fa,fa,fa,fa,fa,fa,fa,fa,fa,fa] rfl rfl (any_of HT_.out (by kernel_rfl)) (fun _ _ _ h => h) (Or.inr ⟨by rfl, rfl⟩) ?_ ?_
   rotate_left
   ·simp only [sP]
    rfl
   refine pure_ (i := 6) (N := some 16) (v := ?_) (a' := ?_) #[tr,tr,tr,tr,tr,tr,tr,fa,fa,fa,fa,fa,fa,fa,fa,fa,fa,fa,fa,fa,fa,fa,fa,fa,fa,fa,fa,fa,fa,fa,fa,fa,fa] rfl rfl (any_of HT_.out (by kernel_rfl)) (fun _ _ _ h => h) (Or.inl ⟨by rfl, ?_⟩) ?_ ?_
   rotate_left
   ·intro w'
    go_simp
    with_reducible rfl
   rotate_left
   ·simp only [sP]
    rfl
   refine pure_ (i := 7) (N := some 17) (v := ?_) (a' := ?_) #[tr,tr,tr,tr,tr,tr,tr,tr,fa,fa,fa,fa,fa,fa,fa,fa,fa,fa,fa,fa,fa,fa,fa,fa,fa,fa,fa,fa,fa,fa,fa,fa,fa] rfl rfl (any_of HT_.out (by kernel_rfl)) (fun _ _ _ h => h) (Or.inl ⟨by rfl, ?_⟩) ?_ ?_
   rotate_left
   ·intro w'
    go_simp
    with_reducible rfl
   rotate_left
   ·simp only [sP]
    rfl
   refine pure_ (i := 8) (N := some 18) (v := undef) (a' := ?_) #[tr,tr,tr,tr,tr,tr,tr,tr,tr,fa,fa,fa,fa,fa,fa,fa,fa,fa,fa,fa,fa,fa,fa,fa,fa,fa,fa,fa,fa,fa,fa,fa,fa] rfl rfl (any_of HT_.out (by kernel_rfl)) (fun _ _ _ h => h) (Or.inr ⟨by rfl, rfl⟩) ?_ ?_
   rotate_left
   ·simp only [sP]
    rfl
   refine pure_ (i := 9) (N := some 19) (v := undef) (a' := ?_) #[tr,tr,tr,tr,tr,tr,tr,tr,tr,tr,fa,fa,fa,fa,fa,fa,fa,fa,fa,fa,fa,fa,fa,fa,fa,fa,fa,fa,fa,fa,fa,fa,fa] rfl rfl (any_of HT_.out (by kernel_rfl)) (fun _ _ _ h => h) (Or.inr ⟨by rfl, rfl⟩) ?_ ?_
   rotate_left
   ·simp only [sP]
    rfl
   refine pure_ (i := 10) (N := some 20) (v := ?_) (a' := ?_) #[tr,tr,tr,tr,tr,tr,tr,tr,tr,tr,tr,fa,fa,fa,fa,fa,fa,fa,fa,fa,fa,fa,fa,fa,fa,fa,fa,fa,fa,fa,fa,fa,fa] rfl rfl (any_of HT_.out (by kernel_rfl)) (fun _ _ _ h => h) (Or.inl ⟨by rfl, ?_⟩) ?_ ?_
   rotate_left
   ·intro w'
    go_simp
    with_reducible rfl
   rotate_left
   ·simp only [sP]
    rfl
   refine pure_ (i := 11) (N := some 21) (v := ?_) (a' := ?_) #[tr,tr,tr,tr,tr,tr,tr,tr,tr,tr,tr,tr,fa,fa,fa,fa,fa,fa,fa,fa,fa,fa,fa,fa,fa,fa,fa,fa,fa,fa,fa,fa,fa] rfl rfl (any_of HT_.out (by kernel_rfl)) (fun _ _ _ h => h) (Or.inl ⟨by rfl, ?_⟩) ?_ ?_
   rotate_left
   ·intro w'
    go_simp
    with_reducible rfl
   rotate_left
   ·simp only [sP]
    rfl
   refine pure_ (i := 12) (N := some 22) (v := undef) (a' := ?_) #[tr,tr,tr,tr,tr,tr,tr,tr,tr,tr,tr,tr,tr,fa,fa,fa,fa,fa,fa,fa,fa,fa,fa,fa,fa,fa,fa,fa,fa,fa,fa,fa,fa] rfl rfl (any_of HT_.out (by kernel_rfl)) (fun _ _ _ h => h) (Or.inr ⟨by rfl, rfl⟩) ?_ ?_
   rotate_left
   ·simp only [sP]
    rfl
   refine pure_ (i := 13) (N := some 23) (v := undef) (a' := ?_) #[tr,tr,tr,tr,tr,tr,tr,tr,tr,tr,tr,tr,tr,tr,fa,fa,fa,fa,fa,fa,fa,fa,fa,fa,fa,fa,fa,fa,fa,fa,fa,fa,fa] rfl rfl (any_of HT_.out (by kernel_rfl)) (fun _ _ _ h => h) (Or.inr ⟨by rfl, rfl⟩) ?_ ?_
   rotate_left
   ·simp only [sP]
    rfl
   refine pure_ (i := 14) (N := some 24) (v := undef) (a' := ?_) #[tr,tr,tr,tr,tr,tr,tr,tr,tr,tr,tr,tr,tr,tr,tr,fa,fa,fa,fa,fa,fa,fa,fa,fa,fa,fa,fa,fa,fa,fa,fa,fa,fa] rfl rfl (any_of HT_.out (by kernel_rfl)) (fun _ _ _ h => h) (Or.inr ⟨by rfl, rfl⟩) ?_ ?_
   rotate_left
   ·simp only [sP]
    rfl
   refine pure_ (i := 15) (N := some 25) (v := undef) (a' := ?_) #[tr,tr,tr,tr,tr,tr,tr,tr,tr,tr,tr,tr,tr,tr,tr,tr,fa,fa,fa,fa,fa,fa,fa,fa,fa,fa,fa,fa,fa,fa,fa,fa,fa] rfl rfl (any_of HT_.out (by kernel_rfl)) (fun _ _ _ h => h) (Or.inr ⟨by rfl, rfl⟩) ?_ ?_
   rotate_left
   ·simp only [sP]
    rfl
   refine pure_ (i := 16) (N := some 26) (v := undef) (a' := ?_) #[tr,tr,tr,tr,tr,tr,tr,tr,tr,tr,tr,tr,tr,tr,tr,tr,tr,fa,fa,fa,fa,fa,fa,fa,fa,fa,fa,fa,fa,fa,fa,fa,fa] rfl rfl (any_of HT_.out (by kernel_rfl)) (fun _ _ _ h => h) (Or.inr ⟨by rfl, rfl⟩) ?_ ?_
   rotate_left
   ·simp only [sP]
    rfl
   refine pure_ (i := 17) (N := some 27) (v := undef) (a' := ?_) #[tr,tr,tr,tr,tr,tr,tr,tr,tr,tr,tr,tr,tr,tr,tr,tr,tr,tr,fa,fa,fa,fa,fa,fa,fa,fa,fa,fa,fa,fa,fa,fa,fa] rfl rfl (any_of HT_.out (by kernel_rfl)) (fun _ _ _ h => h) (Or.inr ⟨by rfl, rfl⟩) ?_ ?_
   rotate_left
   ·simp only [sP]
    rfl
   refine pure_ (i := 18) (N := some 28) (v := undef) (a' := ?_) #[tr,tr,tr,tr,tr,tr,tr,tr,tr,tr,tr,tr,tr,tr,tr,tr,tr,tr,tr,fa,fa,fa,fa,fa,fa,fa,fa,fa,fa,fa,fa,fa,fa] rfl rfl (any_of HT_.out (by kernel_rfl)) (fun _ _ _ h => h) (Or.inr ⟨by rfl, rfl⟩) ?_ ?_
   rotate_left
   ·simp only [sP]
    rfl
   refine pure_ (i := 19) (N := some 29) (v := undef) (a' := ?_) #[tr,tr,tr,tr,tr,tr,tr,tr,tr,tr,tr,tr,tr,tr,tr,tr,tr,tr,tr,tr,fa,fa,fa,fa,fa,fa,fa,fa,fa,fa,fa,fa,fa] rfl rfl (any_of HT_.out (by kernel_rfl)) (fun _ _ _ h => h) (Or.inr ⟨by rfl, rfl⟩) ?_ ?_
   rotate_left
   ·simp only [sP]
    rfl
   refine pure_ (i := 20) (N := some 30) (v := ?_) (a' := ?_) #[tr,tr,tr,tr,tr,tr,tr,tr,tr,tr,tr,tr,tr,tr,tr,tr,tr,tr,tr,tr,tr,fa,fa,fa,fa,fa,fa,fa,fa,fa,fa,fa,fa] rfl rfl (any_of HT_.out (by kernel_rfl)) (fun _ _ _ h => h) (Or.inl ⟨by rfl, ?_⟩) ?_ ?_
   rotate_left
   ·intro w'
    go_simp
    with_reducible rfl
   rotate_left
   ·simp only [sP]
    rfl
   refine pure_ (i := 21) (N := some 31) (v := ?_) (a' := ?_) #[tr,tr,tr,tr,tr,tr,tr,tr,tr,tr,tr,tr,tr,tr,tr,tr,tr,tr,tr,tr,tr,tr,fa,fa,fa,fa,fa,fa,fa,fa,fa,fa,fa] rfl rfl (any_of HT_.out (by kernel_rfl)) (fun _ _ _ h => h) (Or.inl ⟨by rfl, ?_⟩) ?_ ?_
   rotate_left
   ·intro w'
    go_simp
    with_reducible rfl
   rotate_left
   ·simp only [sP]
    rfl
   refine pure_ (i := 22) (N := some 32) (v := undef) (a' := ?_) #[tr,tr,tr,tr,tr,tr,tr,tr,tr,tr,tr,tr,tr,tr,tr,tr,tr,tr,tr,tr,tr,tr,tr,fa,fa,fa,fa,fa,fa,fa,fa,fa,fa] rfl rfl (any_of HT_.out (by kernel_rfl)) (fun _ _ _ h => h) (Or.inr ⟨by rfl, rfl⟩) ?_ ?_
   rotate_left
   ·simp only [sP]
    rfl
   refine pure_ (i := 23) (N := some 33) (v := undef) (a' := ?_) #[tr,tr,tr,tr,tr,tr,tr,tr,tr,tr,tr,tr,tr,tr,tr,tr,tr,tr,tr,tr,tr,tr,tr,tr,fa,fa,fa,fa,fa,fa,fa,fa,fa] rfl rfl (any_of HT_.out (by kernel_rfl)) (fun _ _ _ h => h) (Or.inr ⟨by rfl, rfl⟩) ?_ ?_
   rotate_left
   ·simp only [sP]
    rfl
   refine pure_ (i := 24) (N := some 34) (v := undef) (a' := ?_) #[tr,tr,tr,tr,tr,tr,tr,tr,tr,tr,tr,tr,tr,tr,tr,tr,tr,tr,tr,tr,tr,tr,tr,tr,tr,fa,fa,fa,fa,fa,fa,fa,fa] rfl rfl (any_of HT_.out (by kernel_rfl)) (fun _ _ _ h => h) (Or.inr ⟨by rfl, rfl⟩) ?_ ?_
   rotate_left
   ·simp only [sP]
    rfl
   refine pure_ (i := 25) (N := some 35) (v := undef) (a' := ?_) #[tr,tr,tr,tr,tr,tr,tr,tr,tr,tr,tr,tr,tr,tr,tr,tr,tr,tr,tr,tr,tr,tr,tr,tr,tr,tr,fa,fa,fa,fa,fa,fa,fa] rfl rfl (any_of HT_.out (by kernel_rfl)) (fun _ _ _ h => h) (Or.inr ⟨by rfl, rfl⟩) ?_ ?_
   rotate_left
   ·simp only [sP]
    rfl
   refine pure_ (i := 26) (N := some 36) (v := undef) (a' := ?_) #[tr,tr,tr,tr,tr,tr,tr,tr,tr,tr,tr,tr,tr,tr,tr,tr,tr,tr,tr,tr,tr,tr,tr,tr,tr,tr,tr,fa,fa,fa,fa,fa,fa] rfl rfl (any_of HT_.out (by kernel_rfl)) (fun _ _ _ h => h) (Or.inr ⟨by rfl, rfl⟩) ?_ ?_
   rotate_left
   ·simp only [sP]
    rfl
   refine pure_ (i := 27) (N := some 37) (v := undef) (a' := ?_) #[tr,tr,tr,tr,tr,tr,tr,tr,tr,tr,tr,tr,tr,tr,tr,tr,tr,tr,tr,tr,tr,tr,tr,tr,tr,tr,tr,tr,fa,fa,fa,fa,fa] rfl rfl (any_of HT_.out (by kernel_rfl)) (fun _ _ _ h => h) (Or.inr ⟨by rfl, rfl⟩) ?_ ?_
   rotate_left
   ·simp only [sP]
    rfl
   refine pure_ (i := 28) (N := some 38) (v := undef) (a' := ?_) #[tr,tr,tr,tr,tr,tr,tr,tr,tr,tr,tr,tr,tr,tr,tr,tr,tr,tr,tr,tr,tr,tr,tr,tr,tr,tr,tr,tr,tr,fa,fa,fa,fa] rfl rfl (any_of HT_.out (by kernel_rfl)) (fun _ _ _ h => h) (Or.inr ⟨by rfl, rfl⟩) ?_ ?_
   rotate_left
   ·simp only [sP]
    rfl
   refine pure_ (i := 29) (N := some 39) (v := undef) (a' := ?_) #[tr,tr,tr,tr,tr,tr,tr,tr,tr,tr,tr,tr,tr,tr,tr,tr,tr,tr,tr,tr,tr,tr,tr,tr,tr,tr,tr,tr,tr,tr,fa,fa,fa] rfl rfl (any_of HT_.out (by kernel_rfl)) (fun _ _ _ h => h) (Or.inr ⟨by rfl, rfl⟩) ?_ ?_
   rotate_left
   ·simp only [sP]
    rfl
   refine pure_ (i := 30) (N := some 40) (v := undef) (a' := ?_) #[tr,tr,tr,tr,tr,tr,tr,tr,tr,tr,tr,tr,tr,tr,tr,tr,tr,tr,tr,tr,tr,tr,tr,tr,tr,tr,tr,tr,tr,tr,tr,fa,fa] rfl rfl (any_of HT_.out (by kernel_rfl)) (fun _ _ _ h => h) (Or.inr ⟨by rfl, rfl⟩) ?_ ?_
   rotate_left
   ·simp only [sP]
    rfl
   refine pure_ (i := 31) (N := some 41) (v := undef) (a' := ?_) #[tr,tr,tr,tr,tr,tr,tr,tr,tr,tr,tr,tr,tr,tr,tr,tr,tr,tr,tr,tr,tr,tr,tr,tr,tr,tr,tr,tr,tr,tr,tr,tr,fa] rfl rfl (any_of HT_.out (by kernel_rfl)) (fun _ _ _ h => h) (Or.inr ⟨by rfl, rfl⟩) ?_ ?_
   rotate_left
   ·simp only [sP]
    rfl
   refine pure_ (i := 32) (N := some 42) (v := ?_) (a' := ?_) #[tr,tr,tr,tr,tr,tr,tr,tr,tr,tr,tr,tr,tr,tr,tr,tr,tr,tr,tr,tr,tr,tr,tr,tr,tr,tr,tr,tr,tr,tr,tr,tr,tr] rfl rfl (any_of HT_.out (by kernel_rfl)) (fun _ _ _ h => h) (Or.inl ⟨by rfl, ?_⟩) ?_ ?_
   rotate_left
   ·intro w'
    go_simp
    with_reducible rfl
   rotate_left
   ·simp only [sP]
    rfl
   refine done_ (done_of HT_.out (by kernel_rfl)) ?_
   try go_wp2
   go_meet
   case rel => exact ⟨_, (true), rS, H', ⟨by first | omega | exact Nat.le_refl _⟩, ⟨bf0 BK135.out⟩, ⟨bw1 HB.out GE135.out⟩⟩
 case rest =>
  clear HC3
  try clear c1
  try clear p1
  try clear q1
  try clear hx1
  try clear qi1
  try clear c2
  try clear p2
  try clear c6
  try clear c13
  try clear p13
  try clear q13
  try clear hx13
  try clear qi13
  try clear c14
  try clear c14b0
  try clear c14b1
  try clear c16
  try clear c17
  try clear hx137_0
  try clear hx137_1
  try clear hx137_2
  try clear hx137_3
  try clear p137
  try clear q137
  obtain ⟨kq, x42_2, rfl, HA, HJ2, BK135, HB⟩ := hcut
  cases kq with
  | zero => exact absurd HA.out (by simp [line_Check.j0])
  | succ kj2 =>
   have H := HA.out
   clear HA
   simp only [line_Check.j0] at H
   by_cases c24 : x42_2 = true
   ·subst c24
    have H1 : (some 2) = some r := by rw [if_pos rfl] at H; exact H
    clear H
    have H := H1
    clear H1
    obtain rfl := Option.some.inj H
    go_wp2
    go_ret
    exact ⟨eS, bw1 HB.out GE135.out⟩
   ·replace c24 := Bool.eq_false_iff.mpr c24
    subst c24
    have H1 : (line_Check.l0 kj2 l1 l1 (l1.length : Int) 0 a0_0 a0_1) = some r := by rw [if_neg (show ¬ (false = true) by decide)] at H; exact H
    clear H
    have H := H1
    clear H1
    have H' := Ax H
    clear H
    go_wp2
    go_loopg [45] kj2 (fun kq v45 w' => ∃ (x45_2 : Int), v45 = .int .i64 x45_2 ∧ Aside0 (line_Check.l0 kq l1 l1 (l1.length : Int) x45_2 a0_0 a0_1 = some r) ∧ Aside0 (kq ≤ kj2) ∧ Aside0 (w'.heap[gb135]? = some (.cells #[.int .i64 a0_0, .int .i64 a0_1] 23 (0, 0))) ∧ Aside0 (Below w.heap.size w w'))
    case atStart => exact ⟨(0), rS, H', ⟨Nat.le_refl _⟩, ⟨bf0 BK135.out⟩, ⟨bw1 HB.out GE135.out⟩⟩
    case round =>
     clear H'
     try clear c1
     try clear p1
     try clear q1
     try clear hx1
     try clear qi1
     try clear c2
     try clear p2
     try clear c6
     try clear c13
     try clear p13
     try clear q13
     try clear hx13
     try clear qi13
     try clear c14
     try clear c14b0
     try clear c14b1
     try clear c16
     try clear c17
     try clear c24
     try clear hx137_0
     try clear hx137_1
     try clear hx137_2
     try clear hx137_3
     try clear p1
     try clear p13
     try clear p137
     try clear p2
     try clear q1
     try clear q13
     try clear q137
     obtain ⟨x45_2, rfl, HA, HK2, BK135, HB⟩ := hrel
     cases gk with
     | zero => exact absurd HA.out (by simp [line_Check.l0])
     | succ k2 =>
      have H := HA.out
      clear HA
      simp only [line_Check.l0] at H
      by_cases c25 : x45_2 < (l1.length : Int)
      ·rw [if_pos c25] at H
       have c25b0 : decide (x45_2 < (l1.length : Int)) = true := decide_eq_true c25
       clear c25
       by_cases c26 : 0 ≤ x45_2
       ·rw [if_pos c26] at H
        have c26b0 : decide (0 ≤ x45_2) = true := decide_eq_true c26
        clear c26
        by_cases c27 : x45_2 < (l1.length : Int)
        ·rw [if_pos c27] at H
         have c27b0 : decide (x45_2 < (l1.length : Int)) = true := decide_eq_true c27
         clear c27
         have HC28 := Ax H
         clear H
         have p139 : 0 ≤ (x45_2 : Int) := of_decide_eq_true (by first | (with_reducible assumption) | assumption)
         have q139 : x45_2 < (l1.length : Int) := of_decide_eq_true (by first | (with_reducible assumption) | assumption)
         obtain ⟨ad139, e139, hx139_0, hx139_1, hx139_2, hx139_3⟩ := at_T34 HR1.out x45_2 p139 q139
         cases e139
         replace hx139_0 := (HB.out.cell (World.block_lt_of_cell? w _ hx139_0)).trans hx139_0
         replace hx139_1 := (HB.out.cell (World.block_lt_of_cell? w _ hx139_1)).trans hx139_1
         replace hx139_2 := (HB.out.cell (World.block_lt_of_cell? w _ hx139_2)).trans hx139_2
         replace hx139_3 := (HB.out.cell (World.block_lt_of_cell? w _ hx139_3)).trans hx139_3
         replace p139 := eq_true p139
         replace q139 := eq_true q139
         go_upto_region 7 with (first | ((with_reducible refine gate_dst (N := 7) rfl ?_); refine box_event ?hg (N := 7) ?hd (cs := #[.int .i64 0, .int .i64 0, .int .u8 0, .int .i64 0]) (t := 34) ?hr ?_; (case hd => rfl); (case hg => rfl); (case hr => first | (go_simp; done) | (go_simp; rfl)); intro gb140 hg w29 hbox hb; have n0_ := Bx0 BK135 hb; have n1_ := Bs1 HB hb GE135.out; have n2_ := Ax (hbox); have n3_ := Gw1 HB hg GE135.out; have n4_ := Gw1 HB hg GE135.out; have n5_ := Nl0 BK135 hg; have n6_ := Nr0 BK135 hg; clear BK135; clear HB; have BK135 := n0_; have HB := n1_; have BK140 := n2_; have GW140 := n3_; have GE140 := n4_; have NB135_140 := n5_; have NB140_135 := n6_; clear n0_ n1_ n2_ n3_ n4_ n5_ n6_; clear hb hbox hg; have hnb30 := NB140_135.out; have hnc30 := NB135_140.out; obtain ⟨hcz31_0, hcz31_1, hcz31_2, hcz31_3, hfz31_0, hfz31_1, hfz31_2, hfz31_3⟩ := cl4 BK140))
         (try simp only [Act.put, List.setIfInBounds_toArray, List.set_cons_zero, List.set_cons_succ])
         go_cut [50] (fun v50 wc => ∃ (kq : Nat) (x50_27 : Bool), v50 = .bool x50_27 ∧ Aside0 (line_Check.j2 kq l1 x45_2 l1 (l1.length : Int) x45_2 x50_27 a0_0 a0_1 ((rd_T34 l1 x45_2).f0.f0) ((rd_T34 l1 x45_2).f0.f1) ((rd_T34 l1 x45_2).f1.f0) ((rd_T34 l1 x45_2).f1.f1) = some r) ∧ Aside0 (kq ≤ k2) ∧ Aside0 (wc.heap[gb135]? = some (.cells #[.int .i64 a0_0, .int .i64 a0_1] 23 (0, 0))) ∧ Aside0 (wc.heap[gb140]? = some (.cells #[.int .i64 ((rd_T34 l1 x45_2).f0.f0), .int .i64 ((rd_T34 l1 x45_2).f0.f1), .int .u8 ((rd_T34 l1 x45_2).f1.f0), .int .i64 ((rd_T34 l1 x45_2).f1.f1)] 34 (0, 0))) ∧ Aside0 (Below w.heap.size w wc))
         case first =>
          have H := HC28.out
          clear HC28
          replace H := Option.bind_eq_some_iff.mp H
          obtain ⟨t141, A320, H⟩ := H
          replace H : (if t141 = true then (if ((rd_T34 l1 x45_2).f0.f1) < ((rd_T34 l1 x45_2).f0.f0) then (line_Check.j2 k2 l1 x45_2 l1 (l1.length : Int) x45_2 true a0_0 a0_1 ((rd_T34 l1 x45_2).f0.f0) ((rd_T34 l1 x45_2).f0.f1) ((rd_T34 l1 x45_2).f1.f0) ((rd_T34 l1 x45_2).f1.f1)) else (line_Check.j2 k2 l1 x45_2 l1 (l1.length : Int) x45_2 (decide (((rd_T34 l1 x45_2).f0.f1) > a0_1)) a0_0 a0_1 ((rd_T34 l1 x45_2).f0.f0) ((rd_T34 l1 x45_2).f0.f1) ((rd_T34 l1 x45_2).f1.f0) ((rd_T34 l1 x45_2).f1.f1))) else (line_Check.j2 k2 l1 x45_2 l1 (l1.length : Int) x45_2 true a0_0 a0_1 ((rd_T34 l1 x45_2).f0.f0) ((rd_T34 l1 x45_2).f0.f1) ((rd_T34 l1 x45_2).f1.f0) ((rd_T34 l1 x45_2).f1.f1))) = some r := H
          have A32 := Ax A320
          clear A320
          by_cases c33 : t141 = true
          ·subst c33
           have H1 : (if ((rd_T34 l1 x45_2).f0.f1) < ((rd_T34 l1 x45_2).f0.f0) then (line_Check.j2 k2 l1 x45_2 l1 (l1.length : Int) x45_2 true a0_0 a0_1 ((rd_T34 l1 x45_2).f0.f0) ((rd_T34 l1 x45_2).f0.f1) ((rd_T34 l1 x45_2).f1.f0) ((rd_T34 l1 x45_2).f1.f1)) else (line_Check.j2 k2 l1 x45_2 l1 (l1.length : Int) x45_2 (decide (((rd_T34 l1 x45_2).f0.f1) > a0_1)) a0_0 a0_1 ((rd_T34 l1 x45_2).f0.f0) ((rd_T34 l1 x45_2).f0.f1) ((rd_T34 l1 x45_2).f1.f0) ((rd_T34 l1 x45_2).f1.f1))) = some r := by rw [if_pos rfl] at H; exact H
           clear H
           have H := H1
           clear H1
           by_cases c34 : ((rd_T34 l1 x45_2).f0.f1) < ((rd_T34 l1 x45_2).f0.f0)
           ·rw [if_pos c34] at H
            have c34b0 : decide (((rd_T34 l1 x45_2).f0.f1) < ((rd_T34 l1 x45_2).f0.f0)) = true := decide_eq_true c34
            clear c34
            (first | rw [c34b0] | (simp only [i64_w, i32_w]; rw [c34b0]) | skip)
            have H' := Ax H
            clear H
            have hnb35 := NB140_135.out
            have hnc35 := NB135_140.out
            obtain ⟨hcz36_0, hcz36_1, hcz36_2, hcz36_3, hfz36_0, hfz36_1, hfz36_2, hfz36_3⟩ := cl4 BK140
            go_wp2_with (first | ((with_reducible refine gate_callee (f := 30) rfl ?_); refine goesL_ (some 53) rfl rfl Try.func30 (by kernel_rfl) rfl #[.agg #[.int .u8 ((rd_T34 l1 x45_2).f1.f0), .int .i64 ((rd_T34 l1 x45_2).f1.f1)]] rfl gS ?_; (with_reducible refine (line_right.calls ((rd_T34 l1 x45_2).f1.f0) ((rd_T34 l1 x45_2).f1.f1) true _ A32.out).mono ?_); rintro e w37 ⟨rfl, hb⟩; refine ⟨_, rfl, ?_⟩; have n0_ := Bx4 BK135 hb NB135_140.out NB135_140.out NB135_140.out NB135_140.out; have n1_ := Ax (blk_below (g := gb140) (o := .cells #[.int .i64 ((rd_T34 l1 x45_2).f0.f0), .int .i64 ((rd_T34 l1 x45_2).f0.f1), .int .u8 ((rd_T34 l1 x45_2).f1.f0), .int .i64 ((rd_T34 l1 x45_2).f1.f1)] 34 (0, 0)) (by (with_reducible repeat (first | refine blk_drewN ?_ _ | refine blk_drew ?_ | refine blk_alloc ?_ _)); refine blk_put (cs := #[.int .i64 ((rd_T34 l1 x45_2).f0.f0), .int .i64 ((rd_T34 l1 x45_2).f0.f1), .int .u8 ((rd_T34 l1 x45_2).f1.f0), .int .i64 0]) ?_ 3 _ rfl; (with_reducible repeat (first | refine blk_drewN ?_ _ | refine blk_drew ?_ | refine blk_alloc ?_ _)); refine blk_put (cs := #[.int .i64 ((rd_T34 l1 x45_2).f0.f0), .int .i64 ((rd_T34 l1 x45_2).f0.f1), .int .u8 0, .int .i64 0]) ?_ 2 _ rfl; (with_reducible repeat (first | refine blk_drewN ?_ _ | refine blk_drew ?_ | refine blk_alloc ?_ _)); refine blk_put (cs := #[.int .i64 ((rd_T34 l1 x45_2).f0.f0), .int .i64 0, .int .u8 0, .int .i64 0]) ?_ 1 _ rfl; (with_reducible repeat (first | refine blk_drewN ?_ _ | refine blk_drew ?_ | refine blk_alloc ?_ _)); refine blk_put (cs := #[.int .i64 0, .int .i64 0, .int .u8 0, .int .i64 0]) ?_ 0 _ rfl; (with_reducible repeat (first | refine blk_drewN ?_ _ | refine blk_drew ?_ | refine blk_alloc ?_ _)); exact BK140.out) hb); have n2_ := Bs2 HB hb GE135.out GE140.out; clear BK135; clear BK140; clear HB; have BK135 := n0_; have BK140 := n1_; have HB := n2_; clear n0_ n1_ n2_; (try clear hb); obtain ⟨hcz38_0, hcz38_1, hcz38_2, hcz38_3, hfz38_0, hfz38_1, hfz38_2, hfz38_3⟩ := cl4 BK140))
            go_meet
            case rel => exact ⟨_, (true), rS, H', ⟨by have := HJ2.out; have := HK2.out; first | omega | exact Nat.le_refl _⟩, ⟨bf0 BK135.out⟩, ⟨bf0 BK140.out⟩, ⟨bw2 HB.out GE135.out GE140.out⟩⟩
           ·rw [if_neg c34] at H
            have c34b0 : decide (((rd_T34 l1 x45_2).f0.f1) < ((rd_T34 l1 x45_2).f0.f0)) = false := decide_eq_false c34
            clear c34
            (first | rw [c34b0] | (simp only [i64_w, i32_w]; rw [c34b0]) | skip)
            have H' := Ax H
            clear H
            have hnb39 := NB140_135.out
            have hnc39 := NB135_140.out
            obtain ⟨hcz40_0, hcz40_1, hcz40_2, hcz40_3, hfz40_0, hfz40_1, hfz40_2, hfz40_3⟩ := cl4 BK140
            go_wp2_with (first | ((with_reducible refine gate_callee (f := 30) rfl ?_); refine goesL_ (some 53) rfl rfl Try.func30 (by kernel_rfl) rfl #[.agg #[.int .u8 ((rd_T34 l1 x45_2).f1.f0), .int .i64 ((rd_T34 l1 x45_2).f1.f1)]] rfl gS ?_; (with_reducible refine (line_right.calls ((rd_T34 l1 x45_2).f1.f0) ((rd_T34 l1 x45_2).f1.f1) true _ A32.out).mono ?_); rintro e w41 ⟨rfl, hb⟩; refine ⟨_, rfl, ?_⟩; have n0_ := Bx4 BK135 hb NB135_140.out NB135_140.out NB135_140.out NB135_140.out; have n1_ := Ax (blk_below (g := gb140) (o := .cells #[.int .i64 ((rd_T34 l1 x45_2).f0.f0), .int .i64 ((rd_T34 l1 x45_2).f0.f1), .int .u8 ((rd_T34 l1 x45_2).f1.f0), .int .i64 ((rd_T34 l1 x45_2).f1.f1)] 34 (0, 0)) (by (with_reducible repeat (first | refine blk_drewN ?_ _ | refine blk_drew ?_ | refine blk_alloc ?_ _)); refine blk_put (cs := #[.int .i64 ((rd_T34 l1 x45_2).f0.f0), .int .i64 ((rd_T34 l1 x45_2).f0.f1), .int .u8 ((rd_T34 l1 x45_2).f1.f0), .int .i64 0]) ?_ 3 _ rfl; (with_reducible repeat (first | refine blk_drewN ?_ _ | refine blk_drew ?_ | refine blk_alloc ?_ _)); refine blk_put (cs := #[.int .i64 ((rd_T34 l1 x45_2).f0.f0), .int .i64 ((rd_T34 l1 x45_2).f0.f1), .int .u8 0, .int .i64 0]) ?_ 2 _ rfl; (with_reducible repeat (first | refine blk_drewN ?_ _ | refine blk_drew ?_ | refine blk_alloc ?_ _)); refine blk_put (cs := #[.int .i64 ((rd_T34 l1 x45_2).f0.f0), .int .i64 0, .int .u8 0, .int .i64 0]) ?_ 1 _ rfl; (with_reducible repeat (first | refine blk_drewN ?_ _ | refine blk_drew ?_ | refine blk_alloc ?_ _)); refine blk_put (cs := #[.int .i64 0, .int .i64 0, .int .u8 0, .int .i64 0]) ?_ 0 _ rfl; (with_reducible repeat (first | refine blk_drewN ?_ _ | refine blk_drew ?_ | refine blk_alloc ?_ _)); exact BK140.out) hb); have n2_ := Bs2 HB hb GE135.out GE140.out; clear BK135; clear BK140; clear HB; have BK135 := n0_; have BK140 := n1_; have HB := n2_; clear n0_ n1_ n2_; (try clear hb); obtain ⟨hcz42_0, hcz42_1, hcz42_2, hcz42_3, hfz42_0, hfz42_1, hfz42_2, hfz42_3⟩ := cl4 BK140; obtain ⟨hcz43_0, hcz43_1, hfz43_0, hfz43_1⟩ := cl2 BK135))
            go_meet
            case rel => exact ⟨_, (decide (((rd_T34 l1 x45_2).f0.f1) > a0_1)), rS, H', ⟨by have := HJ2.out; have := HK2.out; first | omega | exact Nat.le_refl _⟩, ⟨bf0 BK135.out⟩, ⟨bf0 BK140.out⟩, ⟨bw2 HB.out GE135.out GE140.out⟩⟩
          ·replace c33 := Bool.eq_false_iff.mpr c33
           subst c33
           have H1 : (line_Check.j2 k2 l1 x45_2 l1 (l1.length : Int) x45_2 true a0_0 a0_1 ((rd_T34 l1 x45_2).f0.f0) ((rd_T34 l1 x45_2).f0.f1) ((rd_T34 l1 x45_2).f1.f0) ((rd_T34 l1 x45_2).f1.f1)) = some r := by rw [if_neg (show ¬ (false = true) by decide)] at H; exact H
           clear H
           have H := H1
           clear H1
           have H' := Ax H
           clear H
           have hnb44 := NB140_135.out
           have hnc44 := NB135_140.out
           obtain ⟨hcz45_0, hcz45_1, hcz45_2, hcz45_3, hfz45_0, hfz45_1, hfz45_2, hfz45_3⟩ := cl4 BK140
           go_wp2_with (first | ((with_reducible refine gate_callee (f := 30) rfl ?_); refine goesL_ (some 53) rfl rfl Try.func30 (by kernel_rfl) rfl #[.agg #[.int .u8 ((rd_T34 l1 x45_2).f1.f0), .int .i64 ((rd_T34 l1 x45_2).f1.f1)]] rfl gS ?_; (with_reducible refine (line_right.calls ((rd_T34 l1 x45_2).f1.f0) ((rd_T34 l1 x45_2).f1.f1) false _ A32.out).mono ?_); rintro e w46 ⟨rfl, hb⟩; refine ⟨_, rfl, ?_⟩; have n0_ := Bx4 BK135 hb NB135_140.out NB135_140.out NB135_140.out NB135_140.out; have n1_ := Ax (blk_below (g := gb140) (o := .cells #[.int .i64 ((rd_T34 l1 x45_2).f0.f0), .int .i64 ((rd_T34 l1 x45_2).f0.f1), .int .u8 ((rd_T34 l1 x45_2).f1.f0), .int .i64 ((rd_T34 l1 x45_2).f1.f1)] 34 (0, 0)) (by (with_reducible repeat (first | refine blk_drewN ?_ _ | refine blk_drew ?_ | refine blk_alloc ?_ _)); refine blk_put (cs := #[.int .i64 ((rd_T34 l1 x45_2).f0.f0), .int .i64 ((rd_T34 l1 x45_2).f0.f1), .int .u8 ((rd_T34 l1 x45_2).f1.f0), .int .i64 0]) ?_ 3 _ rfl; (with_reducible repeat (first | refine blk_drewN ?_ _ | refine blk_drew ?_ | refine blk_alloc ?_ _)); refine blk_put (cs := #[.int .i64 ((rd_T34 l1 x45_2).f0.f0), .int .i64 ((rd_T34 l1 x45_2).f0.f1), .int .u8 0, .int .i64 0]) ?_ 2 _ rfl; (with_reducible repeat (first | refine blk_drewN ?_ _ | refine blk_drew ?_ | refine blk_alloc ?_ _)); refine blk_put (cs := #[.int .i64 ((rd_T34 l1 x45_2).f0.f0), .int .i64 0, .int .u8 0, .int .i64 0]) ?_ 1 _ rfl; (with_reducible repeat (first | refine blk_drewN ?_ _ | refine blk_drew ?_ | refine blk_alloc ?_ _)); refine blk_put (cs := #[.int .i64 0, .int .i64 0, .int .u8 0, .int .i64 0]) ?_ 0 _ rfl; (with_reducible repeat (first | refine blk_drewN ?_ _ | refine blk_drew ?_ | refine blk_alloc ?_ _)); exact BK140.out) hb); have n2_ := Bs2 HB hb GE135.out GE140.out; clear BK135; clear BK140; clear HB; have BK135 := n0_; have BK140 := n1_; have HB := n2_; clear n0_ n1_ n2_; (try clear hb)))
           go_meet
           case rel => exact ⟨_, (true), rS, H', ⟨by have := HJ2.out; have := HK2.out; first | omega | exact Nat.le_refl _⟩, ⟨bf0 BK135.out⟩, ⟨bf0 BK140.out⟩, ⟨bw2 HB.out GE135.out GE140.out⟩⟩
         case rest =>
          clear HC28
          try clear c1
          try clear p1
          try clear q1
          try clear hx1
          try clear qi1
          try clear c2
          try clear p2
          try clear c3
          try clear c4
          try clear c6
          try clear c13
          try clear p13
          try clear q13
          try clear hx13
          try clear qi13
          try clear c14
          try clear c14b0
          try clear c14b1
          try clear c16
          try clear c17
          try clear c24
          try clear c25
          try clear c25b0
          try clear c26
          try clear c26b0
          try clear c27
          try clear c27b0
          try clear c29
          try clear c30
          try clear c33
          try clear c34
          try clear c34b0
          try clear c35
          try clear c39
          try clear c44
          try clear hcz31_0
          try clear hcz31_1
          try clear hcz31_2
          try clear hcz31_3
          try clear hcz36_0
          try clear hcz36_1
          try clear hcz36_2
          try clear hcz36_3
          try clear hcz38_0
          try clear hcz38_1
          try clear hcz38_2
          try clear hcz38_3
          try clear hcz40_0
          try clear hcz40_1
          try clear hcz40_2
          try clear hcz40_3
          try clear hcz42_0
          try clear hcz42_1
          try clear hcz42_2
          try clear hcz42_3
          try clear hcz43_0
          try clear hcz43_1
          try clear hcz45_0
          try clear hcz45_1
          try clear hcz45_2
          try clear hcz45_3
          try clear hfz31_0
          try clear hfz31_1
          try clear hfz31_2
          try clear hfz31_3
          try clear hfz36_0
          try clear hfz36_1
          try clear hfz36_2
          try clear hfz36_3
          try clear hfz38_0
          try clear hfz38_1
          try clear hfz38_2
          try clear hfz38_3
          try clear hfz40_0
          try clear hfz40_1
          try clear hfz40_2
          try clear hfz40_3
          try clear hfz42_0
          try clear hfz42_1
          try clear hfz42_2
          try clear hfz42_3
          try clear hfz43_0
          try clear hfz43_1
          try clear hfz45_0
          try clear hfz45_1
          try clear hfz45_2
          try clear hfz45_3
          try clear hx137_0
          try clear hx137_1
          try clear hx137_2
          try clear hx137_3
          try clear hx139_0
          try clear hx139_1
          try clear hx139_2
          try clear hx139_3
          try clear p1
          try clear p13
          try clear p137
          try clear p139
          try clear p2
          try clear q1
          try clear q13
          try clear q137
          try clear q139
          obtain ⟨kq, x50_27, rfl, HA, HJ27, BK135, BK140, HB⟩ := hcut
          cases kq with
          | zero => exact absurd HA.out (by simp [line_Check.j2])
          | succ kj27 =>
           have H := HA.out
           clear HA
           simp only [line_Check.j2] at H
           by_cases c47 : x50_27 = true
           ·subst c47
            have H1 : (some 2) = some r := by rw [if_pos rfl] at H; exact H
            clear H
            have H := H1
            clear H1
            obtain rfl := Option.some.inj H
            go_wp2
            go_ret
            exact ⟨eS, bw2 HB.out GE135.out GE140.out⟩
           ·replace c47 := Bool.eq_false_iff.mpr c47
            subst c47
            have H1 : (if x45_2 > 0 then (if 0 ≤ (wrap64 (x45_2 - 1)) then (if (wrap64 (x45_2 - 1)) < (l1.length : Int) then (if (wrap64 (((rd_T34 l1 x45_2).f0.f0) - 1)) = ((rd_T34 l1 (wrap64 (x45_2 - 1))).f0.f1) then (if (((rd_T34 l1 x45_2).f1.f0) == ((rd_T34 l1 (wrap64 (x45_2 - 1))).f1.f0) && (((rd_T34 l1 x45_2).f1.f1) == ((rd_T34 l1 (wrap64 (x45_2 - 1))).f1.f1))) = true then (some 2) else (line_Check.l0 kj27 l1 l1 (l1.length : Int) (wrap64 (x45_2 + 1)) a0_0 a0_1)) else (some 2)) else (none)) else (none)) else (line_Check.l0 kj27 l1 l1 (l1.length : Int) (wrap64 (x45_2 + 1)) a0_0 a0_1)) = some r := by rw [if_neg (show ¬ (false = true) by decide)] at H; exact H
            clear H
            have H := H1
            clear H1
            by_cases c48 : x45_2 > 0
            ·rw [if_pos c48] at H
             have c48b0 : decide (0 < x45_2) = true := decide_eq_true c48
             clear c48
             obtain ⟨ji49, hji49⟩ : ∃ j_ : Int, (wrap64 (x45_2 - 1)) = j_ := ⟨_, rfl⟩
             replace H : (if 0 ≤ (ji49) then (if (ji49) < (l1.length : Int) then (if (wrap64 (((rd_T34 l1 x45_2).f0.f0) - 1)) = ((rd_T34 l1 (ji49)).f0.f1) then (if (((rd_T34 l1 x45_2).f1.f0) == ((rd_T34 l1 (ji49)).f1.f0) && (((rd_T34 l1 x45_2).f1.f1) == ((rd_T34 l1 (ji49)).f1.f1))) = true then (some 2) else (line_Check.l0 kj27 l1 l1 (l1.length : Int) (wrap64 (x45_2 + 1)) a0_0 a0_1)) else (some 2)) else (none)) else (none)) = some r := by first | (rw [hji49] at H; exact H) | (simp only [hji49] at H ⊢; exact H)
             have hji49w : (IntKind.i64.wrap (x45_2 - 1)) = ji49 := (i64_w _).trans hji49
             by_cases c50 : 0 ≤ (ji49)
             ·rw [if_pos c50] at H
              have c50b0 : decide (0 ≤ (ji49)) = true := decide_eq_true c50
              clear c50
              by_cases c51 : (ji49) < (l1.length : Int)
              ·rw [if_pos c51] at H
               have c51b0 : decide ((ji49) < (l1.length : Int)) = true := decide_eq_true c51
               clear c51
               by_cases c52 : (wrap64 (((rd_T34 l1 x45_2).f0.f0) - 1)) = ((rd_T34 l1 (ji49)).f0.f1)
               ·rw [if_pos c52] at H
                have c52b0 : ((wrap64 (((rd_T34 l1 x45_2).f0.f0) - 1)) == ((rd_T34 l1 (ji49)).f0.f1)) = true := beq_iff_eq.mpr c52
                have c52b1 : ((wrap64 (((rd_T34 l1 x45_2).f0.f0) - 1)) != ((rd_T34 l1 (ji49)).f0.f1)) = false := bne_eq_false_iff_eq.mpr c52
                clear c52
                by_cases c53 : (((rd_T34 l1 x45_2).f1.f0) == ((rd_T34 l1 (ji49)).f1.f0) && (((rd_T34 l1 x45_2).f1.f1) == ((rd_T34 l1 (ji49)).f1.f1))) = true
                ·rw [if_pos c53] at H
                 have c53b0 : (((rd_T34 l1 x45_2).f1.f0) == ((rd_T34 l1 (ji49)).f1.f0) && (((rd_T34 l1 x45_2).f1.f1) == ((rd_T34 l1 (ji49)).f1.f1))) = true := c53
                 (try (have c53b1 : decide (((rd_T34 l1 x45_2).f1.f0) = ((rd_T34 l1 (ji49)).f1.f0) && (((rd_T34 l1 x45_2).f1.f1) == ((rd_T34 l1 (ji49)).f1.f1))) = true := by simpa using c53))
                 (try (have c53b2 : (((rd_T34 l1 x45_2).f1.f0) == ((rd_T34 l1 (ji49)).f1.f0) && (((rd_T34 l1 x45_2).f1.f1) == ((rd_T34 l1 (ji49)).f1.f1))) = true := by simpa using c53))
                 clear c53
                 obtain rfl := Option.some.inj H
                 try go_wp2
                 replace BK135 := Ax (blk_drew BK135.out)
                 replace BK140 := Ax (blk_drew BK140.out)
                 replace HB := Ax (below_drew1 HB.out)
                 have p142 : 0 ≤ ((ji49) : Int) := of_decide_eq_true (by first | (with_reducible assumption) | assumption)
                 have q142 : (ji49) < (l1.length : Int) := of_decide_eq_true (by first | (with_reducible assumption) | assumption)
                 obtain ⟨ad142, e142, hx142_0, hx142_1, hx142_2, hx142_3⟩ := at_T34 HR1.out (ji49) p142 q142
                 have hw142_3 := hx142_3
                 have hw142_2 := hx142_2
                 have hw142_1 := hx142_1
                 have hw142_0 := hx142_0
                 obtain rfl : ad139 = ad142 := (by injection e142)
                 replace hx142_0 := (HB.out.cell (World.block_lt_of_cell? w _ hx142_0)).trans hx142_0
                 replace hx142_1 := (HB.out.cell (World.block_lt_of_cell? w _ hx142_1)).trans hx142_1
                 replace hx142_2 := (HB.out.cell (World.block_lt_of_cell? w _ hx142_2)).trans hx142_2
                 replace hx142_3 := (HB.out.cell (World.block_lt_of_cell? w _ hx142_3)).trans hx142_3
                 replace p142 := eq_true p142
                 replace q142 := eq_true q142
                 have p143 : 0 ≤ ((ji49) : Int) := of_decide_eq_true (by first | (with_reducible assumption) | assumption)
                 have q143 : (ji49) < (l1.length : Int) := of_decide_eq_true (by first | (with_reducible assumption) | assumption)
                 obtain ⟨ad143, e143, hx143_0, hx143_1, hx143_2, hx143_3⟩ := at_T34 HR1.out (ji49) p143 q143
                 have hw143_3 := hx143_3
                 have hw143_2 := hx143_2
                 have hw143_1 := hx143_1
                 have hw143_0 := hx143_0
                 obtain rfl : ad139 = ad143 := (by injection e143)
                 replace hx143_0 := (HB.out.cell (World.block_lt_of_cell? w _ hx143_0)).trans hx143_0
                 replace hx143_1 := (HB.out.cell (World.block_lt_of_cell? w _ hx143_1)).trans hx143_1
                 replace hx143_2 := (HB.out.cell (World.block_lt_of_cell? w _ hx143_2)).trans hx143_2
                 replace hx143_3 := (HB.out.cell (World.block_lt_of_cell? w _ hx143_3)).trans hx143_3
                 replace p143 := eq_true p143
                 replace q143 := eq_true q143
                 refine start_ (n := 28) (S := fun w' => w'.cell? ⟨gb140, 0, none⟩ = some (.int .i64 ((rd_T34 l1 x45_2).f0.f0)) ∧ w'.cell? ⟨gb140, 1, none⟩ = some (.int .i64 ((rd_T34 l1 x45_2).f0.f1)) ∧ w'.cell? ⟨gb140, 2, none⟩ = some (.int .u8 ((rd_T34 l1 x45_2).f1.f0)) ∧ w'.cell? ⟨gb140, 3, none⟩ = some (.int .i64 ((rd_T34 l1 x45_2).f1.f1)) ∧ w'.cell? (ad139.add (((ji49)).toNat * 4)) = some (.int .i64 ((rd_T34 l1 (ji49)).f0.f0)) ∧ w'.cell? ⟨(ad139.add (((ji49)).toNat * 4)).block, (ad139.add (((ji49)).toNat * 4)).off + 1, none⟩ = some (.int .i64 ((rd_T34 l1 (ji49)).f0.f1)) ∧ w'.cell? ⟨(ad139.add (((ji49)).toNat * 4)).block, (ad139.add (((ji49)).toNat * 4)).off + 2, none⟩ = some (.int .u8 ((rd_T34 l1 (ji49)).f1.f0)) ∧ w'.cell? ⟨(ad139.add (((ji49)).toNat * 4)).block, (ad139.add (((ji49)).toNat * 4)).off + 3, none⟩ = some (.int .i64 ((rd_T34 l1 (ji49)).f1.f1)) ∧ w'.cell? (ad139.add (((ji49)).toNat * 4)) = some (.int .i64 ((rd_T34 l1 (ji49)).f0.f0)) ∧ w'.cell? ⟨(ad139.add (((ji49)).toNat * 4)).block, (ad139.add (((ji49)).toNat * 4)).off + 1, none⟩ = some (.int .i64 ((rd_T34 l1 (ji49)).f0.f1)) ∧ w'.cell? ⟨(ad139.add (((ji49)).toNat * 4)).block, (ad139.add (((ji49)).toNat * 4)).off + 2, none⟩ = some (.int .u8 ((rd_T34 l1 (ji49)).f1.f0)) ∧ w'.cell? ⟨(ad139.add (((ji49)).toNat * 4)).block, (ad139.add (((ji49)).toNat * 4)).off + 3, none⟩ = some (.int .i64 ((rd_T34 l1 (ji49)).f1.f1))) (ds := []) #[fa,fa,fa,fa,fa,fa,fa,fa,fa,fa,fa,fa,fa,fa,fa,fa,fa,fa,fa,fa,fa,fa,fa,fa,fa,fa,fa,fa] (by kernel_rfl) rfl rfl ⟨(blk_cell BK140.out 0).trans rfl, (blk_cell BK140.out 1).trans rfl, (blk_cell BK140.out 2).trans rfl, (blk_cell BK140.out 3).trans rfl, ((HB.out.cell (World.block_lt_of_cell? w _ hw142_0)).trans hw142_0), ((HB.out.cell (World.block_lt_of_cell? w _ hw142_1)).trans hw142_1), ((HB.out.cell (World.block_lt_of_cell? w _ hw142_2)).trans hw142_2), ((HB.out.cell (World.block_lt_of_cell? w _ hw142_3)).trans hw142_3), ((HB.out.cell (World.block_lt_of_cell? w _ hw143_0)).trans hw143_0), ((HB.out.cell (World.block_lt_of_cell? w _ hw143_1)).trans hw143_1), ((HB.out.cell (World.block_lt_of_cell? w _ hw143_2)).trans hw143_2), ((HB.out.cell (World.block_lt_of_cell? w _ hw143_3)).trans hw143_3)⟩ (fun hHeld => ?_); refine with_tabW line_Check.tab9 line_Check.bits9 (fun HT_ HW_ => ?_)
                 generalize wc.drew = w54 at BK135 BK140 HB hx142_0 hx142_1 hx142_2 hx142_3 hx143_0 hx143_1 hx143_2 hx143_3 hHeld ⊢
                 refine pure_ (i := 0) (N := some 73) (v := ?_) (a' := ?_) #[tr,fa,fa,fa,fa,fa,fa,fa,fa,fa,fa,fa,fa,fa,fa,fa,fa,fa,fa,fa,fa,fa,fa,fa,fa,fa,fa,fa] rfl rfl (any_of HT_.out (by kernel_rfl)) (fun _ _ _ h => h) (Or.inl ⟨by rfl, ?_⟩) ?_ ?_
                 rotate_left
                 ·intro w'
                  go_simp
                  with_reducible rfl
                 rotate_left
                 ·simp only [sP]
                  rfl
                 refine pure_ (i := 1) (N := some 74) (v := ?_) (a' := ?_) #[tr,tr,fa,fa,fa,fa,fa,fa,fa,fa,fa,fa,fa,fa,fa,fa,fa,fa,fa,fa,fa,fa,fa,fa,fa,fa,fa,fa] rfl rfl (any_of HT_.out (by kernel_rfl)) (fun _ _ _ h => h) (Or.inl ⟨by rfl, ?_⟩) ?_ ?_
                 rotate_left
                 ·intro w'
                  go_simp
                  with_reducible rfl
                 rotate_left
                 ·simp only [sP]
                  rfl
                 refine pure_ (i := 2) (N := some 75) (v := ?_) (a' := ?_) #[tr,tr,tr,fa,fa,fa,fa,fa,fa,fa,fa,fa,fa,fa,fa,fa,fa,fa,fa,fa,fa,fa,fa,fa,fa,fa,fa,fa] rfl rfl (any_of HT_.out (by kernel_rfl)) (fun _ _ _ h => h) (Or.inl ⟨by rfl, ?_⟩) ?_ ?_
                 rotate_left
                 ·intro w'
                  go_simp
                  with_reducible rfl
                 rotate_left
                 ·simp only [sP]
                  rfl
                 refine pure_ (i := 3) (N := some 76) (v := ?_) (a' := ?_) #[tr,tr,tr,tr,fa,fa,fa,fa,fa,fa,fa,fa,fa,fa,fa,fa,fa,fa,fa,fa,fa,fa,fa,fa,fa,fa,fa,fa] rfl rfl (any_of HT_.out (by kernel_rfl)) (fun _ _ _ h => h) (Or.inl ⟨by rfl, ?_⟩) ?_ ?_
                 rotate_left
                 ·intro w'
                  go_simp
                  with_reducible rfl
                 rotate_left
                 ·simp only [sP]
                  rfl
                 refine pure_ (i := 4) (N := some 77) (v := ?_) (a' := ?_) #[tr,tr,tr,tr,tr,fa,fa,fa,fa,fa,fa,fa,fa,fa,fa,fa,fa,fa,fa,fa,fa,fa,fa,fa,fa,fa,fa,fa] rfl rfl (any_of HT_.out (by kernel_rfl)) (fun _ _ _ h => h) (Or.inl ⟨by rfl, ?_⟩) ?_ ?_
                 rotate_left
                 ·intro w'
                  go_simp
                  with_reducible rfl
                 rotate_left
                 ·simp only [sP]
                  rfl
                 refine pure_ (i := 7) (N := some 80) (v := ?_) (a' := ?_) #[tr,tr,tr,tr,tr,fa,fa,tr,fa,fa,fa,fa,fa,fa,fa,fa,fa,fa,fa,fa,fa,fa,fa,fa,fa,fa,fa,fa] rfl rfl (any_of HT_.out (by kernel_rfl)) (fun _ _ _ h => h) (Or.inl ⟨by rfl, ?_⟩) ?_ ?_
                 rotate_left
                 ·intro w'
                  go_simp
                  with_reducible rfl
                 rotate_left
                 ·simp only [sP]
                  rfl
                 refine pure_ (i := 8) (N := some 81) (v := ?_) (a' := ?_) #[tr,tr,tr,tr,tr,fa,fa,tr,tr,fa,fa,fa,fa,fa,fa,fa,fa,fa,fa,fa,fa,fa,fa,fa,fa,fa,fa,fa] rfl rfl (any_of HT_.out (by kernel_rfl)) (fun _ _ _ h => h) (Or.inl ⟨by rfl, ?_⟩) ?_ ?_
                 rotate_left
                 ·intro w'
                  go_simp
                  with_reducible rfl
                 rotate_left
                 ·simp only [sP]
                  rfl
                 refine pure_ (i := 9) (N := some 82) (v := ?_) (a' := ?_) #[tr,tr,tr,tr,tr,fa,fa,tr,tr,tr,fa,fa,fa,fa,fa,fa,fa,fa,fa,fa,fa,fa,fa,fa,fa,fa,fa,fa] rfl rfl (any_of HT_.out (by kernel_rfl)) (fun _ _ _ h => h) (Or.inl ⟨by rfl, ?_⟩) ?_ ?_
                 rotate_left
                 ·intro w'
                  go_simp
                  with_reducible rfl
                 rotate_left
                 ·simp only [sP]
                  rfl
                 refine pure_ (i := 10) (N := some 83) (v := ?_) (a' := ?_) #[tr,tr,tr,tr,tr,fa,fa,tr,tr,tr,tr,fa,fa,fa,fa,fa,fa,fa,fa,fa,fa,fa,fa,fa,fa,fa,fa,fa] rfl rfl (any_of HT_.out (by kernel_rfl)) (fun _ _ _ h => h) (Or.inl ⟨by rfl, ?_⟩) ?_ ?_
                 rotate_left
                 ·intro w'
                  go_simp
                  with_reducible rfl
                 rotate_left
                 ·simp only [sP]
                  rfl
                 refine pure_ (i := 11) (N := some 84) (v := ?_) (a' := ?_) #[tr,tr,tr,tr,tr,fa,fa,tr,tr,tr,tr,tr,fa,fa,fa,fa,fa,fa,fa,fa,fa,fa,fa,fa,fa,fa,fa,fa] rfl rfl (any_of HT_.out (by kernel_rfl)) (fun _ _ _ h => h) (Or.inl ⟨by rfl, ?_⟩) ?_ ?_
                 rotate_left
                 ·intro w'
                  go_simp
                  with_reducible rfl
                 rotate_left
                 ·simp only [sP]
                  rfl
                 refine pure_ (i := 12) (N := some 85) (v := ?_) (a' := ?_) #[tr,tr,tr,tr,tr,fa,fa,tr,tr,tr,tr,tr,tr,fa,fa,fa,fa,fa,fa,fa,fa,fa,fa,fa,fa,fa,fa,fa] rfl rfl (any_of HT_.out (by kernel_rfl)) (fun _ _ _ h => h) (Or.inl ⟨by rfl, ?_⟩) ?_ ?_
                 rotate_left
                 ·intro w'
                  go_simp
                  with_reducible rfl
                 rotate_left
                 ·simp only [sP]
                  rfl
                 refine take_ (i := 5) (N := some 78) (v := ?_) (a' := ?_) #[tr,tr,tr,tr,tr,tr,fa,tr,tr,tr,tr,tr,tr,fa,fa,fa,fa,fa,fa,fa,fa,fa,fa,fa,fa,fa,fa,fa] rfl rfl (take_ofW HT_.out HW_.out (by kernel_rfl)) (fun _ _ _ h => h) (Or.inl ⟨by rfl, ?_⟩) hHeld ?_ ?_
                 rotate_left
                 ·rintro w' ⟨s0, s1, s2, s3, s4, s5, s6, s7, s8, s9, s10, s11⟩
                  go_simp
                  with_reducible rfl
                 rotate_left
                 ·simp only [sP]
                  rfl
                 refine pure_ (i := 6) (N := some 79) (v := ?_) (a' := ?_) #[tr,tr,tr,tr,tr,tr,tr,tr,tr,tr,tr,tr,tr,fa,fa,fa,fa,fa,fa,fa,fa,fa,fa,fa,fa,fa,fa,fa] rfl rfl (any_of HT_.out (by kernel_rfl)) (fun _ _ _ h => h) (Or.inl ⟨by rfl, ?_⟩) ?_ ?_
                 rotate_left
                 ·intro w'
                  go_simp
                  with_reducible rfl
                 rotate_left
                 ·simp only [sP]
                  rfl
                 refine take_ (i := 13) (N := some 86) (v := ?_) (a' := ?_) #[tr,tr,tr,tr,tr,tr,tr,tr,tr,tr,tr,tr,tr,tr,fa,fa,fa,fa,fa,fa,fa,fa,fa,fa,fa,fa,fa,fa] rfl rfl (take_ofW HT_.out HW_.out (by kernel_rfl)) (fun _ _ _ h => h) (Or.inl ⟨by rfl, ?_⟩) hHeld ?_ ?_
                 rotate_left
                 ·rintro w' ⟨s0, s1, s2, s3, s4, s5, s6, s7, s8, s9, s10, s11⟩
                  go_simp
                  with_reducible rfl
                 rotate_left
                 ·simp only [sP]
                  rfl
                 refine pure_ (i := 14) (N := some 87) (v := ?_) (a' := ?_) #[tr,tr,tr,tr,tr,tr,tr,tr,tr,tr,tr,tr,tr,tr,tr,fa,fa,fa,fa,fa,fa,fa,fa,fa,fa,fa,fa,fa] rfl rfl (any_of HT_.out (by kernel_rfl)) (fun _ _ _ h => h) (Or.inl ⟨by rfl, ?_⟩) ?_ ?_
                 rotate_left
                 ·intro w'
                  go_simp
                  with_reducible rfl
                 rotate_left
                 ·simp only [sP]
                  rfl
                 refine pure_ (i := 15) (N := some 88) (v := ?_) (a' := ?_) #[tr,tr,tr,tr,tr,tr,tr,tr,tr,tr,tr,tr,tr,tr,tr,tr,fa,fa,fa,fa,fa,fa,fa,fa,fa,fa,fa,fa] rfl rfl (any_of HT_.out (by kernel_rfl)) (fun _ _ _ h => h) (Or.inl ⟨by rfl, ?_⟩) ?_ ?_
                 rotate_left
                 ·intro w'
                  go_simp
                  with_reducible rfl
                 rotate_left
                 ·simp only [sP]
                  rfl
                 refine pure_ (i := 16) (N := some 89) (v := ?_) (a' := ?_) #[tr,tr,tr,tr,tr,tr,tr,tr,tr,tr,tr,tr,tr,tr,tr,tr,tr,fa,fa,fa,fa,fa,fa,fa,fa,fa,fa,fa] rfl rfl (any_of HT_.out (by kernel_rfl)) (fun _ _ _ h => h) (Or.inl ⟨by rfl, ?_⟩) ?_ ?_
                 rotate_left
                 ·intro w'
                  go_simp
                  with_reducible rfl
                 rotate_left
                 ·simp only [sP]
                  rfl
                 refine pure_ (i := 18) (N := some 91) (v := ?_) (a' := ?_) #[tr,tr,tr,tr,tr,tr,tr,tr,tr,tr,tr,tr,tr,tr,tr,tr,tr,fa,tr,fa,fa,fa,fa,fa,fa,fa,fa,fa] rfl rfl (any_of HT_.out (by kernel_rfl)) (fun _ _ _ h => h) (Or.inl ⟨by rfl, ?_⟩) ?_ ?_
                 rotate_left
                 ·intro w'
                  go_simp
                  with_reducible rfl
                 rotate_left
                 ·simp only [sP]
                  rfl
                 refine pure_ (i := 19) (N := some 92) (v := ?_) (a' := ?_) #[tr,tr,tr,tr,tr,tr,tr,tr,tr,tr,tr,tr,tr,tr,tr,tr,tr,fa,tr,tr,fa,fa,fa,fa,fa,fa,fa,fa] rfl rfl (any_of HT_.out (by kernel_rfl)) (fun _ _ _ h => h) (Or.inl ⟨by rfl, ?_⟩) ?_ ?_
                 rotate_left
                 ·intro w'
                  go_simp
                  with_reducible rfl
                 rotate_left
                 ·simp only [sP]
                  rfl
                 refine pure_ (i := 20) (N := some 93) (v := ?_) (a' := ?_) #[tr,tr,tr,tr,tr,tr,tr,tr,tr,tr,tr,tr,tr,tr,tr,tr,tr,fa,tr,tr,tr,fa,fa,fa,fa,fa,fa,fa] rfl rfl (any_of HT_.out (by kernel_rfl)) (fun _ _ _ h => h) (Or.inl ⟨by rfl, ?_⟩) ?_ ?_
                 rotate_left
                 ·intro w'
                  go_simp
                  with_reducible rfl
                 rotate_left
                 ·simp only [sP]
                  rfl
                 refine pure_ (i := 21) (N := some 94) (v := ?_) (a' := ?_) #[tr,tr,tr,tr,tr,tr,tr,tr,tr,tr,tr,tr,tr,tr,tr,tr,tr,fa,tr,tr,tr,tr,fa,fa,fa,fa,fa,fa] rfl rfl (any_of HT_.out (by kernel_rfl)) (fun _ _ _ h => h) (Or.inl ⟨by rfl, ?_⟩) ?_ ?_
                 rotate_left
                 ·intro w'
                  go_simp
                  with_reducible rfl
                 rotate_left
                 ·simp only [sP]
                  rfl
                 refine pure_ (i := 22) (N := some 95) (v := ?_) (a' := ?_) #[tr,tr,tr,tr,tr,tr,tr,tr,tr,tr,tr,tr,tr,tr,tr,tr,tr,fa,tr,tr,tr,tr,tr,fa,fa,fa,fa,fa] rfl rfl (any_of HT_.out (by kernel_rfl)) (fun _ _ _ h => h) (Or.inl ⟨by rfl, ?_⟩) ?_ ?_
                 rotate_left
                 ·intro w'
                  go_simp
                  with_reducible rfl
                 rotate_left
                 ·simp only [sP]
                  rfl
                 refine take_ (i := 17) (N := some 90) (v := ?_) (a' := ?_) #[tr,tr,tr,tr,tr,tr,tr,tr,tr,tr,tr,tr,tr,tr,tr,tr,tr,tr,tr,tr,tr,tr,tr,fa,fa,fa,fa,fa] rfl rfl (take_ofW HT_.out HW_.out (by kernel_rfl)) (fun _ _ _ h => h) (Or.inl ⟨by rfl, ?_⟩) hHeld ?_ ?_
                 rotate_left
                 ·rintro w' ⟨s0, s1, s2, s3, s4, s5, s6, s7, s8, s9, s10, s11⟩
                  go_simp
                  with_reducible rfl
                 rotate_left
                 ·simp only [sP]
                  rfl
                 refine take_ (i := 23) (N := some 96) (v := ?_) (a' := ?_) #[tr,tr,tr,tr,tr,tr,tr,tr,tr,tr,tr,tr,tr,tr,tr,tr,tr,tr,tr,tr,tr,tr,tr,tr,fa,fa,fa,fa] rfl rfl (take_ofW HT_.out HW_.out (by kernel_rfl)) (fun _ _ _ h => h) (Or.inl ⟨by rfl, ?_⟩) hHeld ?_ ?_
                 rotate_left
                 ·rintro w' ⟨s0, s1, s2, s3, s4, s5, s6, s7, s8, s9, s10, s11⟩
                  go_simp
                  with_reducible rfl
                 rotate_left
                 ·simp only [sP]
                  rfl
                 refine pure_ (i := 24) (N := some 97) (v := ?_) (a' := ?_) #[tr,tr,tr,tr,tr,tr,tr,tr,tr,tr,tr,tr,tr,tr,tr,tr,tr,tr,tr,tr,tr,tr,tr,tr,tr,fa,fa,fa] rfl rfl (any_of HT_.out (by kernel_rfl)) (fun _ _ _ h => h) (Or.inl ⟨by rfl, ?_⟩) ?_ ?_
                 rotate_left
                 ·intro w'
                  go_simp
                  with_reducible rfl
                 rotate_left
                 ·simp only [sP]
                  rfl
                 refine pure_ (i := 25) (N := some 98) (v := ?_) (a' := ?_) #[tr,tr,tr,tr,tr,tr,tr,tr,tr,tr,tr,tr,tr,tr,tr,tr,tr,tr,tr,tr,tr,tr,tr,tr,tr,tr,fa,fa] rfl rfl (any_of HT_.out (by kernel_rfl)) (fun _ _ _ h => h) (Or.inl ⟨by rfl, ?_⟩) ?_ ?_
                 rotate_left
                 ·intro w'
                  go_simp
                  with_reducible rfl
                 rotate_left
                 ·simp only [sP]
                  rfl
                 refine pure_ (i := 26) (N := some 99) (v := ?_) (a' := ?_) #[tr,tr,tr,tr,tr,tr,tr,tr,tr,tr,tr,tr,tr,tr,tr,tr,tr,tr,tr,tr,tr,tr,tr,tr,tr,tr,tr,fa] rfl rfl (any_of HT_.out (by kernel_rfl)) (fun _ _ _ h => h) (Or.inl ⟨by rfl, ?_⟩) ?_ ?_
                 rotate_left
                 ·intro w'
                  go_simp
                  with_reducible rfl
                 rotate_left
                 ·simp only [sP]
                  rfl
                 refine pure_ (i := 27) (N := some 72) (v := ?_) (a' := ?_) #[tr,tr,tr,tr,tr,tr,tr,tr,tr,tr,tr,tr,tr,tr,tr,tr,tr,tr,tr,tr,tr,tr,tr,tr,tr,tr,tr,tr] rfl rfl (any_of HT_.out (by kernel_rfl)) (fun _ _ _ h => h) (Or.inl ⟨by rfl, ?_⟩) ?_ ?_
                 rotate_left
                 ·intro w'
                  go_simp
                  with_reducible rfl
                 rotate_left
                 ·simp only [sP]
                  rfl
                 refine done_ (done_of HT_.out (by kernel_rfl)) ?_
                 try go_wp2
                 go_ret
                 exact ⟨by first | rfl | (simp [errW_none, errW_some] <;> rfl) | (simp only [← hji49]; first | rfl | (simp [errW_none, errW_some] <;> rfl)) | (simp [*, errW_none, errW_some] <;> rfl), bw2 HB.out GE135.out GE140.out⟩
                ·rw [if_neg c53] at H
                 have c53b0 : (((rd_T34 l1 x45_2).f1.f0) == ((rd_T34 l1 (ji49)).f1.f0) && (((rd_T34 l1 x45_2).f1.f1) == ((rd_T34 l1 (ji49)).f1.f1))) = false := by simpa using c53
                 (try (have c53b1 : decide (((rd_T34 l1 x45_2).f1.f0) = ((rd_T34 l1 (ji49)).f1.f0) && (((rd_T34 l1 x45_2).f1.f1) == ((rd_T34 l1 (ji49)).f1.f1))) = false := by simpa using c53))
                 (try (have c53b2 : (((rd_T34 l1 x45_2).f1.f0) == ((rd_T34 l1 (ji49)).f1.f0) && (((rd_T34 l1 x45_2).f1.f1) == ((rd_T34 l1 (ji49)).f1.f1))) = false := by simpa using c53))
                 (try (have c53b3 : ¬ (((rd_T34 l1 x45_2).f1.f0) = ((rd_T34 l1 (ji49)).f1.f0) && (((rd_T34 l1 x45_2).f1.f1) == ((rd_T34 l1 (ji49)).f1.f1))) := by simpa using c53))
                 clear c53
                 have H' := Ax H
                 clear H
                 try go_wp2
                 replace BK135 := Ax (blk_drew BK135.out)
                 replace BK140 := Ax (blk_drew BK140.out)
                 replace HB := Ax (below_drew1 HB.out)
                 have p142 : 0 ≤ ((ji49) : Int) := of_decide_eq_true (by first | (with_reducible assumption) | assumption)
                 have q142 : (ji49) < (l1.length : Int) := of_decide_eq_true (by first | (with_reducible assumption) | assumption)
                 obtain ⟨ad142, e142, hx142_0, hx142_1, hx142_2, hx142_3⟩ := at_T34 HR1.out (ji49) p142 q142
                 have hw142_3 := hx142_3
                 have hw142_2 := hx142_2
                 have hw142_1 := hx142_1
                 have hw142_0 := hx142_0
                 obtain rfl : ad139 = ad142 := (by injection e142)
                 replace hx142_0 := (HB.out.cell (World.block_lt_of_cell? w _ hx142_0)).trans hx142_0
                 replace hx142_1 := (HB.out.cell (World.block_lt_of_cell? w _ hx142_1)).trans hx142_1
                 replace hx142_2 := (HB.out.cell (World.block_lt_of_cell? w _ hx142_2)).trans hx142_2
                 replace hx142_3 := (HB.out.cell (World.block_lt_of_cell? w _ hx142_3)).trans hx142_3
                 replace p142 := eq_true p142
                 replace q142 := eq_true q142
                 have p143 : 0 ≤ ((ji49) : Int) := of_decide_eq_true (by first | (with_reducible assumption) | assumption)
                 have q143 : (ji49) < (l1.length : Int) := of_decide_eq_true (by first | (with_reducible assumption) | assumption)
                 obtain ⟨ad143, e143, hx143_0, hx143_1, hx143_2, hx143_3⟩ := at_T34 HR1.out (ji49) p143 q143
                 have hw143_3 := hx143_3
                 have hw143_2 := hx143_2
                 have hw143_1 := hx143_1
                 have hw143_0 := hx143_0
                 obtain rfl : ad139 = ad143 := (by injection e143)
                 replace hx143_0 := (HB.out.cell (World.block_lt_of_cell? w _ hx143_0)).trans hx143_0
                 replace hx143_1 := (HB.out.cell (World.block_lt_of_cell? w _ hx143_1)).trans hx143_1
                 replace hx143_2 := (HB.out.cell (World.block_lt_of_cell? w _ hx143_2)).trans hx143_2
                 replace hx143_3 := (HB.out.cell (World.block_lt_of_cell? w _ hx143_3)).trans hx143_3
                 replace p143 := eq_true p143
                 replace q143 := eq_true q143
                 refine start_ (n := 28) (S := fun w' => w'.cell? ⟨gb140, 0, none⟩ = some (.int .i64 ((rd_T34 l1 x45_2).f0.f0)) ∧ w'.cell? ⟨gb140, 1, none⟩ = some (.int .i64 ((rd_T34 l1 x45_2).f0.f1)) ∧ w'.cell? ⟨gb140, 2, none⟩ = some (.int .u8 ((rd_T34 l1 x45_2).f1.f0)) ∧ w'.cell? ⟨gb140, 3, none⟩ = some (.int .i64 ((rd_T34 l1 x45_2).f1.f1)) ∧ w'.cell? (ad139.add (((ji49)).toNat * 4)) = some (.int .i64 ((rd_T34 l1 (ji49)).f0.f0)) ∧ w'.cell? ⟨(ad139.add (((ji49)).toNat * 4)).block, (ad139.add (((ji49)).toNat * 4)).off + 1, none⟩ = some (.int .i64 ((rd_T34 l1 (ji49)).f0.f1)) ∧ w'.cell? ⟨(ad139.add (((ji49)).toNat * 4)).block, (ad139.add (((ji49)).toNat * 4)).off + 2, none⟩ = some (.int .u8 ((rd_T34 l1 (ji49)).f1.f0)) ∧ w'.cell? ⟨(ad139.add (((ji49)).toNat * 4)).block, (ad139.add (((ji49)).toNat * 4)).off + 3, none⟩ = some (.int .i64 ((rd_T34 l1 (ji49)).f1.f1)) ∧ w'.cell? (ad139.add (((ji49)).toNat * 4)) = some (.int .i64 ((rd_T34 l1 (ji49)).f0.f0)) ∧ w'.cell? ⟨(ad139.add (((ji49)).toNat * 4)).block, (ad139.add (((ji49)).toNat * 4)).off + 1, none⟩ = some (.int .i64 ((rd_T34 l1 (ji49)).f0.f1)) ∧ w'.cell? ⟨(ad139.add (((ji49)).toNat * 4)).block, (ad139.add (((ji49)).toNat * 4)).off + 2, none⟩ = some (.int .u8 ((rd_T34 l1 (ji49)).f1.f0)) ∧ w'.cell? ⟨(ad139.add (((ji49)).toNat * 4)).block, (ad139.add (((ji49)).toNat * 4)).off + 3, none⟩ = some (.int .i64 ((rd_T34 l1 (ji49)).f1.f1))) (ds := []) #[fa,fa,fa,fa,fa,fa,fa,fa,fa,fa,fa,fa,fa,fa,fa,fa,fa,fa,fa,fa,fa,fa,fa,fa,fa,fa,fa,fa] (by kernel_rfl) rfl rfl ⟨(blk_cell BK140.out 0).trans rfl, (blk_cell BK140.out 1).trans rfl, (blk_cell BK140.out 2).trans rfl, (blk_cell BK140.out 3).trans rfl, ((HB.out.cell (World.block_lt_of_cell? w _ hw142_0)).trans hw142_0), ((HB.out.cell (World.block_lt_of_cell? w _ hw142_1)).trans hw142_1), ((HB.out.cell (World.block_lt_of_cell? w _ hw142_2)).trans hw142_2), ((HB.out.cell (World.block_lt_of_cell? w _ hw142_3)).trans hw142_3), ((HB.out.cell (World.block_lt_of_cell? w _ hw143_0)).trans hw143_0), ((HB.out.cell (World.block_lt_of_cell? w _ hw143_1)).trans hw143_1), ((HB.out.cell (World.block_lt_of_cell? w _ hw143_2)).trans hw143_2), ((HB.out.cell (World.block_lt_of_cell? w _ hw143_3)).trans hw143_3)⟩ (fun hHeld => ?_); refine with_tabW line_Check.tab9 line_Check.bits9 (fun HT_ HW_ => ?_)
                 generalize wc.drew = w55 at BK135 BK140 HB hx142_0 hx142_1 hx142_2 hx142_3 hx143_0 hx143_1 hx143_2 hx143_3 hHeld ⊢
                 refine pure_ (i := 0) (N := some 73) (v := ?_) (a' := ?_) #[tr,fa,fa,fa,fa,fa,fa,fa,fa,fa,fa,fa,fa,fa,fa,fa,fa,fa,fa,fa,fa,fa,fa,fa,fa,fa,fa,fa] rfl rfl (any_of HT_.out (by kernel_rfl)) (fun _ _ _ h => h) (Or.inl ⟨by rfl, ?_⟩) ?_ ?_
                 rotate_left
                 ·intro w'
                  go_simp
                  with_reducible rfl
                 rotate_left
                 ·simp only [sP]
                  rfl
                 refine pure_ (i := 1) (N := some 74) (v := ?_) (a' := ?_) #[tr,tr,fa,fa,fa,fa,fa,fa,fa,fa,fa,fa,fa,fa,fa,fa,fa,fa,fa,fa,fa,fa,fa,fa,fa,fa,fa,fa] rfl rfl (any_of HT_.out (by kernel_rfl)) (fun _ _ _ h => h) (Or.inl ⟨by rfl, ?_⟩) ?_ ?_
                 rotate_left
                 ·intro w'
                  go_simp
                  with_reducible rfl
                 rotate_left
                 ·simp only [sP]
                  rfl
                 refine pure_ (i := 2) (N := some 75) (v := ?_) (a' := ?_) #[tr,tr,tr,fa,fa,fa,fa,fa,fa,fa,fa,fa,fa,fa,fa,fa,fa,fa,fa,fa,fa,fa,fa,fa,fa,fa,fa,fa] rfl rfl (any_of HT_.out (by kernel_rfl)) (fun _ _ _ h => h) (Or.inl ⟨by rfl, ?_⟩) ?_ ?_
                 rotate_left
                 ·intro w'
                  go_simp
                  with_reducible rfl
                 rotate_left
                 ·simp only [sP]
                  rfl
                 refine pure_ (i := 3) (N := some 76) (v := ?_) (a' := ?_) #[tr,tr,tr,tr,fa,fa,fa,fa,fa,fa,fa,fa,fa,fa,fa,fa,fa,fa,fa,fa,fa,fa,fa,fa,fa,fa,fa,fa] rfl rfl (any_of HT_.out (by kernel_rfl)) (fun _ _ _ h => h) (Or.inl ⟨by rfl, ?_⟩) ?_ ?_
                 rotate_left
                 ·intro w'
                  go_simp
                  with_reducible rfl
                 rotate_left
                 ·simp only [sP]
                  rfl
                 refine pure_ (i := 4) (N := some 77) (v := ?_) (a' := ?_) #[tr,tr,tr,tr,tr,fa,fa,fa,fa,fa,fa,fa,fa,fa,fa,fa,fa,fa,fa,fa,fa,fa,fa,fa,fa,fa,fa,fa] rfl rfl (any_of HT_.out (by kernel_rfl)) (fun _ _ _ h => h) (Or.inl ⟨by rfl, ?_⟩) ?_ ?_
                 rotate_left
                 ·intro w'
                  go_simp
                  with_reducible rfl
                 rotate_left
                 ·simp only [sP]
                  rfl
                 refine pure_ (i := 7) (N := some 80) (v := ?_) (a' := ?_) #[tr,tr,tr,tr,tr,fa,fa,tr,fa,fa,fa,fa,fa,fa,fa,fa,fa,fa,fa,fa,fa,fa,fa,fa,fa,fa,fa,fa] rfl rfl (any_of HT_.out (by kernel_rfl)) (fun _ _ _ h => h) (Or.inl ⟨by rfl, ?_⟩) ?_ ?_
                 rotate_left
                 ·intro w'
                  go_simp
                  with_reducible rfl
                 rotate_left
                 ·simp only [sP]
                  rfl
                 refine pure_ (i := 8) (N := some 81) (v := ?_) (a' := ?_) #[tr,tr,tr,tr,tr,fa,fa,tr,tr,fa,fa,fa,fa,fa,fa,fa,fa,fa,fa,fa,fa,fa,fa,fa,fa,fa,fa,fa] rfl rfl (any_of HT_.out (by kernel_rfl)) (fun _ _ _ h => h) (Or.inl ⟨by rfl, ?_⟩) ?_ ?_
                 rotate_left
                 ·intro w'
                  go_simp
                  with_reducible rfl
                 rotate_left
                 ·simp only [sP]
                  rfl
                 refine pure_ (i := 9) (N := some 82) (v := ?_) (a' := ?_) #[tr,tr,tr,tr,tr,fa,fa,tr,tr,tr,fa,fa,fa,fa,fa,fa,fa,fa,fa,fa,fa,fa,fa,fa,fa,fa,fa,fa] rfl rfl (any_of HT_.out (by kernel_rfl)) (fun _ _ _ h => h) (Or.inl ⟨by rfl, ?_⟩) ?_ ?_
                 rotate_left
                 ·intro w'
                  go_simp
                  with_reducible rfl
                 rotate_left
                 ·simp only [sP]
                  rfl
                 refine pure_ (i := 10) (N := some 83) (v := ?_) (a' := ?_) #[tr,tr,tr,tr,tr,fa,fa,tr,tr,tr,tr,fa,fa,fa,fa,fa,fa,fa,fa,fa,fa,fa,fa,fa,fa,fa,fa,fa] rfl rfl (any_of HT_.out (by kernel_rfl)) (fun _ _ _ h => h) (Or.inl ⟨by rfl, ?_⟩) ?_ ?_
                 rotate_left
                 ·intro w'
                  go_simp
                  with_reducible rfl
                 rotate_left
                 ·simp only [sP]
                  rfl
                 refine pure_ (i := 11) (N := some 84) (v := ?_) (a' := ?_) #[tr,tr,tr,tr,tr,fa,fa,tr,tr,tr,tr,tr,fa,fa,fa,fa,fa,fa,fa,fa,fa,fa,fa,fa,fa,fa,fa,fa] rfl rfl (any_of HT_.out (by kernel_rfl)) (fun _ _ _ h => h) (Or.inl ⟨by rfl, ?_⟩) ?_ ?_
                 rotate_left
                 ·intro w'
                  go_simp
                  with_reducible rfl
                 rotate_left
                 ·simp only [sP]
                  rfl
                 refine pure_ (i := 12) (N := some 85) (v := ?_) (a' := ?_) #[tr,tr,tr,tr,tr,fa,fa,tr,tr,tr,tr,tr,tr,fa,fa,fa,fa,fa,fa,fa,fa,fa,fa,fa,fa,fa,fa,fa] rfl rfl (any_of HT_.out (by kernel_rfl)) (fun _ _ _ h => h) (Or.inl ⟨by rfl, ?_⟩) ?_ ?_
                 rotate_left
                 ·intro w'
                  go_simp
                  with_reducible rfl
                 rotate_left
                 ·simp only [sP]
                  rfl
                 refine take_ (i := 5) (N := some 78) (v := ?_) (a' := ?_) #[tr,tr,tr,tr,tr,tr,fa,tr,tr,tr,tr,tr,tr,fa,fa,fa,fa,fa,fa,fa,fa,fa,fa,fa,fa,fa,fa,fa] rfl rfl (take_ofW HT_.out HW_.out (by kernel_rfl)) (fun _ _ _ h => h) (Or.inl ⟨by rfl, ?_⟩) hHeld ?_ ?_
                 rotate_left
                 ·rintro w' ⟨s0, s1, s2, s3, s4, s5, s6, s7, s8, s9, s10, s11⟩
                  go_simp
                  with_reducible rfl
                 rotate_left
                 ·simp only [sP]
                  rfl
                 refine pure_ (i := 6) (N := some 79) (v := ?_) (a' := ?_) #[tr,tr,tr,tr,tr,tr,tr,tr,tr,tr,tr,tr,tr,fa,fa,fa,fa,fa,fa,fa,fa,fa,fa,fa,fa,fa,fa,fa] rfl rfl (any_of HT_.out (by kernel_rfl)) (fun _ _ _ h => h) (Or.inl ⟨by rfl, ?_⟩) ?_ ?_
                 rotate_left
                 ·intro w'
                  go_simp
                  with_reducible rfl
                 rotate_left
                 ·simp only [sP]
                  rfl
                 refine take_ (i := 13) (N := some 86) (v := ?_) (a' := ?_) #[tr,tr,tr,tr,tr,tr,tr,tr,tr,tr,tr,tr,tr,tr,fa,fa,fa,fa,fa,fa,fa,fa,fa,fa,fa,fa,fa,fa] rfl rfl (take_ofW HT_.out HW_.out (by kernel_rfl)) (fun _ _ _ h => h) (Or.inl ⟨by rfl, ?_⟩) hHeld ?_ ?_
                 rotate_left
                 ·rintro w' ⟨s0, s1, s2, s3, s4, s5, s6, s7, s8, s9, s10, s11⟩
                  go_simp
                  with_reducible rfl
                 rotate_left
                 ·simp only [sP]
                  rfl
                 refine pure_ (i := 14) (N := some 87) (v := ?_) (a' := ?_) #[tr,tr,tr,tr,tr,tr,tr,tr,tr,tr,tr,tr,tr,tr,tr,fa,fa,fa,fa,fa,fa,fa,fa,fa,fa,fa,fa,fa] rfl rfl (any_of HT_.out (by kernel_rfl)) (fun _ _ _ h => h) (Or.inl ⟨by rfl, ?_⟩) ?_ ?_
                 rotate_left
                 ·intro w'
                  go_simp
                  with_reducible rfl
                 rotate_left
                 ·simp only [sP]
                  rfl
                 refine pure_ (i := 15) (N := some 88) (v := ?_) (a' := ?_) #[tr,tr,tr,tr,tr,tr,tr,tr,tr,tr,tr,tr,tr,tr,tr,tr,fa,fa,fa,fa,fa,fa,fa,fa,fa,fa,fa,fa] rfl rfl (any_of HT_.out (by kernel_rfl)) (fun _ _ _ h => h) (Or.inl ⟨by rfl, ?_⟩) ?_ ?_
                 rotate_left
                 ·intro w'
                  go_simp
                  with_reducible rfl
                 rotate_left
                 ·simp only [sP]
                  rfl
                 refine pure_ (i := 16) (N := some 89) (v := ?_) (a' := ?_) #[tr,tr,tr,tr,tr,tr,tr,tr,tr,tr,tr,tr,tr,tr,tr,tr,tr,fa,fa,fa,fa,fa,fa,fa,fa,fa,fa,fa] rfl rfl (any_of HT_.out (by kernel_rfl)) (fun _ _ _ h => h) (Or.inl ⟨by rfl, ?_⟩) ?_ ?_
                 rotate_left
                 ·intro w'
                  go_simp
                  with_reducible rfl
                 rotate_left
                 ·simp only [sP]
                  rfl
                 refine pure_ (i := 18) (N := some 91) (v := ?_) (a' := ?_) #[tr,tr,tr,tr,tr,tr,tr,tr,tr,tr,tr,tr,tr,tr,tr,tr,tr,fa,tr,fa,fa,fa,fa,fa,fa,fa,fa,fa] rfl rfl (any_of HT_.out (by kernel_rfl)) (fun _ _ _ h => h) (Or.inl ⟨by rfl, ?_⟩) ?_ ?_
                 rotate_left
                 ·intro w'
                  go_simp
                  with_reducible rfl
                 rotate_left
                 ·simp only [sP]
                  rfl
                 refine pure_ (i := 19) (N := some 92) (v := ?_) (a' := ?_) #[tr,tr,tr,tr,tr,tr,tr,tr,tr,tr,tr,tr,tr,tr,tr,tr,tr,fa,tr,tr,fa,fa,fa,fa,fa,fa,fa,fa] rfl rfl (any_of HT_.out (by kernel_rfl)) (fun _ _ _ h => h) (Or.inl ⟨by rfl, ?_⟩) ?_ ?_
                 rotate_left
                 ·intro w'
                  go_simp
                  with_reducible rfl
                 rotate_left
                 ·simp only [sP]
                  rfl
                 refine pure_ (i := 20) (N := some 93) (v := ?_) (a' := ?_) #[tr,tr,tr,tr,tr,tr,tr,tr,tr,tr,tr,tr,tr,tr,tr,tr,tr,fa,tr,tr,tr,fa,fa,fa,fa,fa,fa,fa] rfl rfl (any_of HT_.out (by kernel_rfl)) (fun _ _ _ h => h) (Or.inl ⟨by rfl, ?_⟩) ?_ ?_
                 rotate_left
                 ·intro w'
                  go_simp
                  with_reducible rfl
                 rotate_left
                 ·simp only [sP]
                  rfl
                 refine pure_ (i := 21) (N := some 94) (v := ?_) (a' := ?_) #[tr,tr,tr,tr,tr,tr,tr,tr,tr,tr,tr,tr,tr,tr,tr,tr,tr,fa,tr,tr,tr,tr,fa,fa,fa,fa,fa,fa] rfl rfl (any_of HT_.out (by kernel_rfl)) (fun _ _ _ h => h) (Or.inl ⟨by rfl, ?_⟩) ?_ ?_
                 rotate_left
                 ·intro w'
                  go_simp
                  with_reducible rfl
                 rotate_left
                 ·simp only [sP]
                  rfl
                 refine pure_ (i := 22) (N := some 95) (v := ?_) (a' := ?_) #[tr,tr,tr,tr,tr,tr,tr,tr,tr,tr,tr,tr,tr,tr,tr,tr,tr,fa,tr,tr,tr,tr,tr,fa,fa,fa,fa,fa] rfl rfl (any_of HT_.out (by kernel_rfl)) (fun _ _ _ h => h) (Or.inl ⟨by rfl, ?_⟩) ?_ ?_
                 rotate_left
                 ·intro w'
                  go_simp
                  with_reducible rfl
                 rotate_left
                 ·simp only [sP]
                  rfl
                 refine take_ (i := 17) (N := some 90) (v := ?_) (a' := ?_) #[tr,tr,tr,tr,tr,tr,tr,tr,tr,tr,tr,tr,tr,tr,tr,tr,tr,tr,tr,tr,tr,tr,tr,fa,fa,fa,fa,fa] rfl rfl (take_ofW HT_.out HW_.out (by kernel_rfl)) (fun _ _ _ h => h) (Or.inl ⟨by rfl, ?_⟩) hHeld ?_ ?_
                 rotate_left
                 ·rintro w' ⟨s0, s1, s2, s3, s4, s5, s6, s7, s8, s9, s10, s11⟩
                  go_simp
                  with_reducible rfl
                 rotate_left
                 ·simp only [sP]
                  rfl
                 refine take_ (i := 23) (N := some 96) (v := ?_) (a' := ?_) #[tr,tr,tr,tr,tr,tr,tr,tr,tr,tr,tr,tr,tr,tr,tr,tr,tr,tr,tr,tr,tr,tr,tr,tr,fa,fa,fa,fa] rfl rfl (take_ofW HT_.out HW_.out (by kernel_rfl)) (fun _ _ _ h => h) (Or.inl ⟨by rfl, ?_⟩) hHeld ?_ ?_
                 rotate_left
                 ·rintro w' ⟨s0, s1, s2, s3, s4, s5, s6, s7, s8, s9, s10, s11⟩
                  go_simp
                  with_reducible rfl
                 rotate_left
                 ·simp only [sP]
                  rfl
                 refine pure_ (i := 24) (N := some 97) (v := ?_) (a' := ?_) #[tr,tr,tr,tr,tr,tr,tr,tr,tr,tr,tr,tr,tr,tr,tr,tr,tr,tr,tr,tr,tr,tr,tr,tr,tr,fa,fa,fa] rfl rfl (any_of HT_.out (by kernel_rfl)) (fun _ _ _ h => h) (Or.inl ⟨by rfl, ?_⟩) ?_ ?_
                 rotate_left
                 ·intro w'
                  go_simp
                  with_reducible rfl
                 rotate_left
                 ·simp only [sP]
                  rfl
                 refine pure_ (i := 25) (N := some 98) (v := ?_) (a' := ?_) #[tr,tr,tr,tr,tr,tr,tr,tr,tr,tr,tr,tr,tr,tr,tr,tr,tr,tr,tr,tr,tr,tr,tr,tr,tr,tr,fa,fa] rfl rfl (any_of HT_.out (by kernel_rfl)) (fun _ _ _ h => h) (Or.inl ⟨by rfl, ?_⟩) ?_ ?_
                 rotate_left
                 ·intro w'
                  go_simp
                  with_reducible rfl
                 rotate_left
                 ·simp only [sP]
                  rfl
                 refine pure_ (i := 26) (N := some 99) (v := ?_) (a' := ?_) #[tr,tr,tr,tr,tr,tr,tr,tr,tr,tr,tr,tr,tr,tr,tr,tr,tr,tr,tr,tr,tr,tr,tr,tr,tr,tr,tr,fa] rfl rfl (any_of HT_.out (by kernel_rfl)) (fun _ _ _ h => h) (Or.inl ⟨by rfl, ?_⟩) ?_ ?_
                 rotate_left
                 ·intro w'
                  go_simp
                  with_reducible rfl
                 rotate_left
                 ·simp only [sP]
                  rfl
                 refine pure_ (i := 27) (N := some 72) (v := ?_) (a' := ?_) #[tr,tr,tr,tr,tr,tr,tr,tr,tr,tr,tr,tr,tr,tr,tr,tr,tr,tr,tr,tr,tr,tr,tr,tr,tr,tr,tr,tr] rfl rfl (any_of HT_.out (by kernel_rfl)) (fun _ _ _ h => h) (Or.inl ⟨by rfl, ?_⟩) ?_ ?_
                 rotate_left
                 ·intro w'
                  go_simp
                  with_reducible rfl
                 rotate_left
                 ·simp only [sP]
                  rfl
                 refine done_ (done_of HT_.out (by kernel_rfl)) ?_
                 try go_wp2
                 go_roundg kj27
                 case measure => have := HJ2.out; have := HK2.out; have := HJ27.out; omega
                 case rel => exact ⟨(wrap64 (x45_2 + 1)), rS, H', ⟨by have := HJ2.out; have := HK2.out; have := HJ27.out; omega⟩, ⟨bf0 BK135.out⟩, ⟨bw2 HB.out GE135.out GE140.out⟩⟩
               ·rw [if_neg c52] at H
                have c52b0 : ((wrap64 (((rd_T34 l1 x45_2).f0.f0) - 1)) == ((rd_T34 l1 (ji49)).f0.f1)) = false := beq_eq_false_iff_ne.mpr c52
                have c52b1 : ((wrap64 (((rd_T34 l1 x45_2).f0.f0) - 1)) != ((rd_T34 l1 (ji49)).f0.f1)) = true := bne_iff_ne.mpr c52
                obtain rfl := Option.some.inj H
                try go_wp2
                replace BK135 := Ax (blk_drew BK135.out)
                replace BK140 := Ax (blk_drew BK140.out)
                replace HB := Ax (below_drew1 HB.out)
                have p142 : 0 ≤ ((ji49) : Int) := of_decide_eq_true (by first | (with_reducible assumption) | assumption)
                have q142 : (ji49) < (l1.length : Int) := of_decide_eq_true (by first | (with_reducible assumption) | assumption)
                obtain ⟨ad142, e142, hx142_0, hx142_1, hx142_2, hx142_3⟩ := at_T34 HR1.out (ji49) p142 q142
                have hw142_3 := hx142_3
                have hw142_2 := hx142_2
                have hw142_1 := hx142_1
                have hw142_0 := hx142_0
                obtain rfl : ad139 = ad142 := (by injection e142)
                replace hx142_0 := (HB.out.cell (World.block_lt_of_cell? w _ hx142_0)).trans hx142_0
                replace hx142_1 := (HB.out.cell (World.block_lt_of_cell? w _ hx142_1)).trans hx142_1
                replace hx142_2 := (HB.out.cell (World.block_lt_of_cell? w _ hx142_2)).trans hx142_2
                replace hx142_3 := (HB.out.cell (World.block_lt_of_cell? w _ hx142_3)).trans hx142_3
                replace p142 := eq_true p142
                replace q142 := eq_true q142
                refine start_ (n := 28) (S := fun w' => w'.cell? ⟨gb140, 0, none⟩ = some (.int .i64 ((rd_T34 l1 x45_2).f0.f0)) ∧ w'.cell? ⟨gb140, 1, none⟩ = some (.int .i64 ((rd_T34 l1 x45_2).f0.f1)) ∧ w'.cell? ⟨gb140, 2, none⟩ = some (.int .u8 ((rd_T34 l1 x45_2).f1.f0)) ∧ w'.cell? ⟨gb140, 3, none⟩ = some (.int .i64 ((rd_T34 l1 x45_2).f1.f1)) ∧ w'.cell? (ad139.add (((ji49)).toNat * 4)) = some (.int .i64 ((rd_T34 l1 (ji49)).f0.f0)) ∧ w'.cell? ⟨(ad139.add (((ji49)).toNat * 4)).block, (ad139.add (((ji49)).toNat * 4)).off + 1, none⟩ = some (.int .i64 ((rd_T34 l1 (ji49)).f0.f1)) ∧ w'.cell? ⟨(ad139.add (((ji49)).toNat * 4)).block, (ad139.add (((ji49)).toNat * 4)).off + 2, none⟩ = some (.int .u8 ((rd_T34 l1 (ji49)).f1.f0)) ∧ w'.cell? ⟨(ad139.add (((ji49)).toNat * 4)).block, (ad139.add (((ji49)).toNat * 4)).off + 3, none⟩ = some (.int .i64 ((rd_T34 l1 (ji49)).f1.f1))) (ds := []) #[fa,fa,fa,fa,fa,fa,fa,fa,fa,fa,fa,fa,fa,fa,fa,fa,fa,fa,fa,fa,fa,fa,fa,fa,fa,fa,fa,fa] (by kernel_rfl) rfl rfl ⟨(blk_cell BK140.out 0).trans rfl, (blk_cell BK140.out 1).trans rfl, (blk_cell BK140.out 2).trans rfl, (blk_cell BK140.out 3).trans rfl, ((HB.out.cell (World.block_lt_of_cell? w _ hw142_0)).trans hw142_0), ((HB.out.cell (World.block_lt_of_cell? w _ hw142_1)).trans hw142_1), ((HB.out.cell (World.block_lt_of_cell? w _ hw142_2)).trans hw142_2), ((HB.out.cell (World.block_lt_of_cell? w _ hw142_3)).trans hw142_3)⟩ (fun hHeld => ?_); refine with_tabW line_Check.tab9 line_Check.bits9 (fun HT_ HW_ => ?_)
                generalize wc.drew = w56 at BK135 BK140 HB hx142_0 hx142_1 hx142_2 hx142_3 hHeld ⊢
                refine pure_ (i := 0) (N := some 73) (v := ?_) (a' := ?_) #[tr,fa,fa,fa,fa,fa,fa,fa,fa,fa,fa,fa,fa,fa,fa,fa,fa,fa,fa,fa,fa,fa,fa,fa,fa,fa,fa,fa] rfl rfl (any_of HT_.out (by kernel_rfl)) (fun _ _ _ h => h) (Or.inl ⟨by rfl, ?_⟩) ?_ ?_
                rotate_left
                ·intro w'
                 go_simp
                 with_reducible rfl
                rotate_left
                ·simp only [sP]
                 rfl
                refine pure_ (i := 1) (N := some 74) (v := ?_) (a' := ?_) #[tr,tr,fa,fa,fa,fa,fa,fa,fa,fa,fa,fa,fa,fa,fa,fa,fa,fa,fa,fa,fa,fa,fa,fa,fa,fa,fa,fa] rfl rfl (any_of HT_.out (by kernel_rfl)) (fun _ _ _ h => h) (Or.inl ⟨by rfl, ?_⟩) ?_ ?_
                rotate_left
                ·intro w'
                 go_simp
                 with_reducible rfl
                rotate_left
                ·simp only [sP]
                 rfl
                refine pure_ (i := 2) (N := some 75) (v := ?_) (a' := ?_) #[tr,tr,tr,fa,fa,fa,fa,fa,fa,fa,fa,fa,fa,fa,fa,fa,fa,fa,fa,fa,fa,fa,fa,fa,fa,fa,fa,fa] rfl rfl (any_of HT_.out (by kernel_rfl)) (fun _ _ _ h => h) (Or.inl ⟨by rfl, ?_⟩) ?_ ?_
                rotate_left
                ·intro w'
                 go_simp
                 with_reducible rfl
                rotate_left
                ·simp only [sP]
                 rfl
                refine pure_ (i := 3) (N := some 76) (v := ?_) (a' := ?_) #[tr,tr,tr,tr,fa,fa,fa,fa,fa,fa,fa,fa,fa,fa,fa,fa,fa,fa,fa,fa,fa,fa,fa,fa,fa,fa,fa,fa] rfl rfl (any_of HT_.out (by kernel_rfl)) (fun _ _ _ h => h) (Or.inl ⟨by rfl, ?_⟩) ?_ ?_
                rotate_left
                ·intro w'
                 go_simp
                 with_reducible rfl
                rotate_left
                ·simp only [sP]
                 rfl
                refine pure_ (i := 4) (N := some 77) (v := ?_) (a' := ?_) #[tr,tr,tr,tr,tr,fa,fa,fa,fa,fa,fa,fa,fa,fa,fa,fa,fa,fa,fa,fa,fa,fa,fa,fa,fa,fa,fa,fa] rfl rfl (any_of HT_.out (by kernel_rfl)) (fun _ _ _ h => h) (Or.inl ⟨by rfl, ?_⟩) ?_ ?_
                rotate_left
                ·intro w'
                 go_simp
                 with_reducible rfl
                rotate_left
                ·simp only [sP]
                 rfl
                refine pure_ (i := 7) (N := some 80) (v := ?_) (a' := ?_) #[tr,tr,tr,tr,tr,fa,fa,tr,fa,fa,fa,fa,fa,fa,fa,fa,fa,fa,fa,fa,fa,fa,fa,fa,fa,fa,fa,fa] rfl rfl (any_of HT_.out (by kernel_rfl)) (fun _ _ _ h => h) (Or.inl ⟨by rfl, ?_⟩) ?_ ?_
                rotate_left
                ·intro w'
                 go_simp
                 with_reducible rfl
                rotate_left
                ·simp only [sP]
                 rfl
                refine pure_ (i := 8) (N := some 81) (v := ?_) (a' := ?_) #[tr,tr,tr,tr,tr,fa,fa,tr,tr,fa,fa,fa,fa,fa,fa,fa,fa,fa,fa,fa,fa,fa,fa,fa,fa,fa,fa,fa] rfl rfl (any_of HT_.out (by kernel_rfl)) (fun _ _ _ h => h) (Or.inl ⟨by rfl, ?_⟩) ?_ ?_
                rotate_left
                ·intro w'
                 go_simp
                 with_reducible rfl
                rotate_left
                ·simp only [sP]
                 rfl
                refine pure_ (i := 9) (N := some 82) (v := ?_) (a' := ?_) #[tr,tr,tr,tr,tr,fa,fa,tr,tr,tr,fa,fa,fa,fa,fa,fa,fa,fa,fa,fa,fa,fa,fa,fa,fa,fa,fa,fa] rfl rfl (any_of HT_.out (by kernel_rfl)) (fun _ _ _ h => h) (Or.inl ⟨by rfl, ?_⟩) ?_ ?_
                rotate_left
                ·intro w'
                 go_simp
                 with_reducible rfl
                rotate_left
                ·simp only [sP]
                 rfl
                refine pure_ (i := 10) (N := some 83) (v := ?_) (a' := ?_) #[tr,tr,tr,tr,tr,fa,fa,tr,tr,tr,tr,fa,fa,fa,fa,fa,fa,fa,fa,fa,fa,fa,fa,fa,fa,fa,fa,fa] rfl rfl (any_of HT_.out (by kernel_rfl)) (fun _ _ _ h => h) (Or.inl ⟨by rfl, ?_⟩) ?_ ?_
                rotate_left
                ·intro w'
                 go_simp
                 with_reducible rfl
                rotate_left
                ·simp only [sP]
                 rfl
                refine pure_ (i := 11) (N := some 84) (v := ?_) (a' := ?_) #[tr,tr,tr,tr,tr,fa,fa,tr,tr,tr,tr,tr,fa,fa,fa,fa,fa,fa,fa,fa,fa,fa,fa,fa,fa,fa,fa,fa] rfl rfl (any_of HT_.out (by kernel_rfl)) (fun _ _ _ h => h) (Or.inl ⟨by rfl, ?_⟩) ?_ ?_
                rotate_left
                ·intro w'
                 go_simp
                 with_reducible rfl
                rotate_left
                ·simp only [sP]
                 rfl
                refine pure_ (i := 12) (N := some 85) (v := ?_) (a' := ?_) #[tr,tr,tr,tr,tr,fa,fa,tr,tr,tr,tr,tr,tr,fa,fa,fa,fa,fa,fa,fa,fa,fa,fa,fa,fa,fa,fa,fa] rfl rfl (any_of HT_.out (by kernel_rfl)) (fun _ _ _ h => h) (Or.inl ⟨by rfl, ?_⟩) ?_ ?_
                rotate_left
                ·intro w'
                 go_simp
                 with_reducible rfl
                rotate_left
                ·simp only [sP]
                 rfl
                refine take_ (i := 5) (N := some 78) (v := ?_) (a' := ?_) #[tr,tr,tr,tr,tr,tr,fa,tr,tr,tr,tr,tr,tr,fa,fa,fa,fa,fa,fa,fa,fa,fa,fa,fa,fa,fa,fa,fa] rfl rfl (take_ofW HT_.out HW_.out (by kernel_rfl)) (fun _ _ _ h => h) (Or.inl ⟨by rfl, ?_⟩) hHeld ?_ ?_
                rotate_left
                ·rintro w' ⟨s0, s1, s2, s3, s4, s5, s6, s7⟩
                 go_simp
                 with_reducible rfl
                rotate_left
                ·simp only [sP]
                 rfl
                refine pure_ (i := 6) (N := some 79) (v := ?_) (a' := ?_) #[tr,tr,tr,tr,tr,tr,tr,tr,tr,tr,tr,tr,tr,fa,fa,fa,fa,fa,fa,fa,fa,fa,fa,fa,fa,fa,fa,fa] rfl rfl (any_of HT_.out (by kernel_rfl)) (fun _ _ _ h => h) (Or.inl ⟨by rfl, ?_⟩) ?_ ?_
                rotate_left
                ·intro w'
                 go_simp
                 with_reducible rfl
                rotate_left
                ·simp only [sP]
                 rfl
                refine take_ (i := 13) (N := some 86) (v := ?_) (a' := ?_) #[tr,tr,tr,tr,tr,tr,tr,tr,tr,tr,tr,tr,tr,tr,fa,fa,fa,fa,fa,fa,fa,fa,fa,fa,fa,fa,fa,fa] rfl rfl (take_ofW HT_.out HW_.out (by kernel_rfl)) (fun _ _ _ h => h) (Or.inl ⟨by rfl, ?_⟩) hHeld ?_ ?_
                rotate_left
                ·rintro w' ⟨s0, s1, s2, s3, s4, s5, s6, s7⟩
                 go_simp
                 with_reducible rfl
                rotate_left
                ·simp only [sP]
                 rfl
                refine pure_ (i := 14) (N := some 87) (v := ?_) (a' := ?_) #[tr,tr,tr,tr,tr,tr,tr,tr,tr,tr,tr,tr,tr,tr,tr,fa,fa,fa,fa,fa,fa,fa,fa,fa,fa,fa,fa,fa] rfl rfl (any_of HT_.out (by kernel_rfl)) (fun _ _ _ h => h) (Or.inl ⟨by rfl, ?_⟩) ?_ ?_
                rotate_left
                ·intro w'
                 go_simp
                 with_reducible rfl
                rotate_left
                ·simp only [sP]
                 rfl
                refine pure_ (i := 15) (N := some 88) (v := ?_) (a' := ?_) #[tr,tr,tr,tr,tr,tr,tr,tr,tr,tr,tr,tr,tr,tr,tr,tr,fa,fa,fa,fa,fa,fa,fa,fa,fa,fa,fa,fa] rfl rfl (any_of HT_.out (by kernel_rfl)) (fun _ _ _ h => h) (Or.inl ⟨by rfl, ?_⟩) ?_ ?_
                rotate_left
                ·intro w'
                 go_simp
                 with_reducible rfl
                rotate_left
                ·simp only [sP]
                 rfl
                refine pure_ (i := 16) (N := some 89) (v := undef) (a' := ?_) #[tr,tr,tr,tr,tr,tr,tr,tr,tr,tr,tr,tr,tr,tr,tr,tr,tr,fa,fa,fa,fa,fa,fa,fa,fa,fa,fa,fa] rfl rfl (any_of HT_.out (by kernel_rfl)) (fun _ _ _ h => h) (Or.inr ⟨by rfl, rfl⟩) ?_ ?_
                rotate_left
                ·simp only [sP]
                 rfl
                refine pure_ (i := 17) (N := some 90) (v := undef) (a' := ?_) #[tr,tr,tr,tr,tr,tr,tr,tr,tr,tr,tr,tr,tr,tr,tr,tr,tr,tr,fa,fa,fa,fa,fa,fa,fa,fa,fa,fa] rfl rfl (any_of HT_.out (by kernel_rfl)) (fun _ _ _ h => h) (Or.inr ⟨by rfl, rfl⟩) ?_ ?_
                rotate_left
                ·simp only [sP]
                 rfl
                refine pure_ (i := 18) (N := some 91) (v := undef) (a' := ?_) #[tr,tr,tr,tr,tr,tr,tr,tr,tr,tr,tr,tr,tr,tr,tr,tr,tr,tr,tr,fa,fa,fa,fa,fa,fa,fa,fa,fa] rfl rfl (any_of HT_.out (by kernel_rfl)) (fun _ _ _ h => h) (Or.inr ⟨by rfl, rfl⟩) ?_ ?_
                rotate_left
                ·simp only [sP]
                 rfl
                refine pure_ (i := 19) (N := some 92) (v := undef) (a' := ?_) #[tr,tr,tr,tr,tr,tr,tr,tr,tr,tr,tr,tr,tr,tr,tr,tr,tr,tr,tr,tr,fa,fa,fa,fa,fa,fa,fa,fa] rfl rfl (any_of HT_.out (by kernel_rfl)) (fun _ _ _ h => h) (Or.inr ⟨by rfl, rfl⟩) ?_ ?_
                rotate_left
                ·simp only [sP]
                 rfl
                refine pure_ (i := 20) (N := some 93) (v := undef) (a' := ?_) #[tr,tr,tr,tr,tr,tr,tr,tr,tr,tr,tr,tr,tr,tr,tr,tr,tr,tr,tr,tr,tr,fa,fa,fa,fa,fa,fa,fa] rfl rfl (any_of HT_.out (by kernel_rfl)) (fun _ _ _ h => h) (Or.inr ⟨by rfl, rfl⟩) ?_ ?_
                rotate_left
                ·simp only [sP]
                 rfl
                refine pure_ (i := 21) (N := some 94) (v := undef) (a' := ?_) #[tr,tr,tr,tr,tr,tr,tr,tr,tr,tr,tr,tr,tr,tr,tr,tr,tr,tr,tr,tr,tr,tr,fa,fa,fa,fa,fa,fa] rfl rfl (any_of HT_.out (by kernel_rfl)) (fun _ _ _ h => h) (Or.inr ⟨by rfl, rfl⟩) ?_ ?_
                rotate_left
                ·simp only [sP]
                 rfl
                refine pure_ (i := 22) (N := some 95) (v := undef) (a' := ?_) #[tr,tr,tr,tr,tr,tr,tr,tr,tr,tr,tr,tr,tr,tr,tr,tr,tr,tr,tr,tr,tr,tr,tr,fa,fa,fa,fa,fa] rfl rfl (any_of HT_.out (by kernel_rfl)) (fun _ _ _ h => h) (Or.inr ⟨by rfl, rfl⟩) ?_ ?_
                rotate_left
                ·simp only [sP]
                 rfl
                refine pure_ (i := 23) (N := some 96) (v := undef) (a' := ?_) #[tr,tr,tr,tr,tr,tr,tr,tr,tr,tr,tr,tr,tr,tr,tr,tr,tr,tr,tr,tr,tr,tr,tr,tr,fa,fa,fa,fa] rfl rfl (any_of HT_.out (by kernel_rfl)) (fun _ _ _ h => h) (Or.inr ⟨by rfl, rfl⟩) ?_ ?_
                rotate_left
                ·simp only [sP]
                 rfl
                refine pure_ (i := 24) (N := some 97) (v := undef) (a' := ?_) #[tr,tr,tr,tr,tr,tr,tr,tr,tr,tr,tr,tr,tr,tr,tr,tr,tr,tr,tr,tr,tr,tr,tr,tr,tr,fa,fa,fa] rfl rfl (any_of HT_.out (by kernel_rfl)) (fun _ _ _ h => h) (Or.inr ⟨by rfl, rfl⟩) ?_ ?_
                rotate_left
                ·simp only [sP]
                 rfl
                refine pure_ (i := 25) (N := some 98) (v := ?_) (a' := ?_) #[tr,tr,tr,tr,tr,tr,tr,tr,tr,tr,tr,tr,tr,tr,tr,tr,tr,tr,tr,tr,tr,tr,tr,tr,tr,tr,fa,fa] rfl rfl (any_of HT_.out (by kernel_rfl)) (fun _ _ _ h => h) (Or.inl ⟨by rfl, ?_⟩) ?_ ?_
                rotate_left
                ·intro w'
                 go_simp
                 with_reducible rfl
                rotate_left
                ·simp only [sP]
                 rfl
                refine pure_ (i := 26) (N := some 99) (v := ?_) (a' := ?_) #[tr,tr,tr,tr,tr,tr,tr,tr,tr,tr,tr,tr,tr,tr,tr,tr,tr,tr,tr,tr,tr,tr,tr,tr,tr,tr,tr,fa] rfl rfl (any_of HT_.out (by kernel_rfl)) (fun _ _ _ h => h) (Or.inl ⟨by rfl, ?_⟩) ?_ ?_
                rotate_left
                ·intro w'
                 go_simp
                 with_reducible rfl
                rotate_left
                ·simp only [sP]
                 rfl
                refine pure_ (i := 27) (N := some 72) (v := ?_) (a' := ?_) #[tr,tr,tr,tr,tr,tr,tr,tr,tr,tr,tr,tr,tr,tr,tr,tr,tr,tr,tr,tr,tr,tr,tr,tr,tr,tr,tr,tr] rfl rfl (any_of HT_.out (by kernel_rfl)) (fun _ _ _ h => h) (Or.inl ⟨by rfl, ?_⟩) ?_ ?_
                rotate_left
                ·intro w'
                 go_simp
                 with_reducible rfl
                rotate_left
                ·simp only [sP]
                 rfl
                refine done_ (done_of HT_.out (by kernel_rfl)) ?_
                try go_wp2
                go_ret
                exact ⟨by first | rfl | (simp [errW_none, errW_some] <;> rfl) | (simp only [← hji49]; first | rfl | (simp [errW_none, errW_some] <;> rfl)) | (simp [*, errW_none, errW_some] <;> rfl), bw2 HB.out GE135.out GE140.out⟩
              ·rw [if_neg c51] at H
               exact absurd H (by simp)
             ·rw [if_neg c50] at H
              exact absurd H (by simp)
            ·rw [if_neg c48] at H
             have c48b0 : decide (0 < x45_2) = false := decide_eq_false c48
             clear c48
             have H' := Ax H
             clear H
             try go_wp2
             replace BK135 := Ax (blk_drew BK135.out)
             replace BK140 := Ax (blk_drew BK140.out)
             replace HB := Ax (below_drew1 HB.out)
             refine start_ (n := 28) (S := fun w' => True) (ds := []) #[fa,fa,fa,fa,fa,fa,fa,fa,fa,fa,fa,fa,fa,fa,fa,fa,fa,fa,fa,fa,fa,fa,fa,fa,fa,fa,fa,fa] (by kernel_rfl) rfl rfl trivial (fun hHeld => ?_); refine with_tabW line_Check.tab9 line_Check.bits9 (fun HT_ HW_ => ?_)
             generalize wc.drew = w57 at BK135 BK140 HB hHeld ⊢
             refine pure_ (i := 0) (N := some 73) (v := ?_) (a' := ?_) #[tr,fa,fa,fa,fa,fa,fa,fa,fa,fa,fa,fa,fa,fa,fa,fa,fa,fa,fa,fa,fa,fa,fa,fa,fa,fa,fa,fa] rfl rfl (any_of HT_.out (by kernel_rfl)) (fun _ _ _ h => h) (Or.inl ⟨by rfl, ?_⟩) ?_ ?_
             rotate_left
             ·intro w'
              go_simp
              with_reducible rfl
             rotate_left
             ·simp only [sP]
              rfl
             refine pure_ (i := 1) (N := some 74) (v := ?_) (a' := ?_) #[tr,tr,fa,fa,fa,fa,fa,fa,fa,fa,fa,fa,fa,fa,fa,fa,fa,fa,fa,fa,fa,fa,fa,fa,fa,fa,fa,fa] rfl rfl (any_of HT_.out (by kernel_rfl)) (fun _ _ _ h => h) (Or.inl ⟨by rfl, ?_⟩) ?_ ?_
             rotate_left
             ·intro w'
              go_simp
              with_reducible rfl
             rotate_left
             ·simp only [sP]
              rfl
             refine pure_ (i := 2) (N := some 75) (v := ?_) (a' := ?_) #[tr,tr,tr,fa,fa,fa,fa,fa,fa,fa,fa,fa,fa,fa,fa,fa,fa,fa,fa,fa,fa,fa,fa,fa,fa,fa,fa,fa] rfl rfl (any_of HT_.out (by kernel_rfl)) (fun _ _ _ h => h) (Or.inl ⟨by rfl, ?_⟩) ?_ ?_
             rotate_left
             ·intro w'
              go_simp
              with_reducible rfl
             rotate_left
             ·simp only [sP]
              rfl
             refine pure_ (i := 3) (N := some 76) (v := undef) (a' := ?_) #[tr,tr,tr,tr,fa,fa,fa,fa,fa,fa,fa,fa,fa,fa,fa,fa,fa,fa,fa,fa,fa,fa,fa,fa,fa,fa,fa,fa] rfl rfl (any_of HT_.out (by kernel_rfl)) (fun _ _ _ h => h) (Or.inr ⟨by rfl, rfl⟩) ?_ ?_
             rotate_left
             ·simp only [sP]
              rfl
             refine pure_ (i := 4) (N := some 77) (v := undef) (a' := ?_) #[tr,tr,tr,tr,tr,fa,fa,fa,fa,fa,fa,fa,fa,fa,fa,fa,fa,fa,fa,fa,fa,fa,fa,fa,fa,fa,fa,fa] rfl rfl (any_of HT_.out (by kernel_rfl)) (fun _ _ _ h => h) (Or.inr ⟨by rfl, rfl⟩) ?_ ?_
             rotate_left
             ·simp only [sP]
              rfl
             refine pure_ (i := 5) (N := some 78) (v := undef) (a' := ?_) #[tr,tr,tr,tr,tr,tr,fa,fa,fa,fa,fa,fa,fa,fa,fa,fa,fa,fa,fa,fa,fa,fa,fa,fa,fa,fa,fa,fa] rfl rfl (any_of HT_.out (by kernel_rfl)) (fun _ _ _ h => h) (Or.inr ⟨by rfl, rfl⟩) ?_ ?_
             rotate_left
             ·simp only [sP]
              rfl
             refine pure_ (i := 6) (N := some 79) (v := undef) (a' := ?_) #[tr,tr,tr,tr,tr,tr,tr,fa,fa,fa,fa,fa,fa,fa,fa,fa,fa,fa,fa,fa,fa,fa,fa,fa,fa,fa,fa,fa] rfl rfl (any_of HT_.out (by kernel_rfl)) (fun _ _ _ h => h) (Or.inr ⟨by rfl, rfl⟩) ?_ ?_
             rotate_left
             ·simp only [sP]
              rfl
             refine pure_ (i := 7) (N := some 80) (v := undef) (a' := ?_) #[tr,tr,tr,tr,tr,tr,tr,tr,fa,fa,fa,fa,fa,fa,fa,fa,fa,fa,fa,fa,fa,fa,fa,fa,fa,fa,fa,fa] rfl rfl (any_of HT_.out (by kernel_rfl)) (fun _ _ _ h => h) (Or.inr ⟨by rfl, rfl⟩) ?_ ?_
             rotate_left
             ·simp only [sP]
              rfl
             refine pure_ (i := 8) (N := some 81) (v := undef) (a' := ?_) #[tr,tr,tr,tr,tr,tr,tr,tr,tr,fa,fa,fa,fa,fa,fa,fa,fa,fa,fa,fa,fa,fa,fa,fa,fa,fa,fa,fa] rfl rfl (any_of HT_.out (by kernel_rfl)) (fun _ _ _ h => h) (Or.inr ⟨by rfl, rfl⟩) ?_ ?_
             rotate_left
             ·simp only [sP]
              rfl
             refine pure_ (i := 9) (N := some 82) (v := undef) (a' := ?_) #[tr,tr,tr,tr,tr,tr,tr,tr,tr,tr,fa,fa,fa,fa,fa,fa,fa,fa,fa,fa,fa,fa,fa,fa,fa,fa,fa,fa] rfl rfl (any_of HT_.out (by kernel_rfl)) (fun _ _ _ h => h) (Or.inr ⟨by rfl, rfl⟩) ?_ ?_
             rotate_left
             ·simp only [sP]
              rfl
             refine pure_ (i := 10) (N := some 83) (v := undef) (a' := ?_) #[tr,tr,tr,tr,tr,tr,tr,tr,tr,tr,tr,fa,fa,fa,fa,fa,fa,fa,fa,fa,fa,fa,fa,fa,fa,fa,fa,fa] rfl rfl (any_of HT_.out (by kernel_rfl)) (fun _ _ _ h => h) (Or.inr ⟨by rfl, rfl⟩) ?_ ?_
             rotate_left
             ·simp only [sP]
              rfl
             refine pure_ (i := 11) (N := some 84) (v := undef) (a' := ?_) #[tr,tr,tr,tr,tr,tr,tr,tr,tr,tr,tr,tr,fa,fa,fa,fa,fa,fa,fa,fa,fa,fa,fa,fa,fa,fa,fa,fa] rfl rfl (any_of HT_.out (by kernel_rfl)) (fun _ _ _ h => h) (Or.inr ⟨by rfl, rfl⟩) ?_ ?_
             rotate_left
             ·simp only [sP]
              rfl
             refine pure_ (i := 12) (N := some 85) (v := undef) (a' := ?_) #[tr,tr,tr,tr,tr,tr,tr,tr,tr,tr,tr,tr,tr,fa,fa,fa,fa,fa,fa,fa,fa,fa,fa,fa,fa,fa,fa,fa] rfl rfl (any_of HT_.out (by kernel_rfl)) (fun _ _ _ h => h) (Or.inr ⟨by rfl, rfl⟩) ?_ ?_
             rotate_left
             ·simp only [sP]
              rfl
             refine pure_ (i := 13) (N := some 86) (v := undef) (a' := ?_) #[tr,tr,tr,tr,tr,tr,tr,tr,tr,tr,tr,tr,tr,tr,fa,fa,fa,fa,fa,fa,fa,fa,fa,fa,fa,fa,fa,fa] rfl rfl (any_of HT_.out (by kernel_rfl)) (fun _ _ _ h => h) (Or.inr ⟨by rfl, rfl⟩) ?_ ?_
             rotate_left
             ·simp only [sP]
              rfl
             refine pure_ (i := 14) (N := some 87) (v := undef) (a' := ?_) #[tr,tr,tr,tr,tr,tr,tr,tr,tr,tr,tr,tr,tr,tr,tr,fa,fa,fa,fa,fa,fa,fa,fa,fa,fa,fa,fa,fa] rfl rfl (any_of HT_.out (by kernel_rfl)) (fun _ _ _ h => h) (Or.inr ⟨by rfl, rfl⟩) ?_ ?_
             rotate_left
             ·simp only [sP]
              rfl
             refine pure_ (i := 15) (N := some 88) (v := undef) (a' := ?_) #[tr,tr,tr,tr,tr,tr,tr,tr,tr,tr,tr,tr,tr,tr,tr,tr,fa,fa,fa,fa,fa,fa,fa,fa,fa,fa,fa,fa] rfl rfl (any_of HT_.out (by kernel_rfl)) (fun _ _ _ h => h) (Or.inr ⟨by rfl, rfl⟩) ?_ ?_
             rotate_left
             ·simp only [sP]
              rfl
             refine pure_ (i := 16) (N := some 89) (v := undef) (a' := ?_) #[tr,tr,tr,tr,tr,tr,tr,tr,tr,tr,tr,tr,tr,tr,tr,tr,tr,fa,fa,fa,fa,fa,fa,fa,fa,fa,fa,fa] rfl rfl (any_of HT_.out (by kernel_rfl)) (fun _ _ _ h => h) (Or.inr ⟨by rfl, rfl⟩) ?_ ?_
             rotate_left
             ·simp only [sP]
              rfl
             refine pure_ (i := 17) (N := some 90) (v := undef) (a' := ?_) #[tr,tr,tr,tr,tr,tr,tr,tr,tr,tr,tr,tr,tr,tr,tr,tr,tr,tr,fa,fa,fa,fa,fa,fa,fa,fa,fa,fa] rfl rfl (any_of HT_.out (by kernel_rfl)) (fun _ _ _ h => h) (Or.inr ⟨by rfl, rfl⟩) ?_ ?_
             rotate_left
             ·simp only [sP]
              rfl
             refine pure_ (i := 18) (N := some 91) (v := undef) (a' := ?_) #[tr,tr,tr,tr,tr,tr,tr,tr,tr,tr,tr,tr,tr,tr,tr,tr,tr,tr,tr,fa,fa,fa,fa,fa,fa,fa,fa,fa] rfl rfl (any_of HT_.out (by kernel_rfl)) (fun _ _ _ h => h) (Or.inr ⟨by rfl, rfl⟩) ?_ ?_
             rotate_left
             ·simp only [sP]
              rfl
             refine pure_ (i := 19) (N := some 92) (v := undef) (a' := ?_) #[tr,tr,tr,tr,tr,tr,tr,tr,tr,tr,tr,tr,tr,tr,tr,tr,tr,tr,tr,tr,fa,fa,fa,fa,fa,fa,fa,fa] rfl rfl (any_of HT_.out (by kernel_rfl)) (fun _ _ _ h => h) (Or.inr ⟨by rfl, rfl⟩) ?_ ?_
             rotate_left
             ·simp only [sP]
              rfl
             refine pure_ (i := 20) (N := some 93) (v := undef) (a' := ?_) #[tr,tr,tr,tr,tr,tr,tr,tr,tr,tr,tr,tr,tr,tr,tr,tr,tr,tr,tr,tr,tr,fa,fa,fa,fa,fa,fa,fa] rfl rfl (any_of HT_.out (by kernel_rfl)) (fun _ _ _ h => h) (Or.inr ⟨by rfl, rfl⟩) ?_ ?_
             rotate_left
             ·simp only [sP]
              rfl
             refine pure_ (i := 21) (N := some 94) (v := undef) (a' := ?_) #[tr,tr,tr,tr,tr,tr,tr,tr,tr,tr,tr,tr,tr,tr,tr,tr,tr,tr,tr,tr,tr,tr,fa,fa,fa,fa,fa,fa] rfl rfl (any_of HT_.out (by kernel_rfl)) (fun _ _ _ h => h) (Or.inr ⟨by rfl, rfl⟩) ?_ ?_
             rotate_left
             ·simp only [sP]
              rfl
             refine pure_ (i := 22) (N := some 95) (v := undef) (a' := ?_) #[tr,tr,tr,tr,tr,tr,tr,tr,tr,tr,tr,tr,tr,tr,tr,tr,tr,tr,tr,tr,tr,tr,tr,fa,fa,fa,fa,fa] rfl rfl (any_of HT_.out (by kernel_rfl)) (fun _ _ _ h => h) (Or.inr ⟨by rfl, rfl⟩) ?_ ?_
             rotate_left
             ·simp only [sP]
              rfl
             refine pure_ (i := 23) (N := some 96) (v := undef) (a' := ?_) #[tr,tr,tr,tr,tr,tr,tr,tr,tr,tr,tr,tr,tr,tr,tr,tr,tr,tr,tr,tr,tr,tr,tr,tr,fa,fa,fa,fa] rfl rfl (any_of HT_.out (by kernel_rfl)) (fun _ _ _ h => h) (Or.inr ⟨by rfl, rfl⟩) ?_ ?_
             rotate_left
             ·simp only [sP]
              rfl
             refine pure_ (i := 24) (N := some 97) (v := undef) (a' := ?_) #[tr,tr,tr,tr,tr,tr,tr,tr,tr,tr,tr,tr,tr,tr,tr,tr,tr,tr,tr,tr,tr,tr,tr,tr,tr,fa,fa,fa] rfl rfl (any_of HT_.out (by kernel_rfl)) (fun _ _ _ h => h) (Or.inr ⟨by rfl, rfl⟩) ?_ ?_
             rotate_left
             ·simp only [sP]
              rfl
             refine pure_ (i := 25) (N := some 98) (v := undef) (a' := ?_) #[tr,tr,tr,tr,tr,tr,tr,tr,tr,tr,tr,tr,tr,tr,tr,tr,tr,tr,tr,tr,tr,tr,tr,tr,tr,tr,fa,fa] rfl rfl (any_of HT_.out (by kernel_rfl)) (fun _ _ _ h => h) (Or.inr ⟨by rfl, rfl⟩) ?_ ?_
             rotate_left
             ·simp only [sP]
              rfl
             refine pure_ (i := 26) (N := some 99) (v := ?_) (a' := ?_) #[tr,tr,tr,tr,tr,tr,tr,tr,tr,tr,tr,tr,tr,tr,tr,tr,tr,tr,tr,tr,tr,tr,tr,tr,tr,tr,tr,fa] rfl rfl (any_of HT_.out (by kernel_rfl)) (fun _ _ _ h => h) (Or.inl ⟨by rfl, ?_⟩) ?_ ?_
             rotate_left
             ·intro w'
              go_simp
              with_reducible rfl
             rotate_left
             ·simp only [sP]
              rfl
             refine pure_ (i := 27) (N := some 72) (v := ?_) (a' := ?_) #[tr,tr,tr,tr,tr,tr,tr,tr,tr,tr,tr,tr,tr,tr,tr,tr,tr,tr,tr,tr,tr,tr,tr,tr,tr,tr,tr,tr] rfl rfl (any_of HT_.out (by kernel_rfl)) (fun _ _ _ h => h) (Or.inl ⟨by rfl, ?_⟩) ?_ ?_
             rotate_left
             ·intro w'
              go_simp
              with_reducible rfl
             rotate_left
             ·simp only [sP]
              rfl
             refine done_ (done_of HT_.out (by kernel_rfl)) ?_
             try go_wp2
             go_roundg kj27
             case measure => have := HJ2.out; have := HK2.out; have := HJ27.out; omega
             case rel => exact ⟨(wrap64 (x45_2 + 1)), rS, H', ⟨by have := HJ2.out; have := HK2.out; have := HJ27.out; omega⟩, ⟨bf0 BK135.out⟩, ⟨bw2 HB.out GE135.out GE140.out⟩⟩
        ·rw [if_neg c27] at H
         exact absurd H (by simp)
       ·rw [if_neg c26] at H
        exact absurd H (by simp)
      ·rw [if_neg c25] at H
       have c25b0 : decide (x45_2 < (l1.length : Int)) = false := decide_eq_false c25
       clear c25
       obtain rfl := Option.some.inj H
       go_wp2
       go_ret
       exact ⟨eS, bw1 HB.out GE135.out⟩
end Go.Proofs.Ytoheongejamapaa.Q
end
section
namespace Go.Proofs.Ytoheongejamapaa.Q
open Go.RowKit Go.Proofs.YtoheongejamapaaW.PrintWords Go.Proofs.YtoheongejamapaaW.PrintLast Go.Proofs.YtoheongejamapaaW.PrintMore
attribute [local go_sem] max2_int min2_int max_two min_two max_three min_three max_four min_four   -- for this text's walks alone
set_option linter.unusedVariables false
set_option linter.unusedSimpArgs false
attribute [local go_sem high] eqA32
attribute [local go_sem high] eqA32
def LnV (w0 W : World) (g : Nat) (v : Value) (out : List S90) : Prop :=
  W.heap[g]? = some (.cells #[v] 88 (0, 0)) ∧ w0.heap.size ≤ g ∧ Kd.R k90 90 W w0.heap.size (fun k => k ≠ g) v out ∧ Below w0.heap.size w0 W
theorem LnV.below {w0 W W' : World} {g : Nat} {v : Value} {out : List S90} (h : LnV w0 W g v out) (hb : Below W.heap.size W W') : LnV w0 W' g v out :=
  ⟨blk_below h.1 hb, h.2.1, Kd.R_below h.2.2.1 hb, below_step h.2.2.2 hb⟩
theorem LnV.lt {w0 W : World} {g : Nat} {v : Value} {out : List S90} (h : LnV w0 W g v out) : g < W.heap.size := blk_lt h.1
theorem LnV.put {w0 w6 : World} {g : Nat} {v v1 : Value} {out : List S90} (hb : w6.heap[g]? = some (.cells #[v] 88 (0, 0))) (hg : w0.heap.size ≤ g) (ho : Kd.R k90 90 w6 w0.heap.size (fun k => k ≠ g) v1 out) (hB : Below w0.heap.size w0 w6) : LnV w0 (w6.setCell ⟨g, 0, none⟩ v1) g v1 out :=
  ⟨blk_set hb 0 v1, hg, Kd.R_far ho (p := ⟨g, 0, none⟩) (fun _ hk => hk) v1, hB.setCell (p := ⟨g, 0, none⟩) hg v1⟩
theorem infoV : (Try.prog.info? 90).map (fun i => (i.zero, i.size, i.bytes)) = some (some (.agg #[(.int .i64 0), (.int .i64 0), (.int .u8 0), (.int .i64 0)]), 4, 32) := by kernel_rfl
def eraOf (p : S90) : S34 := ⟨p.f0, p.f1⟩
def LnB (w0 W : World) (g : Nat) (v : Value) (out : List S61) : Prop :=
  W.heap[g]? = some (.cells #[v] 51 (0, 0)) ∧ w0.heap.size ≤ g ∧ Kd.R k61 61 W w0.heap.size (fun k => k ≠ g) v out ∧ Below w0.heap.size w0 W
theorem LnB.below {w0 W W' : World} {g : Nat} {v : Value} {out : List S61} (h : LnB w0 W g v out) (hb : Below W.heap.size W W') : LnB w0 W' g v out :=
  ⟨blk_below h.1 hb, h.2.1, Kd.R_below h.2.2.1 hb, below_step h.2.2.2 hb⟩
theorem LnB.lt {w0 W : World} {g : Nat} {v : Value} {out : List S61} (h : LnB w0 W g v out) : g < W.heap.size := blk_lt h.1
theorem LnB.put {w0 w6 : World} {g : Nat} {v v1 : Value} {out : List S61} (hb : w6.heap[g]? = some (.cells #[v] 51 (0, 0))) (hg : w0.heap.size ≤ g) (ho : Kd.R k61 61 w6 w0.heap.size (fun k => k ≠ g) v1 out) (hB : Below w0.heap.size w0 w6) : LnB w0 (w6.setCell ⟨g, 0, none⟩ v1) g v1 out :=
  ⟨blk_set hb 0 v1, hg, Kd.R_far ho (p := ⟨g, 0, none⟩) (fun _ hk => hk) v1, hB.setCell (p := ⟨g, 0, none⟩) hg v1⟩
def KeepIn (g : Nat) (W W' : World) : Prop := W.heap.size ≤ W'.heap.size ∧ ∀ k cs t fr, g < k → W.heap[k]? = some (.cells cs t fr) → t ≠ 61 → W'.heap[k]? = some (.cells cs t fr)
theorem KeepIn.refl (g : Nat) (W : World) : KeepIn g W W := ⟨Nat.le_refl _, fun _ _ _ _ _ h _ => h⟩
theorem KeepIn.trans {g : Nat} {A B C : World} (h : KeepIn g A B) (k : KeepIn g B C) : KeepIn g A C := ⟨Nat.le_trans h.1 k.1, fun j cs t fr hj hb ht => k.2 j cs t fr hj (h.2 j cs t fr hj hb ht) ht⟩
theorem KeepIn.below {g n : Nat} {A B : World} (h : Below A.heap.size A B) : KeepIn g A B := ⟨h.size, fun _ _ _ _ _ hb _ => blk_below hb h⟩
theorem KeepIn.set {g : Nat} (W : World) (v : Value) : KeepIn g W (W.setCell ⟨g, 0, none⟩ v) := ⟨Nat.le_of_eq (World.size_setCell _ _ _).symm, fun j _ _ _ hj hb _ => (Below.heap_setCell W ⟨g, 0, none⟩ v j (fun e => by have e' : j = g := e; omega)).trans hb⟩
theorem KeepIn.setRow {g j : Nat} {W : World} {o : Nat} {cs : Array Value} {fr : Nat × Nat} (h : W.heap[j]? = some (.cells cs 61 fr)) (v : Value) : KeepIn g W (W.setCell ⟨j, o, none⟩ v) :=
  ⟨Nat.le_of_eq (World.size_setCell _ _ _).symm, fun k cs' t' fr' _ hb ht => (Below.heap_setCell W ⟨j, o, none⟩ v k (fun e => by
    have e' : k = j := e
    subst e'
    rw [h] at hb
    injection hb with hb
    injection hb with _ h2
    exact ht h2.symm)).trans hb⟩
theorem KeepIn.grown {g b : Nat} {W W' : World} {ok : Nat → Prop} {v : Value} {xs : List S61} (h : Kd.R k61 61 W b ok v xs) (hg : W.grownBy W' v.ownBlock) : KeepIn g W W' :=
  ⟨hg.size, fun k cs t fr _ hb ht => by
    refine (hg.block k (blk_lt hb) (fun e => ?_)).trans hb
    obtain ⟨inner, hown⟩ := Kd.R_own h
    obtain ⟨cells, hcs⟩ := own_typed hown k e.symm
    rw [hb] at hcs
    injection hcs with hcs
    injection hcs with _ h2
    exact ht h2⟩
theorem others_grown {b : Nat} {W W' : World} {ok : Nat → Prop} {v : Value} {xs : List S61} (h : Kd.R k61 61 W b ok v xs) (hg : W.grownBy W' v.ownBlock) : KeepsOthers W W' :=
  KeepsOthers.of_grownBy hg (fun j o hj ho => by
    obtain ⟨inner, hown⟩ := Kd.R_own h
    obtain ⟨cells, hcs⟩ := own_typed hown j hj
    rw [hcs] at ho
    cases ho
    rfl)
theorem others_below {A B : World} (h : Below A.heap.size A B) : KeepsOthers A B := KeepsOthers.of_grownBy (row := none) ⟨h.os, h.tape, h.output, h.size, fun k hk _ => h.block k hk⟩ (fun j o e _ => by cases e)
def addB (out : List S61) (x : S61) : List S61 :=
  if 0 < out.length ∧ (rd_T61 out ((out.length - 1 : Nat) : Int)).f1 = x.f1
  then out.set (out.length - 1) ⟨⟨(rd_T61 out ((out.length - 1 : Nat) : Int)).f0.f0, x.f0.f1⟩, (rd_T61 out ((out.length - 1 : Nat) : Int)).f1⟩ else out ++ [x]
theorem infoB : (Try.prog.info? 61).map (fun i => (i.zero, i.size, i.bytes)) = some (some (.agg #[(.int .i64 0), (.int .i64 0), (.bool false)]), 3, 24) := by kernel_rfl
set_option maxRecDepth 100000 in
set_option maxHeartbeats 4000000 in
theorem addB_is (g : Nat) (v : Value) (out : List S61) (x : S61) (w0 w : World) (hL : (out.length + 1) * 24 ≤ 140737488355328) (hI : LnB w0 w g v out) :
    Calls Try.prog 17 #[.pointer (some ⟨g, 0, none⟩), .agg #[.int .i64 x.f0.f0, .int .i64 x.f0.f1], .bool x.f1] w fun e w' => e = .returned (.tuple #[]) ∧ (∃ v', LnB w0 w' g v' (addB out x)) ∧ KeepIn g w w' ∧ KeepsOthers w w' := by
  have HI := Aside0.mk hI
  have HL := Aside0.mk hL
  have hI2 := (hI.below (below_alloc (Below.refl _ _) (.cells #[.int .i64 x.f0.f0, .int .i64 x.f0.f1] 23)))
  have HI3 := Aside0.mk hI2
  obtain ⟨A, c, rfl⟩ := Kd.R_slice hI.2.2.1
  clear hI hI2 hL
  go_enter Try.func17, Try.ntmps17
  have hc0 : ((w.alloc (.cells #[.int .i64 x.f0.f0, .int .i64 x.f0.f1] 23))).cell? ⟨g, 0, none⟩ = some (.slice A out.length c) := (blk_cell HI3.out.1 0).trans rfl
  have BA3 : Aside0 (((w.alloc (.cells #[.int .i64 x.f0.f0, .int .i64 x.f0.f1] 23))).heap[w.heap.size]? = some (.cells #[.int .i64 x.f0.f0, .int .i64 x.f0.f1] 23 (0, 0))) := ⟨heap_alloc_new w _⟩
  have HMX := Aside0.mk (Kd.C_max (Kd.R_reads' HI.out.2.2.1).2.2)
  by_cases hs : 0 < out.length ∧ (rd_T61 out ((out.length - 1 : Nat) : Int)).f1 = x.f1
  · have hadd : addB out x = out.set (out.length - 1) ⟨⟨(rd_T61 out ((out.length - 1 : Nat) : Int)).f0.f0, x.f0.f1⟩, (rd_T61 out ((out.length - 1 : Nat) : Int)).f1⟩ := if_pos hs
    rw [hadd]
    clear hadd
    obtain ⟨hn, hs1⟩ := hs
    obtain ⟨gr, cr, hsl, hgb, hgl, _⟩ := Kd.R_form HI3.out.2.2.1 hn
    simp only [Value.slice.injEq] at hsl
    obtain ⟨rfl, _, rfl⟩ := hsl
    obtain ⟨l, hl⟩ : ∃ l, rd_T61 out ((out.length - 1 : Nat) : Int) = l := ⟨_, rfl⟩
    rw [hl] at hs1 ⊢
    obtain ⟨ad, ead, hx0, hx1, hx2⟩ := at_T61 (Kd.R_reads' HI3.out.2.2.1).2.2 ((out.length - 1 : Nat) : Int) (by omega) (by omega)
    obtain rfl := Option.some.inj ead
    simp only [Int.toNat_natCast, add_at, Nat.zero_add] at hx0 hx1 hx2
    rw [hl] at hx2
    have hm := HMX.out
    have hq : (l.f1 == x.f1) = true := beq_iff_eq.mpr hs1
    have din : decide (0 < out.length) = true := decide_eq_true hn
    have dii : decide ((0 : Int) < (out.length : Int)) = true := decide_eq_true (by omega)
    have wi : IntKind.i64.wrap ((out.length : Int) - 1) = (out.length : Int) - 1 := by rw [i64_w]; unfold wrap64; omega
    have ti : ((out.length : Int) - 1).toNat = out.length - 1 := by omega
    have pi0 : (0 ≤ (out.length : Int) - 1) = True := eq_true (by omega)
    have qi0 : ((out.length : Int) - 1 < (out.length : Int)) = True := eq_true (by omega)
    have pi1 : (1 ≤ (out.length : Int)) = True := eq_true (by omega)
    have pi2 : (1 ≤ out.length) = True := eq_true (by omega)
    obtain ⟨cs, hcl, hcM, hcc, hcf⟩ := Kd.R_elem HI3.out.2.2.1 z61 ((out.length - 1 : Nat) : Int) (by omega) (by omega)
    have HE := Aside0.mk (show cs = _ from k61_openM hcM)
    have HL2 := Aside0.mk hl
    clear hs1 hx0 hx1 hm hl hcM
    go_wp2
    have HI4 := HI3
    have BA4 := BA3
    clear hc0 HI3 BA3 hx2 hcc hcf
    have HK4 : Aside0 (KeepIn g w (w.alloc (.cells #[.int .i64 x.f0.f0, .int .i64 x.f0.f1] 23)) ∧ KeepsOthers w (w.alloc (.cells #[.int .i64 x.f0.f0, .int .i64 x.f0.f1] 23))) := ⟨KeepIn.below (n := 0) (below_alloc (Below.refl _ _) _), KeepsOthers.alloc _ _⟩
    generalize w.alloc (.cells #[.int .i64 x.f0.f0, .int .i64 x.f0.f1] 23) = W4 at HI4 BA4 HK4 ⊢
    obtain ⟨cs4, hcl4, hcM4, hcc4, hcf4⟩ := Kd.R_elem HI4.out.2.2.1 z61 ((out.length - 1 : Nat) : Int) (by omega) (by omega)
    have HE4 := Aside0.mk (show cs4 = _ from k61_openM hcM4)
    have HCC := Aside0.mk hcc4
    have HCL := Aside0.mk hcl4
    have hcg := (blk_cell HI4.out.1 0).trans rfl
    have hca1 := (blk_cell BA4.out 1).trans (rfl : _ = some (Value.int .i64 x.f0.f1))
    have hz1 : W4.cell? ⟨gr, (out.length - 1) * 3 + 1, none⟩ = some (.int .i64 l.f0.f1) := by
      have h_ := hcc4 1 (.int .i64 l.f0.f1) (by rw [HE4.out]; simp only [Int.toNat_natCast, ← HL2.out]; rfl)
      simp only [Int.toNat_natCast] at h_
      exact h_
    have hzf : W4.frozen? ⟨gr, (out.length - 1) * 3 + 1, none⟩ = false := by
      have h_ := hcf4 1
      simp only [Int.toNat_natCast] at h_
      exact h_
    clear hcc4 hcf4 hcM4 hcl4
    have hR := (Kd.R_seg HI4.out.2.2.1 ((out.length - 1 : Nat) : Int) (by omega) (by omega) (c := cs4) (seg := [.int .i64 x.f0.f1]) (j := 1) HCL.out HCC.out (show 1 + 1 ≤ 3 by decide) (x' := (⟨⟨l.f0.f0, x.f0.f1⟩, l.f1⟩ : S61)) (okp := fun _ => False) (by rw [HE4.out]; simp only [Int.toNat_natCast]; exact (by have e_ : out.getD (out.length - 1) z61 = l := HL2.out; rw [e_]; exact k61_mkM _ _ _ (⟨⟨l.f0.f0, x.f0.f1⟩, l.f1⟩ : S61))) (fun _ hk => hk.elim)).1
    simp only [Int.toNat_natCast] at hR
    have HK5 : Aside0 (KeepIn g w (W4.setCell ⟨gr, (out.length - 1) * 3 + 1, none⟩ (.int .i64 x.f0.f1)) ∧ KeepsOthers w (W4.setCell ⟨gr, (out.length - 1) * 3 + 1, none⟩ (.int .i64 x.f0.f1))) := ⟨by
      obtain ⟨inner_, hown_⟩ := Kd.R_own HI4.out.2.2.1
      obtain ⟨cells_, hcs_⟩ := own_typed hown_ gr (by simp [Value.ownBlock])
      exact ⟨HK4.out.1.trans (KeepIn.setRow hcs_ _), HK4.out.2.trans (KeepsOthers.setCell _ _ _)⟩⟩
    have HF : Aside0 (LnB w0 (W4.setCell ⟨gr, (out.length - 1) * 3 + 1, none⟩ (.int .i64 x.f0.f1)) g (.slice (some ⟨gr, 0, none⟩) out.length c) (out.set (out.length - 1) ⟨⟨l.f0.f0, x.f0.f1⟩, l.f1⟩)) :=
      ⟨blk_far HI4.out.1 (p := ⟨gr, (out.length - 1) * 3 + 1, none⟩) (by have := HI4.out.2.2.1.1 gr (by simp [Value.ownBlock]); simpa using fun e => this e.symm) _, HI4.out.2.1, hR, HI4.out.2.2.2.setCell (p := ⟨gr, (out.length - 1) * 3 + 1, none⟩) hgb _⟩
    go_region
    all_goals
      go_wp2
      first | go_end0 | ((try simp only [Exit.inBlock, Exit.then]); refine bodyPost_ret (results_none rfl _ _ _) rfl ?_)
      first
        | exact ⟨rfl, ⟨_, HF.out⟩, HK5.out.1, HK5.out.2⟩
        | exact ⟨rfl, ⟨_, HF.out.below (below_drew1 (Below.refl _ _))⟩, HK5.out.1.trans (KeepIn.below (n := 0) (below_drew1 (Below.refl _ _))), HK5.out.2.trans (KeepsOthers.drew _)⟩
  · have hadd : addB out x = out ++ [x] := if_neg hs
    rw [hadd]
    clear hadd
    by_cases hn : 0 < out.length
    case' pos =>
      obtain ⟨l, hl⟩ : ∃ l, rd_T61 out ((out.length - 1 : Nat) : Int) = l := ⟨_, rfl⟩
      rw [hl] at hs
      obtain ⟨ad, ead, hx0, hx1, hx2⟩ := at_T61 (Kd.R_reads' HI3.out.2.2.1).2.2 ((out.length - 1 : Nat) : Int) (by omega) (by omega)
      cases ead
      simp only [Int.toNat_natCast] at hx0 hx1 hx2
      rw [hl] at hx2
      have hq : (l.f1 == x.f1) = false := beq_eq_false_iff_ne.mpr (fun h1 => hs ⟨hn, h1⟩)
      have hm := HMX.out
      have din : decide (0 < out.length) = true := decide_eq_true hn
      have dii : decide ((0 : Int) < (out.length : Int)) = true := decide_eq_true (by omega)
      have wi : IntKind.i64.wrap ((out.length : Int) - 1) = (out.length : Int) - 1 := by rw [i64_w]; unfold wrap64; omega
      have ti : ((out.length : Int) - 1).toNat = out.length - 1 := by omega
      have pi0 : (0 ≤ (out.length : Int) - 1) = True := eq_true (by omega)
      have qi0 : ((out.length : Int) - 1 < (out.length : Int)) = True := eq_true (by omega)
      have pi1 : (1 ≤ (out.length : Int)) = True := eq_true (by omega)
      have pi2 : (1 ≤ out.length) = True := eq_true (by omega)
      clear hs hx0 hx1 hm hl
      go_wp2
    case' neg =>
      have hdn : decide (0 < out.length) = false := decide_eq_false hn
      have hdi : decide ((0 : Int) < (out.length : Int)) = false := decide_eq_false (by omega)
      clear hs hn
      go_wp2
    all_goals
      have HI4 := HI3
      have BA4 := BA3
      clear hc0 HI3 BA3
      have HK4 : Aside0 (KeepIn g w (w.alloc (.cells #[.int .i64 x.f0.f0, .int .i64 x.f0.f1] 23)) ∧ KeepsOthers w (w.alloc (.cells #[.int .i64 x.f0.f0, .int .i64 x.f0.f1] 23))) := ⟨KeepIn.below (n := 0) (below_alloc (Below.refl _ _) _), KeepsOthers.alloc _ _⟩
      generalize w.alloc (.cells #[.int .i64 x.f0.f0, .int .i64 x.f0.f1] 23) = W4 at HI4 BA4 HK4 ⊢
      have HI8 := Aside0.mk (HI4.out.below (below_drew1 (Below.refl _ _)))
      have hcg := (blk_cell HI4.out.1 0).trans rfl
      have hca0 : W4.cell? ⟨w.heap.size, 0, none⟩ = some (.int .i64 x.f0.f0) := (blk_cell BA4.out 0).trans rfl
      have hca1 : W4.cell? ⟨w.heap.size, 1, none⟩ = some (.int .i64 x.f0.f1) := (blk_cell BA4.out 1).trans rfl
      have hx0 := (blk_cell (blk_alloc HI4.out.1 (.cells #[.int .i64 x.f0.f0, .int .i64 x.f0.f1, .bool x.f1] 61)) 0).trans rfl
      go_region_law (refine Kd.R_append_step k61 (w0 := w0) w0.heap.size rfl (.tmp 42) (.tmp 46) 49 61 (.agg #[(.int .i64 0), (.int .i64 0), (.bool false)]) 24 rfl Try.underlying49 infoB rfl (by decide) (by omega) _ out x [.int .i64 x.f0.f0, .int .i64 x.f0.f1, .bool x.f1] (fun k_ => k_ ≠ g) (fun _ => False) rfl rfl (k61_mkM _ _ _ _) (fun _ hk => hk.elim) ?aF HI8.out.2.2.1 HI8.out.2.2.2 HI8.out.2.2.2.size HL.out ?_; (case aF => intro k_ hk_ he_; subst he_; exact absurd (LnB.lt HI8.out) (Nat.not_lt.2 hk_)); intro v1 w6 ho hb hg hat; obtain ⟨A1, c1, rfl⟩ := Kd.R_slice ho; rw [List.length_append, List.length_singleton] at ho hat; have hB6 := blk_grown HI8.out.1 hg (Kd.R_away HI8.out.2.2.1 (fun _ hk => hk)); have HO6 := Aside0.mk ho; have HB6 := Aside0.mk hB6; have Hb6 := Aside0.mk hb; have hc64 := (blk_cell hB6 0).trans rfl; have hf64 := blk_frozen hB6 0; have HK6 := Aside0.mk (And.intro (KeepIn.grown (g := g) HI8.out.2.2.1 hg) (others_grown HI8.out.2.2.1 hg)); clear ho hb hg hat hB6)
      all_goals
        first | go_end0 | ((try simp only [Exit.inBlock, Exit.then]); refine bodyPost_ret (results_none rfl _ _ _) rfl ?_)
        exact ⟨rfl, ⟨_, LnB.put HB6.out HI8.out.2.1 (by simpa using HO6.out) Hb6.out⟩, ((HK4.out.1.trans (KeepIn.below (n := 0) (below_drew1 (Below.refl _ _)))).trans HK6.out.1).trans (KeepIn.set _ _), ((HK4.out.2.trans (KeepsOthers.drew _)).trans HK6.out.2).trans (KeepsOthers.setCell _ _ _)⟩
attribute [local go_sem high] eqA32
def pieceOf (x : S34) : S90 := ⟨x.f0, x.f1⟩
set_option maxRecDepth 100000 in
set_option maxHeartbeats 4000000 in
theorem of_is (A1 : Option Addr) (c1 : Nat) (l1 : List S34) (hL : l1.length * 32 ≤ 140737488355328) (w : World) (hr1 : Kd.C k34 w A1 l1.length l1) (hc1 : l1.length ≤ c1) :
    Calls Try.prog 16 #[.slice A1 l1.length c1] w fun e w' => e = .returned (.pointer (some ⟨w.heap.size, 0, none⟩)) ∧ ∃ v', LnV w w' w.heap.size v' (l1.map pieceOf) := by
  have HLL := Aside0.mk hL
  have HM := Aside0.mk (Kd.C_max hr1)
  have HR := Aside0.mk hr1
  have HC1 := Aside0.mk hc1
  clear hL hr1 hc1
  go_enter Try.func16, Try.ntmps16
  go_wp2
  go_loopg [10] l1.length (fun kq v10 w' => ∃ (i : Nat) (v : Value), v10 = .int .i64 (i : Int) ∧ Aside0 (i ≤ l1.length ∧ kq = l1.length - i) ∧ Aside0 (LnV w w' w.heap.size v ((l1.take i).map pieceOf)))
  case atStart => exact ⟨0, .slice none 0 0, rfl, ⟨Nat.zero_le _, rfl⟩, ⟨heap_alloc_new w _, Nat.le_refl _, Kd.R_nil _ _ _ _ _, below_alloc (Below.refl _ _) _⟩⟩
  case round =>
    obtain ⟨i, v, rfl, HJ, HI0⟩ := hrel
    have hm := HM.out
    obtain ⟨A, c, rfl⟩ := Kd.R_slice HI0.out.2.2.1
    by_cases hi : i < l1.length
    · have hd : decide ((i : Int) < (l1.length : Int)) = true := decide_eq_true (by omega)
      have hdn : decide (i < l1.length) = true := decide_eq_true hi
      have p0 : (0 : Int) ≤ (i : Int) := by omega
      have q0 : (i : Int) < (l1.length : Int) := by omega
      obtain ⟨ad, ead, hx0, hx1, hx2, hx3⟩ := at_T34 (Kd.C_below HR.out HI0.out.2.2.2) (i : Int) p0 q0
      cases ead
      simp only [Int.toNat_natCast] at hx0 hx1 hx2 hx3
      obtain ⟨x, hx⟩ : ∃ x, rd_T34 l1 (i : Int) = x := ⟨_, rfl⟩
      rw [hx] at hx0 hx1 hx2 hx3
      have HT : Aside0 ((l1.take (i + 1)).map pieceOf = (l1.take i).map pieceOf ++ [pieceOf x]) := ⟨by
        rw [List.take_succ_eq_append_getElem hi, List.map_append, ← hx]
        simp [rd_T34, List.getD_eq_getElem?_getD, hi]⟩
      have HII := Aside0.mk hi
      have HL : Aside0 ((((l1.take i).map pieceOf).length + 1) * 32 ≤ 140737488355328) := ⟨by have := HLL.out; have := HII.out; rw [List.length_map, List.length_take]; omega⟩
      replace p0 := eq_true p0
      replace q0 := eq_true q0
      clear hx
      go_wp2
      have BA4 := Aside0.mk (heap_alloc_new wr (.cells #[.int .i64 x.f0.f0, .int .i64 x.f0.f1, .int .u8 x.f1.f0, .int .i64 x.f1.f1] 34))
      have HI4 := Aside0.mk (HI0.out.below (below_alloc (Below.refl wr.heap.size wr) (.cells #[.int .i64 x.f0.f0, .int .i64 x.f0.f1, .int .u8 x.f1.f0, .int .i64 x.f1.f1] 34)))
      generalize wr.alloc (.cells #[.int .i64 x.f0.f0, .int .i64 x.f0.f1, .int .u8 x.f1.f0, .int .i64 x.f1.f1] 34) = W4 at BA4 HI4 ⊢
      have HI8 := Aside0.mk (HI4.out.below (below_drew1 (Below.refl _ _)))
      have hcg := (blk_cell HI4.out.1 0).trans rfl
      have hca0 : W4.cell? ⟨wr.heap.size, 0, none⟩ = some (.int .i64 x.f0.f0) := (blk_cell BA4.out 0).trans rfl
      have hca1 : W4.cell? ⟨wr.heap.size, 1, none⟩ = some (.int .i64 x.f0.f1) := (blk_cell BA4.out 1).trans rfl
      have hca2 : W4.cell? ⟨wr.heap.size, 2, none⟩ = some (.int .u8 x.f1.f0) := (blk_cell BA4.out 2).trans rfl
      have hca3 : W4.cell? ⟨wr.heap.size, 3, none⟩ = some (.int .i64 x.f1.f1) := (blk_cell BA4.out 3).trans rfl
      clear hx0 hx1 hx2 hx3 p0 q0
      generalize (l1.take i).map pieceOf = out at *
      have hx0 := (blk_cell (blk_alloc HI4.out.1 (.cells #[.int .i64 x.f0.f0, .int .i64 x.f0.f1, .int .u8 x.f1.f0, .int .i64 x.f1.f1] 90)) 0).trans rfl
      go_region_law (refine Kd.R_append_step k90 (w0 := w) w.heap.size rfl (.tmp 18) (.tmp 24) 86 90 (.agg #[(.int .i64 0), (.int .i64 0), (.int .u8 0), (.int .i64 0)]) 32 rfl Try.underlying86 infoV rfl (by decide) (by omega) _ out (⟨x.f0, x.f1⟩ : S90) [.int .i64 x.f0.f0, .int .i64 x.f0.f1, .int .u8 x.f1.f0, .int .i64 x.f1.f1] (fun k_ => k_ ≠ w.heap.size) (fun _ => False) rfl rfl (k90_mkM _ _ _ _) (fun _ hk => hk.elim) ?aF HI8.out.2.2.1 HI8.out.2.2.2 HI8.out.2.2.2.size HL.out ?_; (case aF => intro k_ hk_ he_; subst he_; exact absurd (LnV.lt HI8.out) (Nat.not_lt.2 hk_)); intro v1 w6 ho hb hg hat; obtain ⟨A1, c1, rfl⟩ := Kd.R_slice ho; rw [List.length_append, List.length_singleton] at ho hat; have hB6 := blk_grown HI8.out.1 hg (Kd.R_away HI8.out.2.2.1 (fun _ hk => hk)); have HO6 := Aside0.mk ho; have HB6 := Aside0.mk hB6; have Hb6 := Aside0.mk hb; have hc64 := (blk_cell hB6 0).trans rfl; have hf64 := blk_frozen hB6 0; clear ho hb hg hat hB6)
      all_goals
        go_wp2
        go_roundg (l1.length - (i + 1))
        case measure => have := HJ.out; have := HII.out; omega
        case rel => exact ⟨i + 1, _, by go_num, ⟨by have := HII.out; omega, rfl⟩, ⟨by rw [HT.out]; exact LnV.put HB6.out HI8.out.2.1 (by simpa [pieceOf] using HO6.out) Hb6.out⟩⟩
    · have hd : decide ((i : Int) < (l1.length : Int)) = false := decide_eq_false (by omega)
      have hdn : decide (i < l1.length) = false := decide_eq_false hi
      have ho := HI0.out
      generalize hv : (Value.slice A ((l1.take i).map pieceOf).length c) = vv at ho
      rw [List.take_of_length_le (by omega)] at ho
      subst hv
      have HO2 := Aside0.mk ho
      clear ho
      go_wp2
      go_ret
      exact ⟨rfl, _, HO2.out⟩
attribute [local go_sem] Oper.semAt_some
theorem both_in (n : Nat) (p q : Option Addr) (w : World) :
    CallsIn Fence.wide n Try.prog 15 #[.pointer p, .pointer q] w fun e w' => e = .returned (.func (.func 31) #[] #[.pointer (some ⟨w.heap.size, 0, none⟩), .pointer (some ⟨w.heap.size + 1, 0, none⟩)]) ∧ w' = (w.alloc (.cells #[.pointer p] 55)).alloc (.cells #[.pointer q] 55) := by
  refine callsIn_of_wp Try.func15 rfl trivial ?_ rfl
  simp only [Try.ntmps15, List.size_toArray, List.length_cons, List.length_nil, Nat.reduceAdd, Nat.reduceSub, Array.replicate_succ, Array.replicate_zero, List.push_toArray, List.append_toArray, List.nil_append, List.cons_append]
  gi_wp2
  go_ret
  exact ⟨rfl, rfl⟩
attribute [local go_sem] Oper.semAt_some
def intSz : Value → Nat
  | .int _ x => x.toNat
  | _ => 0
theorem cell_alloc_ne {W : World} {o : Obj} {a : Addr} (h : (a.block = W.heap.size) = False) : (W.alloc o).cell? a = W.cell? a := by
  have h' : ¬ a.block = W.heap.size := by simpa using h
  have e : (W.alloc o).heap[a.block]? = W.heap[a.block]? := by
    show (W.heap.push o)[a.block]? = _
    rw [Array.getElem?_push, if_neg h']
  simp only [World.cell?, e]
attribute [local go_sem] cell_alloc_ne
abbrev PcV := S90
def bothL : Nat → List PcV → List PcV → List (PcV × PcV)
  | 0, _, _ => []
  | _, [], _ => []
  | _, _, [] => []
  | n + 1, x :: xs, y :: ys => (x, y) :: bothL n (if x.f0.f1 = (if y.f0.f1 < x.f0.f1 then y.f0.f1 else x.f0.f1) then xs else x :: xs) (if y.f0.f1 = (if y.f0.f1 < x.f0.f1 then y.f0.f1 else x.f0.f1) then ys else y :: ys)
def mxf (p : PcV × PcV) : Int := if p.1.f0.f0 < p.2.f0.f0 then p.2.f0.f0 else p.1.f0.f0
def mnt (p : PcV × PcV) : Int := if p.2.f0.f1 < p.1.f0.f1 then p.2.f0.f1 else p.1.f0.f1
def encB (p : PcV × PcV) : Array Value := #[.agg #[.int .i64 (mxf p), .int .i64 (mnt p)], .agg #[.int .u8 p.1.f1.f0, .int .i64 p.1.f1.f1, .int .u8 p.2.f1.f0, .int .i64 p.2.f1.f1]]
theorem KeepIn.cells {g k t : Nat} {W W' : World} {cs : Array Value} {fr : Nat × Nat} (hk : KeepIn g W W') (hg : g < k) (h : W.heap[k]? = some (.cells cs t fr)) (ht : t ≠ 61) : W'.heap[k]? = some (.cells cs t fr) := hk.2 k cs t fr hg h ht
theorem KeepIn.row {g : Nat} {W W' : World} {v : Value} {xs : List PcV} (hk : KeepIn g W W') (h : Kd.R k90 90 W 0 (fun k => g < k) v xs) : Kd.R k90 90 W' 0 (fun k => g < k) v xs :=
  Kd.R_mono (Kd.R_step (Kd.R_bound h) (fun k h1 _ => by
    obtain ⟨h2, _, h3, q, hq, cs, hc⟩ := h1
    exact (hk.cells h2 hc ((by decide : ∀ q, q ∈ 90 :: k90.E → q ≠ 61) q hq)).trans hc.symm)) (fun _ h1 => h1.1)
structure BothIn (g Ba Bb ga gb : Nat) (la lb : List PcV) (Aa Ab : Option Addr) (ca cb : Nat) (W : World) : Prop where
  lt : g < Ba ∧ g < Bb ∧ g < ga ∧ g < gb ∧ g < W.heap.size
  ba : W.heap[Ba]? = some (.cells #[.pointer (some ⟨ga, 0, none⟩)] 55 (0, 0))
  bb : W.heap[Bb]? = some (.cells #[.pointer (some ⟨gb, 0, none⟩)] 55 (0, 0))
  al : W.heap[ga]? = some (.cells #[.slice Aa la.length ca] 88 (0, 0))
  bl : W.heap[gb]? = some (.cells #[.slice Ab lb.length cb] 88 (0, 0))
  ra : Kd.R k90 90 W 0 (fun k => g < k) (.slice Aa la.length ca) la
  rb : Kd.R k90 90 W 0 (fun k => g < k) (.slice Ab lb.length cb) lb
theorem BothIn.keep {g Ba Bb ga gb : Nat} {la lb : List PcV} {Aa Ab : Option Addr} {ca cb : Nat} {W W' : World} (h : BothIn g Ba Bb ga gb la lb Aa Ab ca cb W) (hk : KeepIn g W W') : BothIn g Ba Bb ga gb la lb Aa Ab ca cb W' :=
  ⟨⟨h.lt.1, h.lt.2.1, h.lt.2.2.1, h.lt.2.2.2.1, Nat.lt_of_lt_of_le h.lt.2.2.2.2 hk.1⟩, hk.cells h.lt.1 h.ba (by decide), hk.cells h.lt.2.1 h.bb (by decide), hk.cells h.lt.2.2.1 h.al (by decide), hk.cells h.lt.2.2.2.1 h.bl (by decide), hk.row h.ra, hk.row h.rb⟩
theorem BothIn.below {g Ba Bb ga gb : Nat} {la lb : List PcV} {Aa Ab : Option Addr} {ca cb : Nat} {W W' : World} (h : BothIn g Ba Bb ga gb la lb Aa Ab ca cb W) (hb : Below W.heap.size W W') : BothIn g Ba Bb ga gb la lb Aa Ab ca cb W' :=
  h.keep (KeepIn.below (n := 0) hb)
theorem bothL_cons (n : Nat) (x : PcV) (xs : List PcV) (y : PcV) (ys : List PcV) : bothL (n + 1) (x :: xs) (y :: ys) = (x, y) :: bothL n (if x.f0.f1 = (if y.f0.f1 < x.f0.f1 then y.f0.f1 else x.f0.f1) then xs else x :: xs) (if y.f0.f1 = (if y.f0.f1 < x.f0.f1 then y.f0.f1 else x.f0.f1) then ys else y :: ys) := rfl
theorem bothL_nl (m : Nat) (b : List PcV) : bothL m [] b = [] := by cases m <;> rfl
theorem bothL_nr (m : Nat) (a : List PcV) : bothL m a [] = [] := by cases m <;> cases a <;> rfl
theorem bi_y {i j m a b d : Nat} (h : i ≤ a ∧ j ≤ b ∧ (a - i) + (b - j) ≤ m + 1 ∧ d + (m + 1) ≤ a + b) : d < a + b := by omega
theorem bi_xy {i j m a b d : Nat} (h : i ≤ a ∧ j ≤ b ∧ (a - i) + (b - j) ≤ m + 1 ∧ d + (m + 1) ≤ a + b) (h2 : i < a ∧ j < b) : i + 1 ≤ a ∧ j + 1 ≤ b ∧ (a - (i + 1)) + (b - (j + 1)) ≤ m ∧ d + 1 + m ≤ a + b := by omega
theorem bi_x {i j m a b d : Nat} (h : i ≤ a ∧ j ≤ b ∧ (a - i) + (b - j) ≤ m + 1 ∧ d + (m + 1) ≤ a + b) (h2 : i < a ∧ j < b) : i + 1 ≤ a ∧ j ≤ b ∧ (a - (i + 1)) + (b - j) ≤ m ∧ d + 1 + m ≤ a + b := by omega
theorem bi_n {i j m a b d : Nat} (h : i ≤ a ∧ j ≤ b ∧ (a - i) + (b - j) ≤ m + 1 ∧ d + (m + 1) ≤ a + b) (h2 : i < a ∧ j < b) : i ≤ a ∧ j + 1 ≤ b ∧ (a - i) + (b - (j + 1)) ≤ m ∧ d + 1 + m ≤ a + b := by omega
theorem bm_xy {i j a b : Nat} (h2 : i < a ∧ j < b) : (a - intSz (.int .i64 ((i : Int) + 1))) + (b - intSz (.int .i64 ((j : Int) + 1))) < (a - intSz (.int .i64 (i : Int))) + (b - intSz (.int .i64 (j : Int))) := by simp only [intSz]; omega
theorem bm_x {i j a b : Nat} (h2 : i < a ∧ j < b) : (a - intSz (.int .i64 ((i : Int) + 1))) + (b - intSz (.int .i64 (j : Int))) < (a - intSz (.int .i64 (i : Int))) + (b - intSz (.int .i64 (j : Int))) := by simp only [intSz]; omega
theorem bm_n {i j a b : Nat} (h2 : i < a ∧ j < b) : (a - intSz (.int .i64 (i : Int))) + (b - intSz (.int .i64 ((j : Int) + 1))) < (a - intSz (.int .i64 (i : Int))) + (b - intSz (.int .i64 (j : Int))) := by simp only [intSz]; omega
theorem cast1 (i : Nat) : Value.int .i64 ((i : Int) + 1) = Value.int .i64 ((i + 1 : Nat) : Int) := rfl
set_option maxRecDepth 100000 in
set_option maxHeartbeats 4000000 in
theorem both1_in (n : Nat) (hn : 1 ≤ n) (l g Ba Bb ga gb : Nat) (la lb : List PcV) (Aa Ab : Option Addr) (ca cb : Nat) (J Jx : List (PcV × PcV) → World → Prop)
    (hY : ∀ pre x W, J pre W → pre.length < la.length + lb.length → YieldAt Fence.wide (n - 1) Try.prog l (encB x) W fun e W' =>
      (e = .returned (.bool true) ∧ J (pre ++ [x]) W' ∧ KeepIn g W W') ∨ (e = .returned (.bool false) ∧ Jx (pre ++ [x]) W'))
    (hJg : ∀ pre W W', J pre W → W.grownBy W' none → J pre W')
    (W : World) (hB : BothIn g Ba Bb ga gb la lb Aa Ab ca cb W) (h0 : J [] W) :
    CallsIn Fence.wide n Try.prog 31 #[.func (.yield l) #[] #[], .pointer (some ⟨Ba, 0, none⟩), .pointer (some ⟨Bb, 0, none⟩)] W fun e W' => (∃ v, e = .returned v) ∧
      ((∃ ys, ys = bothL (la.length + lb.length) la lb ∧ J ys W') ∨ (∃ pre, Jx pre W')) := by
  have HMA := Aside0.mk (Kd.C_max (Kd.R_reads' hB.ra).2.2)
  have HMB := Aside0.mk (Kd.C_max (Kd.R_reads' hB.rb).2.2)
  refine callsIn_of_wp Try.func31 rfl trivial ?_ rfl
  simp only [Try.ntmps31, List.size_toArray, List.length_cons, List.length_nil, Nat.reduceAdd, Nat.reduceSub, Array.replicate_succ, Array.replicate_zero, List.push_toArray, List.append_toArray, List.nil_append, List.cons_append]
  gi_wp2
  gi_loopw [4, 5] (fun v4 v5 wr => ∃ (i j m : Nat) (ds : List (PcV × PcV)), v4 = .int .i64 (i : Int) ∧ v5 = .int .i64 (j : Int) ∧ Aside0 (i ≤ la.length ∧ j ≤ lb.length ∧ (la.length - i) + (lb.length - j) ≤ m ∧ ds.length + m ≤ la.length + lb.length) ∧ Aside0 (bothL (la.length + lb.length) la lb = ds ++ bothL m (la.drop i) (lb.drop j)) ∧ Aside0 (BothIn g Ba Bb ga gb la lb Aa Ab ca cb wr) ∧ J ds wr)
    (fun v4 v5 _ => (la.length - intSz v4) + (lb.length - intSz v5))
  case atStart => exact ⟨0, 0, la.length + lb.length, [], rfl, rfl, ⟨Nat.zero_le _, Nat.zero_le _, Nat.le_refl _, by simp⟩, ⟨rfl⟩, ⟨hB⟩, h0⟩
  case round =>
    obtain ⟨i, j, m, ds, rfl, rfl, HI, HL, HB, hJ⟩ := hrel
    have hm := HMA.out
    have hm2 := HMB.out
    have ba0 := (blk_cell HB.out.ba 0).trans rfl
    have bb0 := (blk_cell HB.out.bb 0).trans rfl
    have la0 := (blk_cell HB.out.al 0).trans rfl
    have lb0 := (blk_cell HB.out.bl 0).trans rfl
    by_cases hij : i < la.length ∧ j < lb.length
    · obtain ⟨hi, hj⟩ := hij
      have hd : decide ((i : Int) < (la.length : Int)) = true := decide_eq_true (by omega)
      have hdn : decide (i < la.length) = true := decide_eq_true hi
      have hd2 : decide ((j : Int) < (lb.length : Int)) = true := decide_eq_true (by omega)
      have hdn2 : decide (j < lb.length) = true := decide_eq_true hj
      have p0 : (0 : Int) ≤ (i : Int) := by omega
      have q0 : (i : Int) < (la.length : Int) := by omega
      have p1 : (0 : Int) ≤ (j : Int) := by omega
      have q1 : (j : Int) < (lb.length : Int) := by omega
      obtain ⟨ad, ead, hx0, hx1, hx2, hx3⟩ := at_T90 (Kd.R_reads' HB.out.ra).2.2 (i : Int) p0 q0
      obtain ⟨bd, ebd, hy0, hy1, hy2, hy3⟩ := at_T90 (Kd.R_reads' HB.out.rb).2.2 (j : Int) p1 q1
      cases ead
      cases ebd
      simp only [Int.toNat_natCast] at hx0 hx1 hx2 hx3 hy0 hy1 hy2 hy3
      obtain ⟨x, hx⟩ : ∃ x, rd_T90 la (i : Int) = x := ⟨_, rfl⟩
      obtain ⟨y, hy⟩ : ∃ y, rd_T90 lb (j : Int) = y := ⟨_, rfl⟩
      have HX := Aside0.mk hx
      have HY2 := Aside0.mk hy
      rw [hx] at hx0 hx1 hx2 hx3
      rw [hy] at hy0 hy1 hy2 hy3
      replace p0 := eq_true p0
      replace q0 := eq_true q0
      replace p1 := eq_true p1
      replace q1 := eq_true q1
      clear hx hy
      have lBa := blk_lt HB.out.ba
      have lBb := blk_lt HB.out.bb
      have lga := blk_lt HB.out.al
      have lgb := blk_lt HB.out.bl
      have lad : (ad.add (i * 4)).block < wr.heap.size := World.block_lt_of_cell? wr (ad.add (i * 4)) hx0
      have lbd : (bd.add (j * 4)).block < wr.heap.size := World.block_lt_of_cell? wr (bd.add (j * 4)) hy0
      have e1 : (Ba = wr.heap.size) = False := eq_false (by omega)
      have e2 : (Bb = wr.heap.size) = False := eq_false (by omega)
      have e3 : (ga = wr.heap.size) = False := eq_false (by omega)
      have e4 : (gb = wr.heap.size) = False := eq_false (by omega)
      have f1 : (Ba = wr.heap.size + 1) = False := eq_false (by omega)
      have f2 : (Bb = wr.heap.size + 1) = False := eq_false (by omega)
      have f3 : (ga = wr.heap.size + 1) = False := eq_false (by omega)
      have f4 : (gb = wr.heap.size + 1) = False := eq_false (by omega)
      have e7 : ((ad.add (i * 4)).block = wr.heap.size) = False := eq_false (by omega)
      have e8 : ((bd.add (j * 4)).block = wr.heap.size) = False := eq_false (by omega)
      have f7 : ((ad.add (i * 4)).block = wr.heap.size + 1) = False := eq_false (by omega)
      have f8 : ((bd.add (j * 4)).block = wr.heap.size + 1) = False := eq_false (by omega)
      clear lBa lBb lga lgb lad lbd
      obtain ⟨mx, hmx⟩ : ∃ mx, (if x.f0.f0 < y.f0.f0 then y.f0.f0 else x.f0.f0) = mx := ⟨_, rfl⟩
      obtain ⟨mt, hmt⟩ : ∃ mt, (if y.f0.f1 < x.f0.f1 then y.f0.f1 else x.f0.f1) = mt := ⟨_, rfl⟩
      have hc : x.f0.f1 = mt ∨ y.f0.f1 = mt := by rw [← hmt]; split <;> simp
      have hrdx : Aside0 (la.drop i = x :: la.drop (i + 1)) := ⟨by
        rw [List.drop_eq_getElem_cons hi, ← HX.out]
        simp [rd_T90, List.getD_eq_getElem?_getD, hi]⟩
      have hrdy : Aside0 (lb.drop j = y :: lb.drop (j + 1)) := ⟨by
        rw [List.drop_eq_getElem_cons hj, ← HY2.out]
        simp [rd_T90, List.getD_eq_getElem?_getD, hj]⟩
      have HII := Aside0.mk (And.intro hi hj)
      obtain ⟨m, rfl⟩ : ∃ m', m = m' + 1 := ⟨m - 1, by have := HI.out; omega⟩
      have wi : IntKind.i64.wrap ((i : Int) + 1) = (i : Int) + 1 := by rw [i64_w]; unfold wrap64; omega
      have wj : IntKind.i64.wrap ((j : Int) + 1) = (j : Int) + 1 := by rw [i64_w]; unfold wrap64; omega
      clear hi hj
      gi_wp2
      gi_region
      · have HBb := Aside0.mk (below_drew1 (below_alloc (below_alloc (Below.refl wr.heap.size wr) (.cells #[.int .i64 x.f0.f0, .int .i64 x.f0.f1, .int .u8 x.f1.f0, .int .i64 x.f1.f1] 90)) (.cells #[.int .i64 y.f0.f0, .int .i64 y.f0.f1, .int .u8 y.f1.f0, .int .i64 y.f1.f1] 90)))
        have WX := Aside0.mk (blk_drew (blk_alloc (heap_alloc_new wr (.cells #[.int .i64 x.f0.f0, .int .i64 x.f0.f1, .int .u8 x.f1.f0, .int .i64 x.f1.f1] 90)) (.cells #[.int .i64 y.f0.f0, .int .i64 y.f0.f1, .int .u8 y.f1.f0, .int .i64 y.f1.f1] 90)))
        have WY : Aside0 (((wr.alloc (.cells #[.int .i64 x.f0.f0, .int .i64 x.f0.f1, .int .u8 x.f1.f0, .int .i64 x.f1.f1] 90)).alloc (.cells #[.int .i64 y.f0.f0, .int .i64 y.f0.f1, .int .u8 y.f1.f0, .int .i64 y.f1.f1] 90)).drew.heap[wr.heap.size + 1]? = some (.cells #[.int .i64 y.f0.f0, .int .i64 y.f0.f1, .int .u8 y.f1.f0, .int .i64 y.f1.f1] 90 (0, 0))) := ⟨blk_drew (by
          have := heap_alloc_new (wr.alloc (.cells #[.int .i64 x.f0.f0, .int .i64 x.f0.f1, .int .u8 x.f1.f0, .int .i64 x.f1.f1] 90)) (.cells #[.int .i64 y.f0.f0, .int .i64 y.f0.f1, .int .u8 y.f1.f0, .int .i64 y.f1.f1] 90)
          rwa [World.size_alloc] at this)⟩
        generalize ((wr.alloc (.cells #[.int .i64 x.f0.f0, .int .i64 x.f0.f1, .int .u8 x.f1.f0, .int .i64 x.f1.f1] 90)).alloc (.cells #[.int .i64 y.f0.f0, .int .i64 y.f0.f1, .int .u8 y.f1.f0, .int .i64 y.f1.f1] 90)).drew = W2 at HBb WX WY ⊢
        have hgx : g < wr.heap.size := by have := HB.out.lt; omega
        have hgy : g < wr.heap.size + 1 := by have := HB.out.lt; omega
        have HB2 := Aside0.mk (HB.out.below HBb.out)
        have hJ2 : J ds W2 := hJg _ _ _ hJ ⟨HBb.out.os, HBb.out.tape, HBb.out.output, HBb.out.size, fun k hk _ => HBb.out.block k hk⟩
        have hxc0 := (blk_cell WX.out 0).trans rfl
        have hxc1 := (blk_cell WX.out 1).trans rfl
        have hxc2 := (blk_cell WX.out 2).trans rfl
        have hxc3 := (blk_cell WX.out 3).trans rfl
        have hyc0 := (blk_cell WY.out 0).trans rfl
        have hyc1 := (blk_cell WY.out 1).trans rfl
        have hyc2 := (blk_cell WY.out 2).trans rfl
        have hyc3 := (blk_cell WY.out 3).trans rfl
        obtain ⟨fn, tmps, assign, body, hy, hR⟩ := hY ds (x, y) W2 hJ2 (bi_y HI.out)
        dsimp only [encB] at hy
        rw [show mxf (x, y) = mx from hmx, show mnt (x, y) = mt from hmt] at hy
        as_aux_lemma =>
          gi_wp2
          refine hR.mono ?_
          rintro e W3 (⟨rfl, hJ3, hK3⟩ | ⟨rfl, hJx3⟩)
          rotate_left
          · gi_wp2
            refine bodyPost_ret (results_none rfl _ _ _) rfl ?_
            exact ⟨⟨_, rfl⟩, .inr ⟨_, hJx3⟩⟩
          have WX3 := Aside0.mk (hK3.cells hgx WX.out (by decide))
          have WY3 := Aside0.mk (hK3.cells hgy WY.out (by decide))
          have HB3 := Aside0.mk (HB2.out.keep hK3)
          have hxz1 := (blk_cell WX3.out 1).trans rfl
          have hyz1 := (blk_cell WY3.out 1).trans rfl
          clear hy hR hJ hJ2 hK3 hxc0 hxc1 hxc2 hxc3 hyc0 hyc1 hyc2 hyc3
          by_cases c1 : x.f0.f1 = mt
          · have b1 : (x.f0.f1 == mt) = true := beq_iff_eq.mpr c1
            by_cases c2 : y.f0.f1 = mt
            · have b2 : (y.f0.f1 == mt) = true := beq_iff_eq.mpr c2
              have HL2 : Aside0 (bothL (la.length + lb.length) la lb = (ds ++ [(x, y)]) ++ bothL m (la.drop (i + 1)) (lb.drop (j + 1))) := ⟨by rw [HL.out, hrdx.out, hrdy.out, bothL_cons, hmt, if_pos c1, if_pos c2, List.append_assoc]; rfl⟩
              clear c1 c2
              gi_wp2
              go_roundw
              case rel => exact ⟨i + 1, j + 1, m, _, cast1 i, cast1 j, ⟨by rw [List.length_append, List.length_singleton]; exact bi_xy HI.out HII.out⟩, HL2, HB3, hJ3⟩
              case measure => exact bm_xy HII.out
            · have b2 : (y.f0.f1 == mt) = false := beq_eq_false_iff_ne.mpr c2
              have HL2 : Aside0 (bothL (la.length + lb.length) la lb = (ds ++ [(x, y)]) ++ bothL m (la.drop (i + 1)) (lb.drop j)) := ⟨by rw [HL.out, hrdx.out, hrdy.out, bothL_cons, hmt, if_pos c1, if_neg c2, List.append_assoc]; rfl⟩
              clear c1 c2
              gi_wp2
              go_roundw
              case rel => exact ⟨i + 1, j, m, _, cast1 i, rfl, ⟨by rw [List.length_append, List.length_singleton]; exact bi_x HI.out HII.out⟩, HL2, HB3, hJ3⟩
              case measure => exact bm_x HII.out
          · have b1 : (x.f0.f1 == mt) = false := beq_eq_false_iff_ne.mpr c1
            have c2 : y.f0.f1 = mt := hc.resolve_left c1
            have b2 : (y.f0.f1 == mt) = true := beq_iff_eq.mpr c2
            have HL2 : Aside0 (bothL (la.length + lb.length) la lb = (ds ++ [(x, y)]) ++ bothL m (la.drop i) (lb.drop (j + 1))) := ⟨by rw [HL.out, hrdx.out, hrdy.out, bothL_cons, hmt, if_neg c1, if_pos c2, List.append_assoc]; rfl⟩
            clear c1 c2
            gi_wp2
            go_roundw
            case rel => exact ⟨i, j + 1, m, _, rfl, cast1 j, ⟨by rw [List.length_append, List.length_singleton]; exact bi_n HI.out HII.out⟩, HL2, HB3, hJ3⟩
            case measure => exact bm_n HII.out
      · have HBb := Aside0.mk (below_drew1 (below_alloc (below_alloc (Below.refl wr.heap.size wr) (.cells #[.int .i64 y.f0.f0, .int .i64 y.f0.f1, .int .u8 y.f1.f0, .int .i64 y.f1.f1] 90)) (.cells #[.int .i64 x.f0.f0, .int .i64 x.f0.f1, .int .u8 x.f1.f0, .int .i64 x.f1.f1] 90)))
        have WY := Aside0.mk (blk_drew (blk_alloc (heap_alloc_new wr (.cells #[.int .i64 y.f0.f0, .int .i64 y.f0.f1, .int .u8 y.f1.f0, .int .i64 y.f1.f1] 90)) (.cells #[.int .i64 x.f0.f0, .int .i64 x.f0.f1, .int .u8 x.f1.f0, .int .i64 x.f1.f1] 90)))
        have WX : Aside0 (((wr.alloc (.cells #[.int .i64 y.f0.f0, .int .i64 y.f0.f1, .int .u8 y.f1.f0, .int .i64 y.f1.f1] 90)).alloc (.cells #[.int .i64 x.f0.f0, .int .i64 x.f0.f1, .int .u8 x.f1.f0, .int .i64 x.f1.f1] 90)).drew.heap[wr.heap.size + 1]? = some (.cells #[.int .i64 x.f0.f0, .int .i64 x.f0.f1, .int .u8 x.f1.f0, .int .i64 x.f1.f1] 90 (0, 0))) := ⟨blk_drew (by
          have := heap_alloc_new (wr.alloc (.cells #[.int .i64 y.f0.f0, .int .i64 y.f0.f1, .int .u8 y.f1.f0, .int .i64 y.f1.f1] 90)) (.cells #[.int .i64 x.f0.f0, .int .i64 x.f0.f1, .int .u8 x.f1.f0, .int .i64 x.f1.f1] 90)
          rwa [World.size_alloc] at this)⟩
        generalize ((wr.alloc (.cells #[.int .i64 y.f0.f0, .int .i64 y.f0.f1, .int .u8 y.f1.f0, .int .i64 y.f1.f1] 90)).alloc (.cells #[.int .i64 x.f0.f0, .int .i64 x.f0.f1, .int .u8 x.f1.f0, .int .i64 x.f1.f1] 90)).drew = W2 at HBb WX WY ⊢
        have hgx : g < wr.heap.size + 1 := by have := HB.out.lt; omega
        have hgy : g < wr.heap.size := by have := HB.out.lt; omega
        have HB2 := Aside0.mk (HB.out.below HBb.out)
        have hJ2 : J ds W2 := hJg _ _ _ hJ ⟨HBb.out.os, HBb.out.tape, HBb.out.output, HBb.out.size, fun k hk _ => HBb.out.block k hk⟩
        have hxc0 := (blk_cell WX.out 0).trans rfl
        have hxc1 := (blk_cell WX.out 1).trans rfl
        have hxc2 := (blk_cell WX.out 2).trans rfl
        have hxc3 := (blk_cell WX.out 3).trans rfl
        have hyc0 := (blk_cell WY.out 0).trans rfl
        have hyc1 := (blk_cell WY.out 1).trans rfl
        have hyc2 := (blk_cell WY.out 2).trans rfl
        have hyc3 := (blk_cell WY.out 3).trans rfl
        obtain ⟨fn, tmps, assign, body, hy, hR⟩ := hY ds (x, y) W2 hJ2 (bi_y HI.out)
        dsimp only [encB] at hy
        rw [show mxf (x, y) = mx from hmx, show mnt (x, y) = mt from hmt] at hy
        as_aux_lemma =>
          gi_wp2
          refine hR.mono ?_
          rintro e W3 (⟨rfl, hJ3, hK3⟩ | ⟨rfl, hJx3⟩)
          rotate_left
          · gi_wp2
            refine bodyPost_ret (results_none rfl _ _ _) rfl ?_
            exact ⟨⟨_, rfl⟩, .inr ⟨_, hJx3⟩⟩
          have WX3 := Aside0.mk (hK3.cells hgx WX.out (by decide))
          have WY3 := Aside0.mk (hK3.cells hgy WY.out (by decide))
          have HB3 := Aside0.mk (HB2.out.keep hK3)
          have hxz1 := (blk_cell WX3.out 1).trans rfl
          have hyz1 := (blk_cell WY3.out 1).trans rfl
          clear hy hR hJ hJ2 hK3 hxc0 hxc1 hxc2 hxc3 hyc0 hyc1 hyc2 hyc3
          by_cases c1 : x.f0.f1 = mt
          · have b1 : (x.f0.f1 == mt) = true := beq_iff_eq.mpr c1
            by_cases c2 : y.f0.f1 = mt
            · have b2 : (y.f0.f1 == mt) = true := beq_iff_eq.mpr c2
              have HL2 : Aside0 (bothL (la.length + lb.length) la lb = (ds ++ [(x, y)]) ++ bothL m (la.drop (i + 1)) (lb.drop (j + 1))) := ⟨by rw [HL.out, hrdx.out, hrdy.out, bothL_cons, hmt, if_pos c1, if_pos c2, List.append_assoc]; rfl⟩
              clear c1 c2
              gi_wp2
              go_roundw
              case rel => exact ⟨i + 1, j + 1, m, _, cast1 i, cast1 j, ⟨by rw [List.length_append, List.length_singleton]; exact bi_xy HI.out HII.out⟩, HL2, HB3, hJ3⟩
              case measure => exact bm_xy HII.out
            · have b2 : (y.f0.f1 == mt) = false := beq_eq_false_iff_ne.mpr c2
              have HL2 : Aside0 (bothL (la.length + lb.length) la lb = (ds ++ [(x, y)]) ++ bothL m (la.drop (i + 1)) (lb.drop j)) := ⟨by rw [HL.out, hrdx.out, hrdy.out, bothL_cons, hmt, if_pos c1, if_neg c2, List.append_assoc]; rfl⟩
              clear c1 c2
              gi_wp2
              go_roundw
              case rel => exact ⟨i + 1, j, m, _, cast1 i, rfl, ⟨by rw [List.length_append, List.length_singleton]; exact bi_x HI.out HII.out⟩, HL2, HB3, hJ3⟩
              case measure => exact bm_x HII.out
          · have b1 : (x.f0.f1 == mt) = false := beq_eq_false_iff_ne.mpr c1
            have c2 : y.f0.f1 = mt := hc.resolve_left c1
            have b2 : (y.f0.f1 == mt) = true := beq_iff_eq.mpr c2
            have HL2 : Aside0 (bothL (la.length + lb.length) la lb = (ds ++ [(x, y)]) ++ bothL m (la.drop i) (lb.drop (j + 1))) := ⟨by rw [HL.out, hrdx.out, hrdy.out, bothL_cons, hmt, if_neg c1, if_pos c2, List.append_assoc]; rfl⟩
            clear c1 c2
            gi_wp2
            go_roundw
            case rel => exact ⟨i, j + 1, m, _, rfl, cast1 j, ⟨by rw [List.length_append, List.length_singleton]; exact bi_n HI.out HII.out⟩, HL2, HB3, hJ3⟩
            case measure => exact bm_n HII.out
    · have hex : ds = bothL (la.length + lb.length) la lb := by
        by_cases hi : i < la.length
        · have hj : ¬ j < lb.length := fun h => hij ⟨hi, h⟩
          have e : lb.drop j = [] := List.drop_eq_nil_of_le (by omega)
          rw [HL.out, e, bothL_nr, List.append_nil]
        · have e : la.drop i = [] := List.drop_eq_nil_of_le (by omega)
          rw [HL.out, e, bothL_nl, List.append_nil]
      by_cases hi : i < la.length
      case' pos =>
        have hd : decide ((i : Int) < (la.length : Int)) = true := decide_eq_true (by omega)
        have hdn : decide (i < la.length) = true := decide_eq_true hi
        have hj : ¬ j < lb.length := fun h => hij ⟨hi, h⟩
        have hd2 : decide ((j : Int) < (lb.length : Int)) = false := decide_eq_false (by omega)
        have hdn2 : decide (j < lb.length) = false := decide_eq_false hj
        clear hj
      case' neg =>
        have hd : decide ((i : Int) < (la.length : Int)) = false := decide_eq_false (by omega)
        have hdn : decide (i < la.length) = false := decide_eq_false hi
      all_goals
        clear hij hi
        gi_wp2
        first | go_end0 | ((try simp only [Exit.inBlock, Exit.then]); refine bodyPost_ret (results_none rfl _ _ _) rfl ?_)
        exact ⟨⟨_, rfl⟩, .inl ⟨ds, hex, hJ⟩⟩
attribute [local go_sem] Oper.semAt_some
attribute [local go_sem high] eqA32
def ofPair (p : PcV × PcV) : S61 := ⟨⟨mxf p, mnt p⟩, (!p.1.f1.f0 == p.2.f1.f0 || !p.1.f1.f1 == p.2.f1.f1)⟩
def putP (out : List S61) (p : PcV × PcV) : List S61 := addB out (ofPair p)
def differL (a b : List S34) : List S61 := (bothL ((a.map pieceOf).length + (b.map pieceOf).length) (a.map pieceOf) (b.map pieceOf)).foldl putP []
def heldB (p : S61) : Option S23 := if p.f1 = true then some p.f0 else none
theorem addB_len (out : List S61) (x : S61) : (addB out x).length ≤ out.length + 1 := by unfold addB; split <;> simp
theorem puts_len : ∀ (ps : List (PcV × PcV)) (out : List S61), (ps.foldl putP out).length ≤ out.length + ps.length
  | [], _ => Nat.le_refl _
  | p :: ps, out => by
    have h1 := puts_len ps (putP out p)
    have h2 := addB_len out (ofPair p)
    have h3 : (putP out p).length ≤ out.length + 1 := h2
    simp only [List.foldl_cons, List.length_cons]
    omega
theorem bothL_len : ∀ (n : Nat) (a b : List PcV), (bothL n a b).length ≤ n
  | 0, _, _ => Nat.zero_le _
  | n + 1, [], b => by simp [bothL]
  | n + 1, x :: xs, [] => by simp [bothL]
  | n + 1, x :: xs, y :: ys => by
    rw [bothL_cons, List.length_cons]
    exact Nat.succ_le_succ (bothL_len n _ _)
def line_Differ.f (k : Nat) (a0_0 a0_1 : Int) (l1 l2 : List S34) : Option (List S23 × Int) := (line_Check.f k a0_0 a0_1 l1).bind fun y => if y ≠ 0 then some ([], 2) else (line_Check.f k a0_0 a0_1 l2).bind fun z => if z ≠ 0 then some ([], 2) else
  if (l1.length + l2.length + 1) * 32 ≤ 140737488355328 then some (if 1024 < ((differL l1 l2).filterMap heldB).length then ([], 11) else ((differL l1 l2).filterMap heldB, 0)) else none
structure DiffIn (w0 W2 W : World) (g Bx : Nat) (pre : List (PcV × PcV)) : Prop where
  line : ∃ v, LnB w0 W g v (pre.foldl putP [])
  box : W.heap[Bx]? = some (.cells #[.pointer (some ⟨g, 0, none⟩)] 48 (0, 0))
  size : W2.heap.size ≤ W.heap.size
theorem DiffIn.own {w0 W2 A B : World} {g Bx N : Nat} {pre : List (PcV × PcV)} {row : Option Nat} (h : DiffIn w0 W2 A g Bx pre) (hg : A.grownBy B row) (hr : ∀ r, row = some r → N ≤ r ∧ ∃ o : Obj, A.heap[r]? = some o ∧ o.isCells = false) (hN : w0.heap.size ≤ N) : DiffIn w0 W2 B g Bx pre := by
  obtain ⟨⟨v, h1, h2, h3, h4⟩, h5, h6⟩ := h
  exact ⟨⟨v, blk_grown_ h1 hg hr, h2, own_grown h3 hg hr, h4.grown hg h4.size (fun k e => by have := (hr k e).1; omega)⟩, blk_grown_ h5 hg hr, Nat.le_trans h6 hg.size⟩
theorem len_ok {a b p q n m : Nat} (h1 : (a + b + 1) * 32 ≤ 140737488355328) (h2 : n ≤ ([] : List S61).length + m) (h3 : m < p + q) (hp : p = a) (hq : q = b) : (n + 1) * 24 ≤ 140737488355328 := by
  rw [List.length_nil] at h2
  refine Nat.le_trans (Nat.mul_le_mul (show n + 1 ≤ a + b + 1 from ?_) (by decide)) h1
  clear h1
  omega
theorem len_ok2 {a b n i m : Nat} (h1 : (a + b + 1) * 32 ≤ 140737488355328) (h2 : n ≤ a + b) (h3 : i < n) (h4 : m ≤ i) : (m + 1) * 16 ≤ 140737488355328 := by
  refine Nat.le_trans (Nat.mul_le_mul (show m + 1 ≤ a + b + 1 from ?_) (by decide)) h1
  clear h1
  omega
theorem dm1 {i n : Nat} (h : i < n) : n - intSz (.int .i64 ((i : Int) + 1)) < n - intSz (.int .i64 (i : Int)) := by simp only [intSz]; omega
theorem blk_below' {W W' : World} {k : Nat} {o : Obj} (h : W.heap[k]? = some o) (hk : k < W.heap.size) (hb : Below W.heap.size W W') : W'.heap[k]? = some o := (hb.block k hk).trans h
theorem DiffIn.below {w0 W2 A B : World} {g Bx : Nat} {pre : List (PcV × PcV)} (h : DiffIn w0 W2 A g Bx pre) (hb : Below A.heap.size A B) : DiffIn w0 W2 B g Bx pre := by
  obtain ⟨⟨v, h1⟩, h5, h6⟩ := h
  exact ⟨⟨v, h1.below hb⟩, blk_below h5 hb, Nat.le_trans h6 hb.size⟩
theorem KeepIn.putWalk {g l : Nat} {W : World} {o : Obj} (h : W.heap[l]? = some o) (hc : o.isCells = false) (o' : Obj) : KeepIn g W (W.putObj l o') := by
  have hg := grownBy_putObj' W l o'
  refine ⟨hg.size, fun k cs t fr _ hb _ => (hg.block k (blk_lt hb) (fun e => ?_)).trans hb⟩
  have e' : k = l := Option.some.inj e
  subst e'
  rw [h] at hb
  cases hb
  cases hc
set_option maxRecDepth 100000 in
set_option maxHeartbeats 4000000 in
theorem line_Differ.walk (k : Nat) (a0_0 a0_1 : Int) (A1 : Option Addr) (c1 : Nat) (l1 : List S34) (A2 : Option Addr) (c2 : Nat) (l2 : List S34) (w : World) (hr1 : Kd.C k34 w A1 l1.length l1) (hc1 : l1.length ≤ c1) (hr2 : Kd.C k34 w A2 l2.length l2) (hc2 : l2.length ≤ c2)
    (h1 : line_Check.f k a0_0 a0_1 l1 = some 0) (h2 : line_Check.f k a0_0 a0_1 l2 = some 0) (hl : (l1.length + l2.length + 1) * 32 ≤ 140737488355328) :
    Calls Try.prog 5 #[.agg #[.int .i64 a0_0, .int .i64 a0_1], .slice A1 l1.length c1, .slice A2 l2.length c2] w fun e w' => ∃ v0_ : Value, e = .returned (.tuple #[v0_, .int .i64 (if 1024 < ((differL l1 l2).filterMap heldB).length then 11 else 0)]) ∧ Kd.R k23 23 w' w.heap.size (fun _ => True) v0_ (if 1024 < ((differL l1 l2).filterMap heldB).length then [] else (differL l1 l2).filterMap heldB) ∧ Below w.heap.size w w' := by
  refine (callsIn_wide (n := 4)).1 ?_
  have HC1 := Aside0.mk hc1
  have HC2 := Aside0.mk hc2
  have H1 := Aside0.mk h1
  have H2 := Aside0.mk h2
  have HL := Aside0.mk hl
  have HB := Aside0.mk (below_alloc (Below.refl w.heap.size w) (.cells #[.int .i64 a0_0, .int .i64 a0_1] 23))
  have HR1 := Aside0.mk (Kd.C_below hr1 HB.out)
  have HR2 := Aside0.mk (Kd.C_below hr2 HB.out)
  have BK := Aside0.mk (heap_alloc_new w (.cells #[.int .i64 a0_0, .int .i64 a0_1] 23))
  have HZ : w.heap.size + 1 ≤ (w.alloc (.cells #[.int .i64 a0_0, .int .i64 a0_1] 23)).heap.size := by rw [World.size_alloc]; exact Nat.le_refl _
  clear hr1 hc1 hr2 hc2 h1 h2 hl
  refine callsIn_of_wp_marks Try.func5 rfl trivial ?_ rfl
  simp only [Try.ntmps5, List.size_toArray, List.length_cons, List.length_nil, Nat.reduceAdd, Nat.reduceSub, Array.replicate_succ, Array.replicate_zero, List.push_toArray, List.append_toArray, List.nil_append, List.cons_append]
  have hc0 := (blk_cell BK.out 0).trans rfl
  have hc1 := (blk_cell BK.out 1).trans rfl
  gi_wp2
  refine ⟨trivial, ?_⟩
  refine (callsIn_wide.2 (line_Check.calls k a0_0 a0_1 A1 c1 l1 0 _ HR1.out HC1.out H1.out)).mono ?_
  rintro e w1 ⟨rfl, hb1⟩
  have BK1 := Aside0.mk (blk_below BK.out hb1)
  have HR2' := Aside0.mk (Kd.C_below HR2.out hb1)
  have HR1' := Aside0.mk (Kd.C_below HR1.out hb1)
  have HB1 := Aside0.mk (below_step HB.out hb1)
  have HZ1 := Nat.le_trans HZ hb1.size
  clear hb1 hc0 hc1 HR1 HR2 HB HZ BK
  have hc0 := (blk_cell BK1.out 0).trans rfl
  have hc1 := (blk_cell BK1.out 1).trans rfl
  gi_wp2
  refine ⟨trivial, ?_⟩
  refine (callsIn_wide.2 (line_Check.calls k a0_0 a0_1 A2 c2 l2 0 _ HR2'.out HC2.out H2.out)).mono ?_
  rintro e w2 ⟨rfl, hb1⟩
  have HR2 := Aside0.mk (Kd.C_below HR2'.out hb1)
  have HR1 := Aside0.mk (Kd.C_below HR1'.out hb1)
  have HB2 := Aside0.mk (below_step HB1.out hb1)
  clear hb1 hc0 hc1 HR1' HR2' HB1 BK1
  gi_wp2
  have HLB : Aside0 (LnB w2 ((w2.alloc (.cells #[.slice none 0 0] 51)).alloc (.cells #[.pointer (some ⟨w2.heap.size, 0, none⟩)] 48)) w2.heap.size (.slice none 0 0) []) :=
    ⟨blk_alloc (heap_alloc_new w2 _) _, Nat.le_refl _, Kd.R_nil _ _ _ _ _, below_alloc (below_alloc (Below.refl _ _) _) _⟩
  have HBX : Aside0 (((w2.alloc (.cells #[.slice none 0 0] 51)).alloc (.cells #[.pointer (some ⟨w2.heap.size, 0, none⟩)] 48)).heap[w2.heap.size + 1]? = some (.cells #[.pointer (some ⟨w2.heap.size, 0, none⟩)] 48 (0, 0))) := ⟨by
    have := heap_alloc_new (w2.alloc (.cells #[.slice none 0 0] 51)) (.cells #[.pointer (some ⟨w2.heap.size, 0, none⟩)] 48)
    rwa [World.size_alloc] at this⟩
  have HR1' := Aside0.mk (Kd.C_below HR1.out HLB.out.2.2.2)
  have HR2' := Aside0.mk (Kd.C_below HR2.out HLB.out.2.2.2)
  have hz3 : w2.heap.size + 2 = ((w2.alloc (.cells #[.slice none 0 0] 51)).alloc (.cells #[.pointer (some ⟨w2.heap.size, 0, none⟩)] 48)).heap.size := by rw [World.size_alloc, World.size_alloc]
  clear HR1 HR2
  generalize ((w2.alloc (.cells #[.slice none 0 0] 51)).alloc (.cells #[.pointer (some ⟨w2.heap.size, 0, none⟩)] 48)) = W3 at HLB HBX HR1' HR2' hz3 ⊢
  refine ⟨trivial, ?_⟩
  refine (callsIn_wide.2 (of_is A1 c1 l1 (by have := HL.out; omega) W3 HR1'.out HC1.out)).mono ?_
  rintro e w4 ⟨rfl, v4, hV4⟩
  have hz4 := hV4.2.2.2.size
  have hs4 := hV4.lt
  have HR2 := Aside0.mk (Kd.C_below HR2'.out hV4.2.2.2)
  have HV4 := Aside0.mk hV4
  clear hV4 HR1' HR2'
  gi_wp2
  refine ⟨trivial, ?_⟩
  refine (callsIn_wide.2 (of_is A2 c2 l2 (by have := HL.out; omega) w4 HR2.out HC2.out)).mono ?_
  rintro e w5 ⟨rfl, v5, hV5⟩
  have hz5 := hV5.2.2.2.size
  have hs5 := hV5.lt
  have HV5 := Aside0.mk hV5
  clear hV5 HR2
  gi_wp2
  refine ⟨trivial, ?_⟩
  refine (both_in _ _ _ _).mono ?_
  rintro e w6 ⟨rfl, rfl⟩
  gi_wp2
  obtain ⟨Aa, ca, rfl⟩ := Kd.R_slice HV4.out.2.2.1
  obtain ⟨Ab, cb, rfl⟩ := Kd.R_slice HV5.out.2.2.1
  have hb6 : Below w5.heap.size w5 ((w5.alloc (.cells #[.pointer (some ⟨W3.heap.size, 0, none⟩)] 55)).alloc (.cells #[.pointer (some ⟨w4.heap.size, 0, none⟩)] 55)) := below_alloc (below_alloc (Below.refl _ _) _) _
  have hba : ((w5.alloc (.cells #[.pointer (some ⟨W3.heap.size, 0, none⟩)] 55)).alloc (.cells #[.pointer (some ⟨w4.heap.size, 0, none⟩)] 55)).heap[w5.heap.size]? = some (.cells #[.pointer (some ⟨W3.heap.size, 0, none⟩)] 55 (0, 0)) := blk_alloc (heap_alloc_new w5 _) _
  have hbb : ((w5.alloc (.cells #[.pointer (some ⟨W3.heap.size, 0, none⟩)] 55)).alloc (.cells #[.pointer (some ⟨w4.heap.size, 0, none⟩)] 55)).heap[w5.heap.size + 1]? = some (.cells #[.pointer (some ⟨w4.heap.size, 0, none⟩)] 55 (0, 0)) := by
    have := heap_alloc_new (w5.alloc (.cells #[.pointer (some ⟨W3.heap.size, 0, none⟩)] 55)) (.cells #[.pointer (some ⟨w4.heap.size, 0, none⟩)] 55)
    rwa [World.size_alloc] at this
  have hz6 : w5.heap.size + 2 = ((w5.alloc (.cells #[.pointer (some ⟨W3.heap.size, 0, none⟩)] 55)).alloc (.cells #[.pointer (some ⟨w4.heap.size, 0, none⟩)] 55)).heap.size := by rw [World.size_alloc, World.size_alloc]
  generalize ((w5.alloc (.cells #[.pointer (some ⟨W3.heap.size, 0, none⟩)] 55)).alloc (.cells #[.pointer (some ⟨w4.heap.size, 0, none⟩)] 55)) = w6 at hb6 hba hbb hz6 ⊢
  have HBI : Aside0 (BothIn w2.heap.size w5.heap.size (w5.heap.size + 1) W3.heap.size w4.heap.size (l1.map pieceOf) (l2.map pieceOf) Aa Ab ca cb w6) := ⟨by
    have h4 := HV4.out.below HV5.out.2.2.2
    have h46 := h4.below hb6
    have h56 := HV5.out.below hb6
    refine ⟨⟨by omega, by omega, by omega, by omega, by omega⟩, hba, hbb, h46.1, h56.1, Kd.R_mono (Kd.R_lower (Kd.R_bound h46.2.2.1) (Nat.zero_le _)) (fun k hk => by have := hk.2.1; omega), Kd.R_mono (Kd.R_lower (Kd.R_bound h56.2.2.1) (Nat.zero_le _)) (fun k hk => by have := hk.2.1; omega)⟩⟩
  have HLB5 := ((HLB.out.below HV4.out.2.2.2).below HV5.out.2.2.2).below hb6
  have HBX5 := blk_below (blk_below (blk_below HBX.out HV4.out.2.2.2) HV5.out.2.2.2) hb6
  have hD0 : DiffIn w2 w6 w6 w2.heap.size (w2.heap.size + 1) [] := ⟨⟨_, HLB5⟩, HBX5, Nat.le_refl _⟩
  clear HLB5 HBX5 hb6 hba hbb
  have hl1 : (l1.map pieceOf).length = l1.length := List.length_map _
  have hl2 : (l2.map pieceOf).length = l2.length := List.length_map _
  have hseq : SeqStopsK Fence.wide 3 Try.prog 31 #[.pointer (some ⟨w5.heap.size, 0, none⟩), .pointer (some ⟨w5.heap.size + 1, 0, none⟩)] encB (KeepIn w2.heap.size) (fun ys => ys = bothL ((l1.map pieceOf).length + (l2.map pieceOf).length) (l1.map pieceOf) (l2.map pieceOf)) (fun _ => True) ((l1.map pieceOf).length + (l2.map pieceOf).length) w6 := fun l J Jx W hW hJ _ hY h0 =>
    (both1_in 3 (by omega) l w2.heap.size w5.heap.size (w5.heap.size + 1) W3.heap.size w4.heap.size (l1.map pieceOf) (l2.map pieceOf) Aa Ab ca cb J Jx hY (fun _ _ _ h hg => hJ _ _ _ none h hg (fun _ e => by cases e)) W (HBI.out.below hW) h0).mono (by
      rintro e W' ⟨hv, (⟨ys, hys, hj⟩ | ⟨pre, hj⟩)⟩
      · exact ⟨hv, .inl ⟨ys, hys, hj⟩⟩
      · exact ⟨hv, .inr ⟨pre, trivial, hj⟩⟩)
  refine wpIn_rangeFunc_ownH rfl (by omega) (gf := 31) (lb := #[.pointer (some ⟨w5.heap.size, 0, none⟩), .pointer (some ⟨w5.heap.size + 1, 0, none⟩)]) rfl trivial (enters_of Try.func31 (by kernel_rfl) rfl)
    hseq (fun h k => h.trans k) (fun W l o o' _ ho hc _ => KeepIn.putWalk ho hc o') (Below.refl _ _) (fun _ => rfl)
    (fun pre W => DiffIn w2 w6 W w2.heap.size (w2.heap.size + 1) pre)
    (fun _ _ _ => False)
    (fun s A B row h hg hr => h.own hg hr (by omega))
    (fun _ _ _ _ _ hs _ _ => hs)
    hD0
    (fun x a' W => ∃ B9 B10, w6.heap.size ≤ B9 ∧ w6.heap.size ≤ B10 ∧ W.heap[B9]? = some (.cells #[.int .i64 (mxf x), .int .i64 (mnt x)] 23 (0, 0)) ∧ W.heap[B10]? = some (.cells #[.int .u8 x.1.f1.f0, .int .i64 x.1.f1.f1, .int .u8 x.2.f1.f0, .int .i64 x.2.f1.f1] 58 (0, 0)) ∧ a' = { tmps := #[.agg #[.int .i64 a0_0, .int .i64 a0_1], .slice A1 l1.length c1, .slice A2 l2.length c2, .pointer (some ⟨w.heap.size, 0, none⟩), undef, undef, .slice none 0 0, .int .i64 0, .pointer (some ⟨w2.heap.size + 1, 0, none⟩), .pointer (some ⟨B9, 0, none⟩), .pointer (some ⟨B10, 0, none⟩), undef, undef, undef, .agg #[.int .i64 a0_0, .int .i64 a0_1], .slice A1 l1.length c1, .int .i64 0, .bool false, .bool false, .agg #[.int .i64 a0_0, .int .i64 a0_1], .slice A2 l2.length c2, .int .i64 0, .bool false, .bool false, .agg #[.slice none 0 0], .pointer (some ⟨w2.heap.size, 0, none⟩), .slice A1 l1.length c1, .pointer (some ⟨W3.heap.size, 0, none⟩), .slice A2 l2.length c2, .pointer (some ⟨w4.heap.size, 0, none⟩), .func (.func 31) #[] #[.pointer (some ⟨w5.heap.size, 0, none⟩), .pointer (some ⟨w5.heap.size + 1, 0, none⟩)], .agg #[.int .i64 (mxf x), .int .i64 (mnt x)], .agg #[.int .u8 x.1.f1.f0, .int .i64 x.1.f1.f1, .int .u8 x.2.f1.f0, .int .i64 x.2.f1.f1], undef, undef, undef, undef, undef, undef, undef, undef, undef, undef, undef, undef, undef, undef, undef, undef, undef, undef, undef, undef, undef, undef, undef, undef, undef, undef, undef, undef, undef], defers := [] })
    (fun x a' _ A B row ⟨B9, B10, h1, h2, h3, h4, h5⟩ hg hr => ⟨B9, B10, h1, h2, blk_grown_ h3 hg hr, blk_grown_ h4 hg hr, h5⟩) ?assign ?body ?done ?stop
  case assign =>
    rintro l pre x W K hI hK
    dsimp only [encB]
    gi_wp2
    have hb : Below W.heap.size W ((W.alloc (.cells #[.int .i64 (mxf x), .int .i64 (mnt x)] 23)).alloc (.cells #[.int .u8 x.1.f1.f0, .int .i64 x.1.f1.f1, .int .u8 x.2.f1.f0, .int .i64 x.2.f1.f1] 58)) := below_alloc (below_alloc (Below.refl _ _) _) _
    refine hK _ _ ((others_below hb).from _) (KeepIn.below (n := 0) hb) (hI.below hb) ⟨W.heap.size, W.heap.size + 1, hI.size, Nat.le_trans hI.size (Nat.le_succ _), ?_, ?_, rfl⟩
    · exact blk_alloc (heap_alloc_new W _) _
    have := heap_alloc_new (W.alloc (.cells #[.int .i64 (mxf x), .int .i64 (mnt x)] 23)) (.cells #[.int .u8 x.1.f1.f0, .int .i64 x.1.f1.f1, .int .u8 x.2.f1.f0, .int .i64 x.2.f1.f1] 58)
    rwa [World.size_alloc] at this
  case body =>
    rintro l pre x a' W hl hr hI ⟨B9, B10, hB9, hB10, h9, h10, rfl⟩ hlt
    obtain ⟨v, hv⟩ := hI.line
    have HV := Aside0.mk hv
    have HI := Aside0.mk hI
    have HLEN : Aside0 (((pre.foldl putP []).length + 1) * 24 ≤ 140737488355328) := ⟨len_ok HL.out (puts_len pre []) hlt hl1 hl2⟩
    have HPX : Aside0 ((pre ++ [x]).foldl putP [] = addB (pre.foldl putP []) (ofPair x)) := ⟨by rw [List.foldl_append]; rfl⟩
    have hcx := (blk_cell hI.box 0).trans (rfl : _ = some (Value.pointer (some ⟨w2.heap.size, 0, none⟩)))
    have hc90 := (blk_cell h9 0).trans (rfl : _ = some (Value.int .i64 (mxf x)))
    have hc91 := (blk_cell h9 1).trans (rfl : _ = some (Value.int .i64 (mnt x)))
    have hp0 := (blk_cell h10 0).trans (rfl : _ = some (Value.int .u8 x.1.f1.f0))
    have hp1 := (blk_cell h10 1).trans (rfl : _ = some (Value.int .i64 x.1.f1.f1))
    have hp2 := (blk_cell h10 2).trans (rfl : _ = some (Value.int .u8 x.2.f1.f0))
    have hp3 := (blk_cell h10 3).trans (rfl : _ = some (Value.int .i64 x.2.f1.f1))
    have HVD := Aside0.mk (hv.below (below_drew1 (Below.refl W.heap.size W)))
    have HID := Aside0.mk (hI.below (below_drew1 (Below.refl W.heap.size W)))
    clear hv hI h9 h10 hl hr hlt HV HI
    have hmo : Try.prog.follows .mixedOrders = true := by kernel_rfl
    gi_wp2
    refine startI (m := 8) (S := fun w' => w'.cell? ⟨w2.heap.size + 1, 0, none⟩ = some (.pointer (some ⟨w2.heap.size, 0, none⟩)) ∧ w'.cell? ⟨B9, 0, none⟩ = some (.int .i64 (mxf x)) ∧ w'.cell? ⟨B9, 1, none⟩ = some (.int .i64 (mnt x)) ∧ w'.cell? ⟨B10, 0, none⟩ = some (.int .u8 x.1.f1.f0) ∧ w'.cell? ⟨B10, 1, none⟩ = some (.int .i64 x.1.f1.f1) ∧ w'.cell? ⟨B10, 2, none⟩ = some (.int .u8 x.2.f1.f0) ∧ w'.cell? ⟨B10, 3, none⟩ = some (.int .i64 x.2.f1.f1)) (ds := [7]) #[false,false,false,false,false,false,false,false] hmo rfl rfl ?_
    have hHeld : W.drew.cell? ⟨w2.heap.size + 1, 0, none⟩ = some (.pointer (some ⟨w2.heap.size, 0, none⟩)) ∧ W.drew.cell? ⟨B9, 0, none⟩ = some (.int .i64 (mxf x)) ∧ W.drew.cell? ⟨B9, 1, none⟩ = some (.int .i64 (mnt x)) ∧ W.drew.cell? ⟨B10, 0, none⟩ = some (.int .u8 x.1.f1.f0) ∧ W.drew.cell? ⟨B10, 1, none⟩ = some (.int .i64 x.1.f1.f1) ∧ W.drew.cell? ⟨B10, 2, none⟩ = some (.int .u8 x.2.f1.f0) ∧ W.drew.cell? ⟨B10, 3, none⟩ = some (.int .i64 x.2.f1.f1) := ⟨hcx, hc90, hc91, hp0, hp1, hp2, hp3⟩
    refine takeI (fun _ => trivial) (by kernel_rfl) (i := 0) (N := some 33) (v := ?_) (a' := ?_) #[true,false,false,false,false,false,false,false] rfl rfl (by kernel_rfl) (fun _ _ _ h => h) (Or.inl ⟨by rfl, ?_⟩) hHeld ?_ ?_
    rotate_left
    · rintro w' ⟨s0, s1, s2, s3, s4, s5, s6⟩
      go_simp
      with_reducible rfl
    rotate_left
    · simp only [Go.Act.put]
      rfl
    refine takeI (fun _ => trivial) (by kernel_rfl) (i := 1) (N := some 34) (v := ?_) (a' := ?_) #[true,true,false,false,false,false,false,false] rfl rfl (by kernel_rfl) (fun _ _ _ h => h) (Or.inl ⟨by rfl, ?_⟩) hHeld ?_ ?_
    rotate_left
    · rintro w' ⟨s0, s1, s2, s3, s4, s5, s6⟩
      go_simp
      with_reducible rfl
    rotate_left
    · simp only [Go.Act.put]
      rfl
    refine pureI (fun _ => trivial) (by kernel_rfl) (i := 2) (N := some 35) (v := ?_) (a' := ?_) #[true,true,true,false,false,false,false,false] rfl rfl (by kernel_rfl) (fun _ _ _ h => h) (Or.inl ⟨by rfl, ?_⟩) ?_ ?_
    rotate_left
    · intro w'
      go_simp
      with_reducible rfl
    rotate_left
    · simp only [Go.Act.put]
      rfl
    refine takeI (fun _ => trivial) (by kernel_rfl) (i := 3) (N := some 36) (v := ?_) (a' := ?_) #[true,true,true,true,false,false,false,false] rfl rfl (by kernel_rfl) (fun _ _ _ h => h) (Or.inl ⟨by rfl, ?_⟩) hHeld ?_ ?_
    rotate_left
    · rintro w' ⟨s0, s1, s2, s3, s4, s5, s6⟩
      go_simp
      with_reducible rfl
    rotate_left
    · simp only [Go.Act.put]
      rfl
    refine pureI (fun _ => trivial) (by kernel_rfl) (i := 4) (N := some 37) (v := ?_) (a' := ?_) #[true,true,true,true,true,false,false,false] rfl rfl (by kernel_rfl) (fun _ _ _ h => h) (Or.inl ⟨by rfl, ?_⟩) ?_ ?_
    rotate_left
    · intro w'
      go_simp
      with_reducible rfl
    rotate_left
    · simp only [Go.Act.put]
      rfl
    refine takeI (fun _ => trivial) (by kernel_rfl) (i := 5) (N := some 38) (v := ?_) (a' := ?_) #[true,true,true,true,true,true,false,false] rfl rfl (by kernel_rfl) (fun _ _ _ h => h) (Or.inl ⟨by rfl, ?_⟩) hHeld ?_ ?_
    rotate_left
    · rintro w' ⟨s0, s1, s2, s3, s4, s5, s6⟩
      go_simp
      with_reducible rfl
    rotate_left
    · simp only [Go.Act.put]
      rfl
    refine pureI (fun _ => trivial) (by kernel_rfl) (i := 6) (N := some 39) (v := ?_) (a' := ?_) #[true,true,true,true,true,true,true,false] rfl rfl (by kernel_rfl) (fun _ _ _ h => h) (Or.inl ⟨by rfl, ?_⟩) ?_ ?_
    rotate_left
    · intro w'
      go_simp
      with_reducible rfl
    rotate_left
    · simp only [Go.Act.put]
      rfl
    refine lastI (i := 7) (N := some 40) #[true,true,true,true,true,true,true,true] rfl rfl (by kernel_rfl) (by decide) (by rfl) (fun K hK => ?_)
    clear hHeld
    go_simp
    refine ⟨trivial, ?_⟩
    refine (CallsIn.inRound l (callsIn_wide.2 (addB_is w2.heap.size v (pre.foldl putP []) (ofPair x) w2 W.drew HLEN.out HVD.out))).mono ?_
    rintro e w7 ⟨rfl, ⟨v7, hl7⟩, hk7, ho7⟩
    refine hK _ _ (doneI (by kernel_rfl) ?_)
    simp only [Exit.inBlock]
    have hI := HID.out
    refine ⟨((KeepsOthers.drew W).trans ho7).from _, (KeepIn.below (n := 0) (below_drew1 (Below.refl W.heap.size W))).trans hk7, ⟨⟨v7, by rw [HPX.out]; exact hl7⟩, hk7.2 _ _ _ _ (Nat.lt_succ_self _) hI.box (by decide), Nat.le_trans hI.size hk7.1⟩⟩
  case done =>
    rintro D xs W hD hxs hI hDd
    obtain ⟨v, hv⟩ := hI.line
    obtain ⟨out, hout⟩ : ∃ out, differL l1 l2 = out := ⟨_, rfl⟩
    have e1 : xs.foldl putP [] = out := by rw [hxs]; exact hout
    have hln : out.length ≤ l1.length + l2.length := by
      have q1 := puts_len xs []
      have q2 := bothL_len ((l1.map pieceOf).length + (l2.map pieceOf).length) (l1.map pieceOf) (l2.map pieceOf)
      rw [← hxs] at q2
      rw [e1, List.length_nil, Nat.zero_add] at q1
      rw [hl1, hl2] at q2
      exact Nat.le_trans q1 q2
    rw [e1] at hv
    have HOUT := Aside0.mk hout
    obtain ⟨A, c, rfl⟩ := Kd.R_slice hv.2.2.1
    have hcx := (blk_cell hI.box 0).trans (rfl : _ = some (Value.pointer (some ⟨w2.heap.size, 0, none⟩)))
    have hcl := (blk_cell hv.1 0).trans (rfl : _ = some (Value.slice A out.length c))
    have HC := Aside0.mk (Kd.R_reads' hv.2.2.1).2.2
    have HM := Aside0.mk (Kd.C_max HC.out)
    have HBW := Aside0.mk (below_step HB2.out (hv.2.2.2))
    have HLN := Aside0.mk hln
    have HD := Aside0.mk hDd
    have HDl := blk_lt hDd
    have HDw : Aside0 (w.heap.size ≤ D) := ⟨Nat.le_trans (Nat.le_trans HB2.out.size (by omega)) hD⟩
    clear hI hv hDd e1 hxs hout hln hD
    gi_wp2
    clear hcx hcl
    gi_loopw [11, 46] (fun v11 v46 wr => ∃ (i : Nat), v46 = .int .i64 (i : Int) ∧ Aside0 (i ≤ out.length) ∧ Aside0 (Kd.R k23 23 wr W.heap.size (fun _ => True) v11 ((out.take i).filterMap heldB)) ∧ Aside0 (Below W.heap.size W wr))
      (fun _ v46 _ => out.length - intSz v46)
    case atStart => exact ⟨0, rfl, ⟨Nat.zero_le _⟩, ⟨Kd.R_nil _ _ _ _ _⟩, ⟨Below.refl _ _⟩⟩
    case round =>
      obtain ⟨i, rfl, HJ, HO, Hb⟩ := hrel
      have hm := HM.out
      obtain ⟨A3, c3, rfl⟩ := Kd.R_slice HO.out
      by_cases hi : i < out.length
      · have hd : decide ((i : Int) < (out.length : Int)) = true := decide_eq_true (by omega)
        have hdn : decide (i < out.length) = true := decide_eq_true hi
        have p0 : (0 : Int) ≤ (i : Int) := by omega
        have q0 : (i : Int) < (out.length : Int) := by omega
        obtain ⟨ad, ead, hx0, hx1, hx2⟩ := at_T61 (Kd.C_below HC.out Hb.out) (i : Int) p0 q0
        cases ead
        simp only [Int.toNat_natCast] at hx0 hx1 hx2
        obtain ⟨x, hx⟩ : ∃ x, rd_T61 out (i : Int) = x := ⟨_, rfl⟩
        rw [hx] at hx0 hx1 hx2
        have htk : (out.take (i + 1)).filterMap heldB = (out.take i).filterMap heldB ++ (heldB x).toList := by
          rw [List.take_succ_eq_append_getElem hi, List.filterMap_append, ← hx]
          have e2 : rd_T61 out (i : Int) = out[i] := by simp [rd_T61, List.getD_eq_getElem?_getD, hi]
          rw [e2, List.filterMap_cons, List.filterMap_nil]
          cases heldB out[i] <;> rfl
        have HT := Aside0.mk htk
        have HII := Aside0.mk hi
        have HLL : Aside0 ((((out.take i).filterMap heldB).length + 1) * 16 ≤ 140737488355328) := ⟨len_ok2 HL.out HLN.out hi (Nat.le_trans (List.length_filterMap_le _ _) (by rw [List.length_take]; exact Nat.min_le_left _ _))⟩
        have wi : IntKind.i64.wrap ((i : Int) + 1) = (i : Int) + 1 := by rw [i64_w]; unfold wrap64; omega
        replace p0 := eq_true p0
        replace q0 := eq_true q0
        clear hx htk hi
        by_cases hh : x.f1 = true
        · have HT1 : Aside0 ((out.take (i + 1)).filterMap heldB = (out.take i).filterMap heldB ++ [x.f0]) := ⟨by rw [HT.out]; simp only [heldB, if_pos hh]; rfl⟩
          rw [hh] at hx2
          clear hh
          gi_wp2_with (gi_at_builtin; refine R_append_in k23 (w0 := W) W.heap.size rfl (.tmp 52) (.tmp 55) 26 23 (.agg #[(.int .i64 0), (.int .i64 0)]) 16 rfl Try.underlying26 info23 rfl (by decide) (by omega) _ ((out.take i).filterMap heldB) x.f0 [.int .i64 x.f0.f0, .int .i64 x.f0.f1] (fun _ => True) (fun _ => False) rfl ?aX (k23_mkM _ _ _ x.f0) (fun _ hk => hk.elim) (fun _ _ => trivial) (Kd.R_alloc HO.out (.cells #[.int .i64 x.f0.f0, .int .i64 x.f0.f1, .bool true] 61)) (below_alloc Hb.out (.cells #[.int .i64 x.f0.f0, .int .i64 x.f0.f1, .bool true] 61)) (below_alloc Hb.out _).size HLL.out ?_; (case aX => first | rfl | (go_simp; done) | (go_simp; rfl)); intro v1 w1 ho1 hb1 hg1 hat1; have HO1 := Aside0.mk ho1; have Hb1 := Aside0.mk hb1; clear ho1 hb1 hg1 hat1)
          go_roundw
          case rel => exact ⟨i + 1, cast1 i, ⟨HII.out⟩, ⟨by rw [HT1.out]; exact HO1.out⟩, Hb1⟩
          case measure => exact dm1 HII.out
        · have hh0 : x.f1 = false := by cases hq : x.f1 with | true => exact absurd hq hh | false => rfl
          have HT1 : Aside0 ((out.take (i + 1)).filterMap heldB = (out.take i).filterMap heldB) := ⟨by rw [HT.out]; simp only [heldB, if_neg hh]; exact List.append_nil _⟩
          rw [hh0] at hx2
          clear hh hh0
          gi_wp2
          go_roundw
          case rel => exact ⟨i + 1, cast1 i, ⟨HII.out⟩, ⟨by rw [HT1.out]; exact Kd.R_alloc HO.out _⟩, ⟨below_alloc Hb.out _⟩⟩
          case measure => exact dm1 HII.out
      · have hd : decide ((i : Int) < (out.length : Int)) = false := decide_eq_false (by omega)
        have hdn : decide (i < out.length) = false := decide_eq_false hi
        have ho := HO.out
        generalize hv : (Value.slice A3 ((out.take i).filterMap heldB).length c3) = vv at ho
        rw [List.take_of_length_le (by omega)] at ho
        subst hv
        have hlen : ((out.take i).filterMap heldB).length = (out.filterMap heldB).length := by rw [List.take_of_length_le (by omega)]
        rw [hlen] at ho
        have HO2 := Aside0.mk ho
        have e := HOUT.out
        subst e
        clear ho HO
        rw [hlen] at *
        by_cases hc : 1024 < ((differL l1 l2).filterMap heldB).length
        · have hdc : decide ((1024 : Int) < (((differL l1 l2).filterMap heldB).length : Int)) = true := decide_eq_true (by omega)
          have hdc2 : decide (1024 < ((differL l1 l2).filterMap heldB).length) = true := decide_eq_true hc
          gi_wp2
          have hDd := blk_below' HD.out HDl Hb.out
          have hgr := grownBy_putObj' wr D (.deferred none)
          have hrr : ∀ r, some D = some r → w.heap.size ≤ r ∧ ∃ o : Obj, wr.heap[r]? = some o ∧ o.isCells = false := fun r e => by cases e; exact ⟨HDw.out, _, hDd, rfl⟩
          refine ⟨by simp, .inl ⟨_, _, rfl, run_takeDeferred hDd, ?_⟩⟩
          exact ⟨_, results_list (rs := [.tmp 6, .tmp 7]) rfl (by simp) (.tmp (.tmp .nil)), _, rfl, Kd.R_nil _ _ _ _ _, (below_step HBW.out Hb.out).grown hgr (below_step HBW.out Hb.out).size (fun k e => (hrr k e).1)⟩
        · have hdc : decide ((1024 : Int) < (((differL l1 l2).filterMap heldB).length : Int)) = false := decide_eq_false (by omega)
          have hdc2 : decide (1024 < ((differL l1 l2).filterMap heldB).length) = false := decide_eq_false hc
          gi_wp2
          have hDd := blk_below' HD.out HDl Hb.out
          have hgr := grownBy_putObj' wr D (.deferred none)
          have hrr : ∀ r, some D = some r → w.heap.size ≤ r ∧ ∃ o : Obj, wr.heap[r]? = some o ∧ o.isCells = false := fun r e => by cases e; exact ⟨HDw.out, _, hDd, rfl⟩
          refine ⟨by simp, .inl ⟨_, _, rfl, run_takeDeferred hDd, ?_⟩⟩
          exact ⟨_, results_list (rs := [.tmp 6, .tmp 7]) rfl (by simp) (.tmp (.tmp .nil)), _, rfl, Kd.R_lower (own_grown HO2.out hgr hrr) HBW.out.size, (below_step HBW.out Hb.out).grown hgr (below_step HBW.out Hb.out).size (fun k e => (hrr k e).1)⟩
  case stop =>
    rintro D c pre W _ _ h _
    exact h.elim
set_option maxRecDepth 100000 in
set_option maxHeartbeats 4000000 in
theorem line_Differ.calls (k : Nat) (a0_0 : Int) (a0_1 : Int) (A1 : Option Addr) (c1 : Nat) (l1 : List (S34)) (A2 : Option Addr) (c2 : Nat) (l2 : List (S34)) (r1 : List (S23)) (r2 : Int) (w : World) (hr1 : Kd.C k34 w A1 l1.length l1) (hc1 : l1.length ≤ c1) (hr2 : Kd.C k34 w A2 l2.length l2) (hc2 : l2.length ≤ c2) (h : line_Differ.f k a0_0 a0_1 l1 l2 = some (r1, r2)) :
    Calls Try.prog 5 #[.agg #[.int .i64 a0_0, .int .i64 a0_1], .slice A1 l1.length c1, .slice A2 l2.length c2] w fun e w' => ∃ v0_ : Value, e = .returned (.tuple #[v0_, .int .i64 r2]) ∧ Kd.R k23 23 w' w.heap.size (fun _ => True) v0_ r1 ∧ Below w.heap.size w w' := by
  obtain ⟨y, hy, h⟩ := Option.bind_eq_some_iff.mp h
  by_cases cy : y = 0
  · subst cy
    rw [if_neg (by simp)] at h
    obtain ⟨z, hz, h⟩ := Option.bind_eq_some_iff.mp h
    by_cases cz : z = 0
    · subst cz
      rw [if_neg (by simp)] at h
      by_cases hl : (l1.length + l2.length + 1) * 32 ≤ 140737488355328
      case neg => rw [if_neg hl] at h; cases h
      rw [if_pos hl] at h
      have e := Option.some.inj h
      clear h
      refine (line_Differ.walk k a0_0 a0_1 A1 c1 l1 A2 c2 l2 w hr1 hc1 hr2 hc2 hy hz hl).mono ?_
      rintro e_ w' ⟨v, hv, ho, hb⟩
      by_cases hc : 1024 < ((differL l1 l2).filterMap heldB).length
      · rw [if_pos hc] at e hv ho
        obtain ⟨e1, e2⟩ := Prod.mk.inj e
        subst e1
        subst e2
        exact ⟨v, hv, ho, hb⟩
      · rw [if_neg hc] at e hv ho
        obtain ⟨e1, e2⟩ := Prod.mk.inj e
        subst e1
        subst e2
        exact ⟨v, hv, ho, hb⟩
    · rw [if_pos cz] at h
      obtain ⟨e1, e2⟩ := Prod.mk.inj (Option.some.inj h)
      subst e1
      subst e2
      have d0 : (z != 0) = true := bne_iff_ne.mpr cz
      have H1 := Aside0.mk hy
      have H2 := Aside0.mk hz
      have HC1 := Aside0.mk hc1
      have HC2 := Aside0.mk hc2
      have HB := Aside0.mk (below_alloc (Below.refl w.heap.size w) (.cells #[.int .i64 a0_0, .int .i64 a0_1] 23))
      have HR1 := Aside0.mk (Kd.C_below hr1 HB.out)
      have HR2 := Aside0.mk (Kd.C_below hr2 HB.out)
      have BK := Aside0.mk (heap_alloc_new w (.cells #[.int .i64 a0_0, .int .i64 a0_1] 23))
      clear hr1 hc1 hr2 hc2 hy hz h cz
      go_enter Try.func5, Try.ntmps5
      have hc0 := (blk_cell BK.out 0).trans rfl
      have hc1 := (blk_cell BK.out 1).trans rfl
      go_wp2_with (first
        | (go_at_call_of 14 A1; refine (line_Check.calls k a0_0 a0_1 A1 c1 l1 0 _ HR1.out HC1.out H1.out).mono ?_; rintro e w5 ⟨rfl, hb5⟩; have BK5 := Aside0.mk (blk_below BK.out hb5); have HB5 := Aside0.mk (below_step HB.out hb5); have HR25 := Aside0.mk (Kd.C_below HR2.out hb5); have hs0 := (blk_cell BK5.out 0).trans rfl; have hs1 := (blk_cell BK5.out 1).trans rfl; clear hb5)
        | (go_at_call_of 14 A2; refine (line_Check.calls k a0_0 a0_1 A2 c2 l2 z _ HR25.out HC2.out H2.out).mono ?_; rintro e w6 ⟨rfl, hb6⟩; have HB6 := Aside0.mk (below_step HB5.out hb6); clear hb6))
      go_ret2
      exact ⟨_, rfl, Kd.R_nil _ _ _ _ _, HB6.out⟩
  · rw [if_pos cy] at h
    obtain ⟨e1, e2⟩ := Prod.mk.inj (Option.some.inj h)
    subst e1
    subst e2
    have d0 : (y != 0) = true := bne_iff_ne.mpr cy
    have H1 := Aside0.mk hy
    have HC1 := Aside0.mk hc1
    have HB := Aside0.mk (below_alloc (Below.refl w.heap.size w) (.cells #[.int .i64 a0_0, .int .i64 a0_1] 23))
    have HR1 := Aside0.mk (Kd.C_below hr1 HB.out)
    have BK := Aside0.mk (heap_alloc_new w (.cells #[.int .i64 a0_0, .int .i64 a0_1] 23))
    clear hr1 hc1 hr2 hc2 hy h cy
    go_enter Try.func5, Try.ntmps5
    have hc0 := (blk_cell BK.out 0).trans rfl
    have hc1 := (blk_cell BK.out 1).trans rfl
    go_wp2_with (go_at_call 14; refine (line_Check.calls k a0_0 a0_1 A1 c1 l1 y _ HR1.out HC1.out H1.out).mono ?_; rintro e w5 ⟨rfl, hb5⟩; have HB5 := Aside0.mk (below_step HB.out hb5); clear hb5)
    go_ret2
    exact ⟨_, rfl, Kd.R_nil _ _ _ _ _, HB5.out⟩
def line_When.l0 : Nat → List (S23) → List (S34) → Int → Int → Int → Int → Option ((List (S23)) × Int)
 | 0, _, _, _, _, _, _ => none
 | k + 1, x9, x18, x19, x20, x154000, x154001 => if x20 < x19 then (if 0 ≤ x20 then (if x20 < (x18.length : Int) then (if (((rd_T34 x18 x20).f1.f0) == x154000 && (((rd_T34 x18 x20).f1.f1) == x154001)) = true then (if x9.length < 8796093022208 then (line_When.l0 k (x9 ++ [(⟨(rd_T34 x18 x20).f0.f0, (rd_T34 x18 x20).f0.f1⟩ : S23)]) x18 x19 (wrap64 (x20 + 1)) x154000 x154001) else (none)) else (line_When.l0 k x9 x18 x19 (wrap64 (x20 + 1)) x154000 x154001)) else (none)) else (none)) else (some (x9, 0))
def line_When.f (k : Nat) (a0_0 : Int) (a0_1 : Int) (l1 : List (S34)) (a2_0 : Int) (a2_1 : Int) : Option ((List (S23)) × Int) := (line_Check.f k a0_0 a0_1 l1).bind fun t154 => (if t154 = 0 then (line_When.l0 k ([] : List (S23)) l1 (l1.length : Int) 0 a2_0 a2_1) else (some (([] : List (S23)), t154)))
set_option maxHeartbeats 8000000 in
set_option maxRecDepth 100000 in
theorem line_When.calls (k : Nat) (a0_0 : Int) (a0_1 : Int) (A1 : Option Addr) (c1 : Nat) (l1 : List (S34)) (a2_0 : Int) (a2_1 : Int) (r1 : List (S23)) (r2 : Int) (w : World) (hr1 : Kd.C k34 w A1 l1.length l1) (hc1 : l1.length ≤ c1) (h : line_When.f k a0_0 a0_1 l1 a2_0 a2_1 = some (r1, r2)) :
  Calls Try.prog 6 #[.agg #[.int .i64 a0_0, .int .i64 a0_1], .slice A1 l1.length c1, .agg #[.int .u8 a2_0, .int .i64 a2_1]] w fun e w' => ∃ v0_ : Value, e = .returned (.tuple #[v0_, .int .i64 r2]) ∧ Kd.R k23 23 w' w.heap.size (fun _ => True) v0_ r1 ∧ Below w.heap.size w w' := by
 have hu23 := Try.underlying23
 have hu32 := Try.underlying32
 have hu34 := Try.underlying34
 have HR1 := Ax hr1
 have HC1 := Ax hc1
 clear hr1 hc1
 have HB := Ax (Below.refl w.heap.size w)
 have H : ((line_Check.f k a0_0 a0_1 l1).bind fun t154 => (if t154 = 0 then (line_When.l0 k ([] : List (S23)) l1 (l1.length : Int) 0 a2_0 a2_1) else (some (([] : List (S23)), t154)))) = some (r1, r2) := h
 clear h
 replace H := Option.bind_eq_some_iff.mp H
 obtain ⟨t154, A40, H⟩ := H
 replace H : (if t154 = 0 then (line_When.l0 k ([] : List (S23)) l1 (l1.length : Int) 0 a2_0 a2_1) else (some (([] : List (S23)), t154))) = some (r1, r2) := H
 have A4 := Ax A40
 clear A40
 by_cases c5 : t154 = 0
 ·rw [if_pos c5] at H
  have c5b0 : (t154 == 0) = true := beq_iff_eq.mpr c5
  have c5b1 : (t154 != 0) = false := bne_eq_false_iff_eq.mpr c5
  clear c5
  have H' := Ax H
  clear H
  go_enter Try.func6, Try.ntmps6
  go_wp2_with (first | ((with_reducible refine gate_dst (N := 3) rfl ?_); refine box_event ?hg (N := 3) ?hd (cs := #[.int .i64 a0_0, .int .i64 a0_1]) (t := 23) ?hr ?_; (case hd => rfl); (case hg => rfl); (case hr => first | (go_simp; done) | (go_simp; rfl)); intro gb152 hg w6 hbox hb; have n0_ := Bs0 HB hb; have n1_ := Ax (hbox); have n2_ := Gw0 HB hg; have n3_ := Gw0 HB hg; clear HB; have HB := n0_; have BK152 := n1_; have GW152 := n2_; have GE152 := n3_; clear n0_ n1_ n2_ n3_; clear hb hbox hg) | ((with_reducible refine gate_dst (N := 5) rfl ?_); refine box_event ?hg (N := 5) ?hd (cs := #[.int .u8 a2_0, .int .i64 a2_1]) (t := 32) ?hr ?_; (case hd => rfl); (case hg => rfl); (case hr => first | (go_simp; done) | (go_simp; rfl)); intro gb153 hg w7 hbox hb; have n0_ := Bx0 BK152 hb; have n1_ := Bs1 HB hb GE152.out; have n2_ := Ax (hbox); have n3_ := Gw1 HB hg GE152.out; have n4_ := Gw1 HB hg GE152.out; have n5_ := Nl0 BK152 hg; have n6_ := Nr0 BK152 hg; clear BK152; clear HB; have BK152 := n0_; have HB := n1_; have BK153 := n2_; have GW153 := n3_; have GE153 := n4_; have NB152_153 := n5_; have NB153_152 := n6_; clear n0_ n1_ n2_ n3_ n4_ n5_ n6_; clear hb hbox hg; have hnb8 := NB152_153.out; have hnc8 := NB153_152.out; obtain ⟨hcz9_0, hcz9_1, hfz9_0, hfz9_1⟩ := cl2 BK152) | ((with_reducible refine gate_callee (f := 14) rfl ?_); refine goesL_ (some 14) rfl rfl Try.func14 (by kernel_rfl) rfl #[.agg #[.int .i64 a0_0, .int .i64 a0_1], .slice A1 l1.length c1] rfl gS ?_; (with_reducible refine (line_Check.calls k a0_0 a0_1 _ _ l1 t154 _ ?side1 ?side2 A4.out).mono ?_); (case side1 => repeat (first | exact (Kd.C_below HR1.out HB.out) | (with_reducible refine Kd.C_alloc ?_ _) | (with_reducible refine Kd.C_drewN ?_ _) | (with_reducible refine Kd.C_drew ?_))); (case side2 => exact HC1.out); rintro e w10 ⟨rfl, hb⟩; refine ⟨_, rfl, ?_⟩; replace BK152 := Bx0 BK152 hb; replace BK153 := Bx0 BK153 hb; replace HB := Bs2 HB hb GE152.out GE153.out; (try clear hb)))
  go_loopg [9, 20] k (fun kq v9 v20 w' => ∃ (x9_1 : List (S23)) (x20_1 : Int), v20 = .int .i64 x20_1 ∧ Aside0 (line_When.l0 kq x9_1 l1 (l1.length : Int) x20_1 a2_0 a2_1 = some (r1, r2)) ∧ Aside0 (kq ≤ k) ∧ Aside0 (Kd.R k23 23 w' w.heap.size (fun k_ => k_ ≠ gb152) v9 x9_1) ∧ Aside0 (w'.heap[gb152]? = some (.cells #[.int .i64 a0_0, .int .i64 a0_1] 23 (0, 0))) ∧ Aside0 (w'.heap[gb153]? = some (.cells #[.int .u8 a2_0, .int .i64 a2_1] 32 (0, 0))) ∧ Aside0 (Below w.heap.size w w'))
  case atStart => exact ⟨(([] : List (S23))), (0), rS, H', ⟨Nat.le_refl _⟩, ⟨by first | exact Kd.R_nil _ _ _ _ _ | exact Kd.N_nil _ _ _ _ _ | exact Kd.V_nil _ _ _ _ _ | exact Kd.Q_nil _ _ _ _ _ | exact Kd.S_nil _ _ _ _ _⟩, ⟨bf0 BK152.out⟩, ⟨bf0 BK153.out⟩, ⟨bw2 HB.out GE152.out GE153.out⟩⟩
  case round =>
   clear H'
   try clear c1
   try clear p2
   try clear c5
   try clear c5b0
   try clear c5b1
   try clear c6
   try clear c8
   try clear hcz9_0
   try clear hcz9_1
   try clear hfz9_0
   try clear hfz9_1
   obtain ⟨x9_1, x20_1, rfl, HA, HK1, HO_9, BK152, BK153, HB⟩ := hrel
   cases gk with
   | zero => exact absurd HA.out (by simp [line_When.l0])
   | succ k1 =>
    have H := HA.out
    clear HA
    simp only [line_When.l0] at H
    by_cases c11 : x20_1 < (l1.length : Int)
    ·rw [if_pos c11] at H
     have c11b0 : decide (x20_1 < (l1.length : Int)) = true := decide_eq_true c11
     clear c11
     by_cases c12 : 0 ≤ x20_1
     ·rw [if_pos c12] at H
      have c12b0 : decide (0 ≤ x20_1) = true := decide_eq_true c12
      clear c12
      by_cases c13 : x20_1 < (l1.length : Int)
      ·rw [if_pos c13] at H
       have c13b0 : decide (x20_1 < (l1.length : Int)) = true := decide_eq_true c13
       clear c13
       by_cases c14 : (((rd_T34 l1 x20_1).f1.f0) == a2_0 && (((rd_T34 l1 x20_1).f1.f1) == a2_1)) = true
       ·rw [if_pos c14] at H
        have c14b0 : (((rd_T34 l1 x20_1).f1.f0) == a2_0 && (((rd_T34 l1 x20_1).f1.f1) == a2_1)) = true := c14
        (try (have c14b1 : decide (((rd_T34 l1 x20_1).f1.f0) = a2_0 && (((rd_T34 l1 x20_1).f1.f1) == a2_1)) = true := by simpa using c14))
        (try (have c14b2 : (((rd_T34 l1 x20_1).f1.f0) == a2_0 && (((rd_T34 l1 x20_1).f1.f1) == a2_1)) = true := by simpa using c14))
        clear c14
        by_cases c15 : x9_1.length < 8796093022208
        ·rw [if_pos c15] at H
         have LMc15 := Ax c15
         clear c15
         obtain ⟨y157, hy157⟩ : ∃ y_ : List (S23), y_ = (x9_1 ++ [(⟨(rd_T34 l1 x20_1).f0.f0, (rd_T34 l1 x20_1).f0.f1⟩ : S23)]) := ⟨_, rfl⟩
         replace H : (line_When.l0 k1 y157 l1 (l1.length : Int) (wrap64 (x20_1 + 1)) a2_0 a2_1) = some (r1, r2) := by first | (rw [hy157]; with_reducible exact H) | (have H2_ := (Option.bind_some _ _).symm.trans H; rw [hy157]; with_reducible exact H2_) | (have H2_ := (Option.bind_some _ _).symm.trans H; with_reducible exact H2_) | with_reducible exact H | (rw [hy157]; exact H) | exact H
         have Ny157 := Ax hy157
         clear hy157
         have H' := Ax H
         clear H
         have p155 : 0 ≤ (x20_1 : Int) := of_decide_eq_true (by first | (with_reducible assumption) | assumption)
         have q155 : x20_1 < (l1.length : Int) := of_decide_eq_true (by first | (with_reducible assumption) | assumption)
         obtain ⟨ad155, e155, hx155_0, hx155_1, hx155_2, hx155_3⟩ := at_T34 HR1.out x20_1 p155 q155
         cases e155
         replace hx155_0 := (HB.out.cell (World.block_lt_of_cell? w _ hx155_0)).trans hx155_0
         replace hx155_1 := (HB.out.cell (World.block_lt_of_cell? w _ hx155_1)).trans hx155_1
         replace hx155_2 := (HB.out.cell (World.block_lt_of_cell? w _ hx155_2)).trans hx155_2
         replace hx155_3 := (HB.out.cell (World.block_lt_of_cell? w _ hx155_3)).trans hx155_3
         replace p155 := eq_true p155
         replace q155 := eq_true q155
         go_wp2_with (first | ((with_reducible refine gate_dst (N := 11) rfl ?_); refine box_event ?hg (N := 11) ?hd (cs := #[.int .i64 0, .int .i64 0, .int .u8 0, .int .i64 0]) (t := 34) ?hr ?_; (case hd => rfl); (case hg => rfl); (case hr => first | (go_simp; done) | (go_simp; rfl)); intro gb156 hg w16 hbox hb; have n0_ := Ax (Kd.R_below (by (with_reducible repeat (first | apply Kd.R_alloc | apply Kd.R_drewN | apply Kd.R_drew)); exact HO_9.out) hb); have n1_ := Bx0 BK152 hb; have n2_ := Bx0 BK153 hb; have n3_ := Bs2 HB hb GE152.out GE153.out; have n4_ := Ax (hbox); have n5_ := Gw2 HB hg GE152.out GE153.out; have n6_ := Gw2 HB hg GE152.out GE153.out; have n7_ := Nl0 BK152 hg; have n8_ := Nr0 BK152 hg; have n9_ := Nl0 BK153 hg; have n10_ := Nr0 BK153 hg; clear HO_9; clear BK152; clear BK153; clear HB; have HO_9 := n0_; have BK152 := n1_; have BK153 := n2_; have HB := n3_; have BK156 := n4_; have GW156 := n5_; have GE156 := n6_; have NB152_156 := n7_; have NB156_152 := n8_; have NB153_156 := n9_; have NB156_153 := n10_; clear n0_ n1_ n2_ n3_ n4_ n5_ n6_ n7_ n8_ n9_ n10_; clear hb hbox hg; have hnb17 := NB156_152.out; have hnc17 := NB152_156.out; have hnb18 := NB156_153.out; have hnc18 := NB153_156.out; obtain ⟨hcz19_0, hcz19_1, hcz19_2, hcz19_3, hfz19_0, hfz19_1, hfz19_2, hfz19_3⟩ := cl4 BK156; have hnb20 := NB153_152.out; have hnc20 := NB152_153.out; obtain ⟨hcz21_0, hcz21_1, hfz21_0, hfz21_1⟩ := cl2 BK153) | ((with_reducible refine gate_builtin (b := .append) (xs := #[.tmp 28, .tmp 31]) rfl ?_); at_builtin; refine Kd.R_append k23 (w0 := w) w.heap.size rfl (.tmp 28) (.tmp 31) 26 23 (.agg #[(.int .i64 0), (.int .i64 0)]) 16 rfl Try.underlying26 info23 rfl (by decide) (by omega) u9 x9_1 (⟨(rd_T34 l1 x20_1).f0.f0, (rd_T34 l1 x20_1).f0.f1⟩ : S23) [.int .i64 ((rd_T34 l1 x20_1).f0.f0), .int .i64 ((rd_T34 l1 x20_1).f0.f1)] (fun k_ => k_ ≠ gb152) (fun _ => False) rfl (by first | (go_simp; done) | (go_simp; rfl)) ?aP (fun _ hk => hk.elim) ?aF ?aO ?aB ?aS ?aL ?_; (case aP => exact k23_mkM _ _ _ (⟨(rd_T34 l1 x20_1).f0.f0, (rd_T34 l1 x20_1).f0.f1⟩ : S23)); (case aB => exact (bw3 HB.out GE152.out GE153.out GE156.out)); (case aF => exact (fun k_ hk => Kd.freshB (g := gb152) (o := .cells #[.int .i64 a0_0, .int .i64 a0_1] 23 (0, 0)) (bf4 BK152.out NB152_156.out NB152_156.out NB152_156.out NB152_156.out) k_ hk)); (case aO => exact (by (with_reducible repeat (first | apply Kd.R_alloc | apply Kd.R_drewN | apply Kd.R_drew)); exact Kd.R_mono (Kd.R_far (p := ⟨gb156, 3, none⟩) (Kd.R_far (p := ⟨gb156, 2, none⟩) (Kd.R_far (p := ⟨gb156, 1, none⟩) (Kd.R_far (p := ⟨gb156, 0, none⟩) (Kd.R_types HO_9.out BK156.out (by decide)) (fun _ hk => hk.2) (.int .i64 ((rd_T34 l1 x20_1).f0.f0))) (fun _ hk => hk.2) (.int .i64 ((rd_T34 l1 x20_1).f0.f1))) (fun _ hk => hk.2) (.int .u8 ((rd_T34 l1 x20_1).f1.f0))) (fun _ hk => hk.2) (.int .i64 ((rd_T34 l1 x20_1).f1.f1))) (fun _ hk => hk.1))); (case aS => exact (below_size (bw3 HB.out GE152.out GE153.out GE156.out))); (case aL => have := LMc15.out; omega); intro v158 w22 ho hb hg hat; rw [← Ny157.out] at ho; have n0_ := Ax (blk_grown (g := gb152) (o := .cells #[.int .i64 a0_0, .int .i64 a0_1] 23 (0, 0)) (bf4 BK152.out NB152_156.out NB152_156.out NB152_156.out NB152_156.out) hg (Kd.R_away HO_9.out (fun _ hk => hk))); have n1_ := Ax (blk_grown (g := gb153) (o := .cells #[.int .u8 a2_0, .int .i64 a2_1] 32 (0, 0)) (bf4 BK153.out NB153_156.out NB153_156.out NB153_156.out NB153_156.out) hg (Kd.R_ne HO_9.out BK153.out (by decide))); have n2_ := Ax (blk_grown (g := gb156) (o := .cells #[.int .i64 ((rd_T34 l1 x20_1).f0.f0), .int .i64 ((rd_T34 l1 x20_1).f0.f1), .int .u8 ((rd_T34 l1 x20_1).f1.f0), .int .i64 ((rd_T34 l1 x20_1).f1.f1)] 34 (0, 0)) (by (with_reducible repeat (first | refine blk_drewN ?_ _ | refine blk_drew ?_ | refine blk_alloc ?_ _)); refine blk_put (cs := #[.int .i64 ((rd_T34 l1 x20_1).f0.f0), .int .i64 ((rd_T34 l1 x20_1).f0.f1), .int .u8 ((rd_T34 l1 x20_1).f1.f0), .int .i64 0]) ?_ 3 _ rfl; (with_reducible repeat (first | refine blk_drewN ?_ _ | refine blk_drew ?_ | refine blk_alloc ?_ _)); refine blk_put (cs := #[.int .i64 ((rd_T34 l1 x20_1).f0.f0), .int .i64 ((rd_T34 l1 x20_1).f0.f1), .int .u8 0, .int .i64 0]) ?_ 2 _ rfl; (with_reducible repeat (first | refine blk_drewN ?_ _ | refine blk_drew ?_ | refine blk_alloc ?_ _)); refine blk_put (cs := #[.int .i64 ((rd_T34 l1 x20_1).f0.f0), .int .i64 0, .int .u8 0, .int .i64 0]) ?_ 1 _ rfl; (with_reducible repeat (first | refine blk_drewN ?_ _ | refine blk_drew ?_ | refine blk_alloc ?_ _)); refine blk_put (cs := #[.int .i64 0, .int .i64 0, .int .u8 0, .int .i64 0]) ?_ 0 _ rfl; (with_reducible repeat (first | refine blk_drewN ?_ _ | refine blk_drew ?_ | refine blk_alloc ?_ _)); exact BK156.out) hg (Kd.R_ne HO_9.out BK156.out (by decide))); have n3_ := Ax (hb); have n4_ := Ax (ho); clear BK152; clear BK153; clear BK156; clear HB; clear HO_9; have BK152 := n0_; have BK153 := n1_; have BK156 := n2_; have HB := n3_; have HO159 := n4_; clear n0_ n1_ n2_ n3_ n4_; clear ho hb hg hat))
         go_roundg k1
         case measure => have := HK1.out; omega
         case rel => exact ⟨(y157), (wrap64 (x20_1 + 1)), rS, H', ⟨by have := HK1.out; omega⟩, ⟨by (with_reducible repeat (first | apply Kd.R_alloc | apply Kd.R_drewN | apply Kd.R_drew)); exact HO159.out⟩, ⟨bf0 BK152.out⟩, ⟨bf0 BK153.out⟩, ⟨bw3 HB.out GE152.out GE153.out GE156.out⟩⟩
        ·rw [if_neg c15] at H
         exact absurd H (by simp)
       ·rw [if_neg c14] at H
        have c14b0 : (((rd_T34 l1 x20_1).f1.f0) == a2_0 && (((rd_T34 l1 x20_1).f1.f1) == a2_1)) = false := by simpa using c14
        (try (have c14b1 : decide (((rd_T34 l1 x20_1).f1.f0) = a2_0 && (((rd_T34 l1 x20_1).f1.f1) == a2_1)) = false := by simpa using c14))
        (try (have c14b2 : (((rd_T34 l1 x20_1).f1.f0) == a2_0 && (((rd_T34 l1 x20_1).f1.f1) == a2_1)) = false := by simpa using c14))
        (try (have c14b3 : ¬ (((rd_T34 l1 x20_1).f1.f0) = a2_0 && (((rd_T34 l1 x20_1).f1.f1) == a2_1)) := by simpa using c14))
        clear c14
        have H' := Ax H
        clear H
        have p155 : 0 ≤ (x20_1 : Int) := of_decide_eq_true (by first | (with_reducible assumption) | assumption)
        have q155 : x20_1 < (l1.length : Int) := of_decide_eq_true (by first | (with_reducible assumption) | assumption)
        obtain ⟨ad155, e155, hx155_0, hx155_1, hx155_2, hx155_3⟩ := at_T34 HR1.out x20_1 p155 q155
        cases e155
        replace hx155_0 := (HB.out.cell (World.block_lt_of_cell? w _ hx155_0)).trans hx155_0
        replace hx155_1 := (HB.out.cell (World.block_lt_of_cell? w _ hx155_1)).trans hx155_1
        replace hx155_2 := (HB.out.cell (World.block_lt_of_cell? w _ hx155_2)).trans hx155_2
        replace hx155_3 := (HB.out.cell (World.block_lt_of_cell? w _ hx155_3)).trans hx155_3
        replace p155 := eq_true p155
        replace q155 := eq_true q155
        go_wp2_with (first | ((with_reducible refine gate_dst (N := 11) rfl ?_); refine box_event ?hg (N := 11) ?hd (cs := #[.int .i64 0, .int .i64 0, .int .u8 0, .int .i64 0]) (t := 34) ?hr ?_; (case hd => rfl); (case hg => rfl); (case hr => first | (go_simp; done) | (go_simp; rfl)); intro gb156 hg w23 hbox hb; have n0_ := Ax (Kd.R_below (by (with_reducible repeat (first | apply Kd.R_alloc | apply Kd.R_drewN | apply Kd.R_drew)); exact HO_9.out) hb); have n1_ := Bx0 BK152 hb; have n2_ := Bx0 BK153 hb; have n3_ := Bs2 HB hb GE152.out GE153.out; have n4_ := Ax (hbox); have n5_ := Gw2 HB hg GE152.out GE153.out; have n6_ := Gw2 HB hg GE152.out GE153.out; have n7_ := Nl0 BK152 hg; have n8_ := Nr0 BK152 hg; have n9_ := Nl0 BK153 hg; have n10_ := Nr0 BK153 hg; clear HO_9; clear BK152; clear BK153; clear HB; have HO_9 := n0_; have BK152 := n1_; have BK153 := n2_; have HB := n3_; have BK156 := n4_; have GW156 := n5_; have GE156 := n6_; have NB152_156 := n7_; have NB156_152 := n8_; have NB153_156 := n9_; have NB156_153 := n10_; clear n0_ n1_ n2_ n3_ n4_ n5_ n6_ n7_ n8_ n9_ n10_; clear hb hbox hg; have hnb24 := NB156_152.out; have hnc24 := NB152_156.out; have hnb25 := NB156_153.out; have hnc25 := NB153_156.out; obtain ⟨hcz26_0, hcz26_1, hcz26_2, hcz26_3, hfz26_0, hfz26_1, hfz26_2, hfz26_3⟩ := cl4 BK156; have hnb27 := NB153_152.out; have hnc27 := NB152_153.out; obtain ⟨hcz28_0, hcz28_1, hfz28_0, hfz28_1⟩ := cl2 BK153))
        go_roundg k1
        case measure => have := HK1.out; omega
        case rel => exact ⟨(x9_1), (wrap64 (x20_1 + 1)), rS, H', ⟨by have := HK1.out; omega⟩, ⟨by (with_reducible repeat (first | apply Kd.R_alloc | apply Kd.R_drewN | apply Kd.R_drew)); exact Kd.R_mono (Kd.R_far (p := ⟨gb156, 3, none⟩) (Kd.R_far (p := ⟨gb156, 2, none⟩) (Kd.R_far (p := ⟨gb156, 1, none⟩) (Kd.R_far (p := ⟨gb156, 0, none⟩) (Kd.R_types HO_9.out BK156.out (by decide)) (fun _ hk => hk.2) (.int .i64 ((rd_T34 l1 x20_1).f0.f0))) (fun _ hk => hk.2) (.int .i64 ((rd_T34 l1 x20_1).f0.f1))) (fun _ hk => hk.2) (.int .u8 ((rd_T34 l1 x20_1).f1.f0))) (fun _ hk => hk.2) (.int .i64 ((rd_T34 l1 x20_1).f1.f1))) (fun _ hk => hk.1)⟩, ⟨bf4 BK152.out NB152_156.out NB152_156.out NB152_156.out NB152_156.out⟩, ⟨bf4 BK153.out NB153_156.out NB153_156.out NB153_156.out NB153_156.out⟩, ⟨bw3 HB.out GE152.out GE153.out GE156.out⟩⟩
      ·rw [if_neg c13] at H
       exact absurd H (by simp)
     ·rw [if_neg c12] at H
      exact absurd H (by simp)
    ·rw [if_neg c11] at H
     have c11b0 : decide (x20_1 < (l1.length : Int)) = false := decide_eq_false c11
     clear c11
     simp only [Option.some.injEq, Prod.mk.injEq] at H
     obtain ⟨rfl, rfl⟩ := H
     go_wp2
     go_ret2
     exact ⟨_, eS, by (with_reducible repeat (first | apply Kd.R_alloc | apply Kd.R_drewN | apply Kd.R_drew)); exact Kd.R_mono HO_9.out (fun _ hk => trivial), bw2 HB.out GE152.out GE153.out⟩
 ·rw [if_neg c5] at H
  have c5b0 : (t154 == 0) = false := beq_eq_false_iff_ne.mpr c5
  have c5b1 : (t154 != 0) = true := bne_iff_ne.mpr c5
  simp only [Option.some.injEq, Prod.mk.injEq] at H
  obtain ⟨rfl, rfl⟩ := H
  go_enter Try.func6, Try.ntmps6
  go_wp2_with (first | ((with_reducible refine gate_dst (N := 3) rfl ?_); refine box_event ?hg (N := 3) ?hd (cs := #[.int .i64 a0_0, .int .i64 a0_1]) (t := 23) ?hr ?_; (case hd => rfl); (case hg => rfl); (case hr => first | (go_simp; done) | (go_simp; rfl)); intro gb152 hg w29 hbox hb; have n0_ := Bs0 HB hb; have n1_ := Ax (hbox); have n2_ := Gw0 HB hg; have n3_ := Gw0 HB hg; clear HB; have HB := n0_; have BK152 := n1_; have GW152 := n2_; have GE152 := n3_; clear n0_ n1_ n2_ n3_; clear hb hbox hg) | ((with_reducible refine gate_dst (N := 5) rfl ?_); refine box_event ?hg (N := 5) ?hd (cs := #[.int .u8 a2_0, .int .i64 a2_1]) (t := 32) ?hr ?_; (case hd => rfl); (case hg => rfl); (case hr => first | (go_simp; done) | (go_simp; rfl)); intro gb153 hg w30 hbox hb; have n0_ := Bx0 BK152 hb; have n1_ := Bs1 HB hb GE152.out; have n2_ := Ax (hbox); have n3_ := Gw1 HB hg GE152.out; have n4_ := Gw1 HB hg GE152.out; have n5_ := Nl0 BK152 hg; have n6_ := Nr0 BK152 hg; clear BK152; clear HB; have BK152 := n0_; have HB := n1_; have BK153 := n2_; have GW153 := n3_; have GE153 := n4_; have NB152_153 := n5_; have NB153_152 := n6_; clear n0_ n1_ n2_ n3_ n4_ n5_ n6_; clear hb hbox hg; have hnb31 := NB152_153.out; have hnc31 := NB153_152.out; obtain ⟨hcz32_0, hcz32_1, hfz32_0, hfz32_1⟩ := cl2 BK152) | ((with_reducible refine gate_callee (f := 14) rfl ?_); refine goesL_ (some 14) rfl rfl Try.func14 (by kernel_rfl) rfl #[.agg #[.int .i64 a0_0, .int .i64 a0_1], .slice A1 l1.length c1] rfl gS ?_; (with_reducible refine (line_Check.calls k a0_0 a0_1 _ _ l1 t154 _ ?side1 ?side2 A4.out).mono ?_); (case side1 => repeat (first | exact (Kd.C_below HR1.out HB.out) | (with_reducible refine Kd.C_alloc ?_ _) | (with_reducible refine Kd.C_drewN ?_ _) | (with_reducible refine Kd.C_drew ?_))); (case side2 => exact HC1.out); rintro e w33 ⟨rfl, hb⟩; refine ⟨_, rfl, ?_⟩; replace BK152 := Bx0 BK152 hb; replace BK153 := Bx0 BK153 hb; replace HB := Bs2 HB hb GE152.out GE153.out; (try clear hb)))
  go_ret2
  exact ⟨_, eS, by first | exact Kd.R_nil _ _ _ _ _ | exact Kd.N_nil _ _ _ _ _ | exact Kd.V_nil _ _ _ _ _ | exact Kd.Q_nil _ _ _ _ _ | exact Kd.S_nil _ _ _ _ _, bw2 HB.out GE152.out GE153.out⟩
end Go.Proofs.Ytoheongejamapaa.Q
end
