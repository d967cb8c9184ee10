-- Merged and trimmed by this session's program wip/tools/trim.py.
import Derived.Test.YtkjjidanakmkeaaRows
import Derived.ChangeArms
import Derived.WideShapes
import Derived.SizedLaws
import Derived.Laws.BytesArg
import Derived.Laws.BitsLemmas
import Derived.WalkKit
import Derived.ProofKit
import Derived.OpenShut
import Derived.ShutString
import Derived.ChangeOld
import Derived.Below
import Derived.JoinedCond
import Derived.Test.YtkjjidanakmkeaaTIvlAll2
section
namespace Go.Proofs.Ytkjjidanakmkeaa.Q
open Go.RowKit Go.Proofs.YtkjjidanakmkeaaW.PrintWords Go.Proofs.YtkjjidanakmkeaaW.PrintLast Go.Proofs.YtkjjidanakmkeaaW.PrintMore
attribute [local go_sem] max2_int min2_int max_two min_two max_three min_three max_four min_four   -- for this text's walks alone
set_option linter.unusedVariables false
set_option linter.unusedSimpArgs false
set_option maxHeartbeats 8000000 in
set_option maxRecDepth 100000 in
theorem spoorref19_Check.calls (k : Nat) (A0 : Option Addr) (c0 : Nat) (l0 : List (S36)) (r : Int) (w : World) (hr0 : Kd.C k36 w A0 l0.length l0) (hc0 : l0.length ≤ c0) (h : spoorref19_Check.f k l0 = some r) :
  Calls Try.prog 18 #[.slice A0 l0.length c0] w fun e w' => e = .returned (.int .i64 r) ∧ Below w.heap.size w w' := by
 have hu36 := Try.underlying36
 have HR0 := Ax hr0
 have HC0 := Ax hc0
 clear hr0 hc0
 have HB := Ax (Below.refl w.heap.size w)
 have H : (if (l0.length : Int) > 1024 then (some 2) else (spoorref19_Check.l0 k l0 l0 (l0.length : Int) 0)) = some r := h
 clear h
 by_cases c2 : (l0.length : Int) > 1024
 ·rw [if_pos c2] at H
  have c2b0 : decide (1024 < (l0.length : Int)) = true := decide_eq_true c2
  have c2b1 : decide (1024 < l0.length) = true := decide_eq_true (by omega)
  clear c2
  obtain rfl := Option.some.inj H
  go_enter Try.func18, Try.ntmps18
  go_wp2
  go_ret
  exact ⟨eS, bw0 HB.out⟩
 ·rw [if_neg c2] at H
  have c2b0 : decide (1024 < (l0.length : Int)) = false := decide_eq_false c2
  have c2b1 : decide (1024 < l0.length) = false := decide_eq_false (by omega)
  clear c2
  have H' := Ax H
  clear H
  go_enter Try.func18, Try.ntmps18
  go_wp2
  go_loopg [10] k (fun kq v10 w' => ∃ (x10_1 : Int), v10 = .int .i64 x10_1 ∧ Aside0 (spoorref19_Check.l0 kq l0 l0 (l0.length : Int) x10_1 = some r) ∧ Aside0 (kq ≤ k) ∧ Aside0 (Below w.heap.size w w'))
  case atStart => exact ⟨(0), rS, H', ⟨Nat.le_refl _⟩, ⟨bw0 HB.out⟩⟩
  case round =>
   clear H'
   try clear c1
   try clear c2
   try clear c2b0
   try clear c2b1
   try clear p2
   obtain ⟨x10_1, rfl, HA, HK1, HB⟩ := hrel
   cases gk with
   | zero => exact absurd HA.out (by simp [spoorref19_Check.l0])
   | succ k1 =>
    have H := HA.out
    clear HA
    simp only [spoorref19_Check.l0] at H
    by_cases c3 : x10_1 < (l0.length : Int)
    ·rw [if_pos c3] at H
     have c3b0 : decide (x10_1 < (l0.length : Int)) = true := decide_eq_true c3
     clear c3
     by_cases c4 : 0 ≤ x10_1
     ·rw [if_pos c4] at H
      have c4b0 : decide (0 ≤ x10_1) = true := decide_eq_true c4
      clear c4
      by_cases c5 : x10_1 < (l0.length : Int)
      ·rw [if_pos c5] at H
       have c5b0 : decide (x10_1 < (l0.length : Int)) = true := decide_eq_true c5
       clear c5
       replace H := Option.bind_eq_some_iff.mp H
       obtain ⟨t214, A60, H⟩ := H
       replace H : (if t214 = true then (if x10_1 > 0 then (if 0 ≤ (wrap64 (x10_1 - 1)) then (if (wrap64 (x10_1 - 1)) < (l0.length : Int) then (if ((rd_T36 l0 x10_1).f0) ≤ (wrap64 (((rd_T36 l0 (wrap64 (x10_1 - 1))).f1) + 1)) then (some 2) else (spoorref19_Check.l0 k1 l0 l0 (l0.length : Int) (wrap64 (x10_1 + 1)))) else (none)) else (none)) else (spoorref19_Check.l0 k1 l0 l0 (l0.length : Int) (wrap64 (x10_1 + 1)))) else (some 2)) = some r := H
       have A6 := Ax A60
       clear A60
       by_cases c7 : t214 = true
       ·subst c7
        have H1 : (if x10_1 > 0 then (if 0 ≤ (wrap64 (x10_1 - 1)) then (if (wrap64 (x10_1 - 1)) < (l0.length : Int) then (if ((rd_T36 l0 x10_1).f0) ≤ (wrap64 (((rd_T36 l0 (wrap64 (x10_1 - 1))).f1) + 1)) then (some 2) else (spoorref19_Check.l0 k1 l0 l0 (l0.length : Int) (wrap64 (x10_1 + 1)))) else (none)) else (none)) else (spoorref19_Check.l0 k1 l0 l0 (l0.length : Int) (wrap64 (x10_1 + 1)))) = some r := by rw [if_pos rfl] at H; exact H
        clear H
        have H := H1
        clear H1
        by_cases c8 : x10_1 > 0
        ·rw [if_pos c8] at H
         have c8b0 : decide (0 < x10_1) = true := decide_eq_true c8
         clear c8
         obtain ⟨ji9, hji9⟩ : ∃ j_ : Int, (wrap64 (x10_1 - 1)) = j_ := ⟨_, rfl⟩
         replace H : (if 0 ≤ (ji9) then (if (ji9) < (l0.length : Int) then (if ((rd_T36 l0 x10_1).f0) ≤ (wrap64 (((rd_T36 l0 (ji9)).f1) + 1)) then (some 2) else (spoorref19_Check.l0 k1 l0 l0 (l0.length : Int) (wrap64 (x10_1 + 1)))) else (none)) else (none)) = some r := by first | (rw [hji9] at H; exact H) | (simp only [hji9] at H ⊢; exact H)
         (try rw [hji9] at A6)
         have hji9w : (IntKind.i64.wrap (x10_1 - 1)) = ji9 := (i64_w _).trans hji9
         by_cases c10 : 0 ≤ (ji9)
         ·rw [if_pos c10] at H
          have c10b0 : decide (0 ≤ (ji9)) = true := decide_eq_true c10
          clear c10
          by_cases c11 : (ji9) < (l0.length : Int)
          ·rw [if_pos c11] at H
           have c11b0 : decide ((ji9) < (l0.length : Int)) = true := decide_eq_true c11
           clear c11
           by_cases c12 : ((rd_T36 l0 x10_1).f0) ≤ (wrap64 (((rd_T36 l0 (ji9)).f1) + 1))
           ·rw [if_pos c12] at H
            have c12b0 : decide (((rd_T36 l0 x10_1).f0) ≤ (wrap64 (((rd_T36 l0 (ji9)).f1) + 1))) = true := decide_eq_true c12
            clear c12
            obtain rfl := Option.some.inj H
            have p212 : 0 ≤ (x10_1 : Int) := of_decide_eq_true (by first | (with_reducible assumption) | assumption)
            have q212 : x10_1 < (l0.length : Int) := of_decide_eq_true (by first | (with_reducible assumption) | assumption)
            obtain ⟨ad212, e212, hx212_0, hx212_1⟩ := at_T36 HR0.out x10_1 p212 q212
            cases e212
            replace hx212_0 := (HB.out.cell (World.block_lt_of_cell? w _ hx212_0)).trans hx212_0
            replace hx212_1 := (HB.out.cell (World.block_lt_of_cell? w _ hx212_1)).trans hx212_1
            replace p212 := eq_true p212
            replace q212 := eq_true q212
            try go_wp2_with (first | ((with_reducible refine gate_dst (N := 4) rfl ?_); refine box_event ?hg (N := 4) ?hd (cs := #[.int .i64 0, .int .i64 0]) (t := 36) ?hr ?_; (case hd => rfl); (case hg => rfl); (case hr => first | (go_simp; done) | (go_simp; rfl)); intro gb213 hg w13 hbox hb; have n0_ := Bs0 HB hb; have n1_ := Ax (hbox); have n2_ := Gw0 HB hg; have n3_ := Gw0 HB hg; clear HB; have HB := n0_; have BK213 := n1_; have GW213 := n2_; have GE213 := n3_; clear n0_ n1_ n2_ n3_; clear hb hbox hg; obtain ⟨hcz14_0, hcz14_1, hfz14_0, hfz14_1⟩ := cl2 BK213))
            have n0_ : Aside0 (((w13.setCell ⟨gb213, 0, none⟩ (.int .i64 ((rd_T36 l0 x10_1).f0))).setCell ⟨gb213, 1, none⟩ (.int .i64 ((rd_T36 l0 x10_1).f1))).heap[gb213]? = some (.cells #[.int .i64 ((rd_T36 l0 x10_1).f0), .int .i64 ((rd_T36 l0 x10_1).f1)] 36 (0, 0))) := ⟨by (with_reducible repeat (first | refine blk_drewN ?_ _ | refine blk_drew ?_ | refine blk_alloc ?_ _)); refine blk_put (cs := #[.int .i64 ((rd_T36 l0 x10_1).f0), .int .i64 0]) ?_ 1 _ rfl; (with_reducible repeat (first | refine blk_drewN ?_ _ | refine blk_drew ?_ | refine blk_alloc ?_ _)); refine blk_put (cs := #[.int .i64 0, .int .i64 0]) ?_ 0 _ rfl; (with_reducible repeat (first | refine blk_drewN ?_ _ | refine blk_drew ?_ | refine blk_alloc ?_ _)); exact BK213.out⟩
            have n1_ : Aside0 (Below w.heap.size w ((w13.setCell ⟨gb213, 0, none⟩ (.int .i64 ((rd_T36 l0 x10_1).f0))).setCell ⟨gb213, 1, none⟩ (.int .i64 ((rd_T36 l0 x10_1).f1)))) := ⟨bw1 HB.out GE213.out⟩
            (try clear BK213)
            (try clear HB)
            generalize ((w13.setCell ⟨gb213, 0, none⟩ (.int .i64 ((rd_T36 l0 x10_1).f0))).setCell ⟨gb213, 1, none⟩ (.int .i64 ((rd_T36 l0 x10_1).f1))) = w15 at n0_ n1_ ⊢
            have BK213 := n0_
            have HB := n1_
            clear n0_ n1_
            replace BK213 := Ax (blk_drew BK213.out)
            replace HB := Ax (below_drew1 HB.out)
            have p215 : 0 ≤ ((ji9) : Int) := of_decide_eq_true (by first | (with_reducible assumption) | assumption)
            have q215 : (ji9) < (l0.length : Int) := of_decide_eq_true (by first | (with_reducible assumption) | assumption)
            obtain ⟨ad215, e215, hx215_0, hx215_1⟩ := at_T36 HR0.out (ji9) p215 q215
            have hw215_1 := hx215_1
            have hw215_0 := hx215_0
            obtain rfl : ad212 = ad215 := (by injection e215)
            replace hx215_0 := (HB.out.cell (World.block_lt_of_cell? w _ hx215_0)).trans hx215_0
            replace hx215_1 := (HB.out.cell (World.block_lt_of_cell? w _ hx215_1)).trans hx215_1
            replace p215 := eq_true p215
            replace q215 := eq_true q215
            refine start_ (n := 19) (S := fun w' => w'.cell? ⟨gb213, 0, none⟩ = some (.int .i64 ((rd_T36 l0 x10_1).f0)) ∧ w'.cell? ⟨gb213, 1, none⟩ = some (.int .i64 ((rd_T36 l0 x10_1).f1)) ∧ w'.cell? (ad212.add (((ji9)).toNat * 2)) = some (.int .i64 ((rd_T36 l0 (ji9)).f0)) ∧ w'.cell? ⟨(ad212.add (((ji9)).toNat * 2)).block, (ad212.add (((ji9)).toNat * 2)).off + 1, none⟩ = some (.int .i64 ((rd_T36 l0 (ji9)).f1))) (ds := []) #[fa,fa,fa,fa,fa,fa,fa,fa,fa,fa,fa,fa,fa,fa,fa,fa,fa,fa,fa] (by kernel_rfl) rfl rfl ⟨(blk_cell BK213.out 0).trans rfl, (blk_cell BK213.out 1).trans rfl, ((HB.out.cell (World.block_lt_of_cell? w _ hw215_0)).trans hw215_0), ((HB.out.cell (World.block_lt_of_cell? w _ hw215_1)).trans hw215_1)⟩ (fun hHeld => ?_); refine with_tabW spoorref19_Check.tab6 spoorref19_Check.bits6 (fun HT_ HW_ => ?_)
            generalize w15.drew = w16 at BK213 HB hx215_0 hx215_1 hHeld ⊢
            refine take_ (i := 0) (N := some 15) (v := ?_) (a' := ?_) #[tr,fa,fa,fa,fa,fa,fa,fa,fa,fa,fa,fa,fa,fa,fa,fa,fa,fa,fa] rfl rfl (take_ofW HT_.out HW_.out (by kernel_rfl)) (fun _ _ _ h => h) (Or.inl ⟨by rfl, ?_⟩) hHeld ?_ ?_
            rotate_left
            ·rintro w' ⟨s0, s1, s2, s3⟩
             go_simp
             with_reducible rfl
            rotate_left
            ·simp only [sP]
             rfl
            refine one_ (i := 1) (N := some 16) #[tr,tr,fa,fa,fa,fa,fa,fa,fa,fa,fa,fa,fa,fa,fa,fa,fa,fa,fa] rfl rfl (one_of HT_.out (by kernel_rfl)) (by decide) (fun K hK => ?_)
            refine goes_ Try.func32 (by kernel_rfl) rfl #[.agg #[.int .i64 ((rd_T36 l0 x10_1).f0), .int .i64 ((rd_T36 l0 x10_1).f1)]] (by rfl) rfl rfl gS ?_
            with_reducible refine (spoorref19_One.calls ((rd_T36 l0 x10_1).f0) ((rd_T36 l0 x10_1).f1) true _ A6.out).mono ?_
            rintro e w17 ⟨rfl, hb⟩
            refine ⟨_, rfl, ?_⟩
            replace BK213 := Bx0 BK213 hb
            replace HB := Bs1 HB hb GE213.out
            (try clear hb)
            refine hK.out _ _ ⟨(blk_cell BK213.out 0).trans rfl, (blk_cell BK213.out 1).trans rfl, ((HB.out.cell (World.block_lt_of_cell? w _ hw215_0)).trans hw215_0), ((HB.out.cell (World.block_lt_of_cell? w _ hw215_1)).trans hw215_1)⟩ (fun hHeld => ?_)
            clear hK K
            refine norm_ (a' := ?_) ?_ ?_
            rotate_left
            ·show Act.put _ (some 16) _ = _
             simp only [sP]
             rfl
            refine pure_ (i := 2) (N := some 17) (v := ?_) (a' := ?_) #[tr,tr,tr,fa,fa,fa,fa,fa,fa,fa,fa,fa,fa,fa,fa,fa,fa,fa,fa] rfl rfl (any_of HT_.out (by kernel_rfl)) (fun _ _ _ h => h) (Or.inl ⟨by rfl, ?_⟩) ?_ ?_
            rotate_left
            ·intro w'
             go_simp
             with_reducible rfl
            rotate_left
            ·simp only [sP]
             rfl
            refine pure_ (i := 3) (N := some 18) (v := ?_) (a' := ?_) #[tr,tr,tr,tr,fa,fa,fa,fa,fa,fa,fa,fa,fa,fa,fa,fa,fa,fa,fa] rfl rfl (any_of HT_.out (by kernel_rfl)) (fun _ _ _ h => h) (Or.inl ⟨by rfl, ?_⟩) ?_ ?_
            rotate_left
            ·intro w'
             go_simp
             with_reducible rfl
            rotate_left
            ·simp only [sP]
             rfl
            refine pure_ (i := 4) (N := some 19) (v := ?_) (a' := ?_) #[tr,tr,tr,tr,tr,fa,fa,fa,fa,fa,fa,fa,fa,fa,fa,fa,fa,fa,fa] rfl rfl (any_of HT_.out (by kernel_rfl)) (fun _ _ _ h => h) (Or.inl ⟨by rfl, ?_⟩) ?_ ?_
            rotate_left
            ·intro w'
             go_simp
             with_reducible rfl
            rotate_left
            ·simp only [sP]
             rfl
            refine pure_ (i := 5) (N := some 20) (v := ?_) (a' := ?_) #[tr,tr,tr,tr,tr,tr,fa,fa,fa,fa,fa,fa,fa,fa,fa,fa,fa,fa,fa] rfl rfl (any_of HT_.out (by kernel_rfl)) (fun _ _ _ h => h) (Or.inl ⟨by rfl, ?_⟩) ?_ ?_
            rotate_left
            ·intro w'
             go_simp
             with_reducible rfl
            rotate_left
            ·simp only [sP]
             rfl
            refine pure_ (i := 6) (N := some 21) (v := ?_) (a' := ?_) #[tr,tr,tr,tr,tr,tr,tr,fa,fa,fa,fa,fa,fa,fa,fa,fa,fa,fa,fa] rfl rfl (any_of HT_.out (by kernel_rfl)) (fun _ _ _ h => h) (Or.inl ⟨by rfl, ?_⟩) ?_ ?_
            rotate_left
            ·intro w'
             go_simp
             with_reducible rfl
            rotate_left
            ·simp only [sP]
             rfl
            refine pure_ (i := 7) (N := some 22) (v := ?_) (a' := ?_) #[tr,tr,tr,tr,tr,tr,tr,tr,fa,fa,fa,fa,fa,fa,fa,fa,fa,fa,fa] rfl rfl (any_of HT_.out (by kernel_rfl)) (fun _ _ _ h => h) (Or.inl ⟨by rfl, ?_⟩) ?_ ?_
            rotate_left
            ·intro w'
             go_simp
             with_reducible rfl
            rotate_left
            ·simp only [sP]
             rfl
            refine pure_ (i := 9) (N := some 24) (v := ?_) (a' := ?_) #[tr,tr,tr,tr,tr,tr,tr,tr,fa,tr,fa,fa,fa,fa,fa,fa,fa,fa,fa] rfl rfl (any_of HT_.out (by kernel_rfl)) (fun _ _ _ h => h) (Or.inl ⟨by rfl, ?_⟩) ?_ ?_
            rotate_left
            ·intro w'
             go_simp
             with_reducible rfl
            rotate_left
            ·simp only [sP]
             rfl
            refine pure_ (i := 10) (N := some 25) (v := ?_) (a' := ?_) #[tr,tr,tr,tr,tr,tr,tr,tr,fa,tr,tr,fa,fa,fa,fa,fa,fa,fa,fa] rfl rfl (any_of HT_.out (by kernel_rfl)) (fun _ _ _ h => h) (Or.inl ⟨by rfl, ?_⟩) ?_ ?_
            rotate_left
            ·intro w'
             go_simp
             with_reducible rfl
            rotate_left
            ·simp only [sP]
             rfl
            refine pure_ (i := 11) (N := some 26) (v := ?_) (a' := ?_) #[tr,tr,tr,tr,tr,tr,tr,tr,fa,tr,tr,tr,fa,fa,fa,fa,fa,fa,fa] rfl rfl (any_of HT_.out (by kernel_rfl)) (fun _ _ _ h => h) (Or.inl ⟨by rfl, ?_⟩) ?_ ?_
            rotate_left
            ·intro w'
             go_simp
             with_reducible rfl
            rotate_left
            ·simp only [sP]
             rfl
            refine pure_ (i := 12) (N := some 27) (v := ?_) (a' := ?_) #[tr,tr,tr,tr,tr,tr,tr,tr,fa,tr,tr,tr,tr,fa,fa,fa,fa,fa,fa] rfl rfl (any_of HT_.out (by kernel_rfl)) (fun _ _ _ h => h) (Or.inl ⟨by rfl, ?_⟩) ?_ ?_
            rotate_left
            ·intro w'
             go_simp
             with_reducible rfl
            rotate_left
            ·simp only [sP]
             rfl
            refine pure_ (i := 13) (N := some 28) (v := ?_) (a' := ?_) #[tr,tr,tr,tr,tr,tr,tr,tr,fa,tr,tr,tr,tr,tr,fa,fa,fa,fa,fa] rfl rfl (any_of HT_.out (by kernel_rfl)) (fun _ _ _ h => h) (Or.inl ⟨by rfl, ?_⟩) ?_ ?_
            rotate_left
            ·intro w'
             go_simp
             with_reducible rfl
            rotate_left
            ·simp only [sP]
             rfl
            refine take_ (i := 8) (N := some 23) (v := ?_) (a' := ?_) #[tr,tr,tr,tr,tr,tr,tr,tr,tr,tr,tr,tr,tr,tr,fa,fa,fa,fa,fa] rfl rfl (take_ofW HT_.out HW_.out (by kernel_rfl)) (fun _ _ _ h => h) (Or.inl ⟨by rfl, ?_⟩) hHeld ?_ ?_
            rotate_left
            ·rintro w' ⟨s0, s1, s2, s3⟩
             go_simp
             with_reducible rfl
            rotate_left
            ·simp only [sP]
             rfl
            refine take_ (i := 14) (N := some 29) (v := ?_) (a' := ?_) #[tr,tr,tr,tr,tr,tr,tr,tr,tr,tr,tr,tr,tr,tr,tr,fa,fa,fa,fa] rfl rfl (take_ofW HT_.out HW_.out (by kernel_rfl)) (fun _ _ _ h => h) (Or.inl ⟨by rfl, ?_⟩) hHeld ?_ ?_
            rotate_left
            ·rintro w' ⟨s0, s1, s2, s3⟩
             go_simp
             with_reducible rfl
            rotate_left
            ·simp only [sP]
             rfl
            refine pure_ (i := 15) (N := some 30) (v := ?_) (a' := ?_) #[tr,tr,tr,tr,tr,tr,tr,tr,tr,tr,tr,tr,tr,tr,tr,tr,fa,fa,fa] rfl rfl (any_of HT_.out (by kernel_rfl)) (fun _ _ _ h => h) (Or.inl ⟨by rfl, ?_⟩) ?_ ?_
            rotate_left
            ·intro w'
             go_simp
             with_reducible rfl
            rotate_left
            ·simp only [sP]
             rfl
            refine pure_ (i := 16) (N := some 31) (v := ?_) (a' := ?_) #[tr,tr,tr,tr,tr,tr,tr,tr,tr,tr,tr,tr,tr,tr,tr,tr,tr,fa,fa] rfl rfl (any_of HT_.out (by kernel_rfl)) (fun _ _ _ h => h) (Or.inl ⟨by rfl, ?_⟩) ?_ ?_
            rotate_left
            ·intro w'
             go_simp
             with_reducible rfl
            rotate_left
            ·simp only [sP]
             rfl
            refine pure_ (i := 17) (N := some 32) (v := ?_) (a' := ?_) #[tr,tr,tr,tr,tr,tr,tr,tr,tr,tr,tr,tr,tr,tr,tr,tr,tr,tr,fa] rfl rfl (any_of HT_.out (by kernel_rfl)) (fun _ _ _ h => h) (Or.inl ⟨by rfl, ?_⟩) ?_ ?_
            rotate_left
            ·intro w'
             go_simp
             with_reducible rfl
            rotate_left
            ·simp only [sP]
             rfl
            refine pure_ (i := 18) (N := some 33) (v := ?_) (a' := ?_) #[tr,tr,tr,tr,tr,tr,tr,tr,tr,tr,tr,tr,tr,tr,tr,tr,tr,tr,tr] rfl rfl (any_of HT_.out (by kernel_rfl)) (fun _ _ _ h => h) (Or.inl ⟨by rfl, ?_⟩) ?_ ?_
            rotate_left
            ·intro w'
             go_simp
             with_reducible rfl
            rotate_left
            ·simp only [sP]
             rfl
            refine done_ (done_of HT_.out (by kernel_rfl)) ?_
            try go_wp2
            go_ret
            exact ⟨by first | rfl | (simp [errW_none, errW_some] <;> rfl) | (simp only [← hji9]; first | rfl | (simp [errW_none, errW_some] <;> rfl)) | (simp [*, errW_none, errW_some] <;> rfl), bw1 HB.out GE213.out⟩
           ·rw [if_neg c12] at H
            have c12b0 : decide (((rd_T36 l0 x10_1).f0) ≤ (wrap64 (((rd_T36 l0 (ji9)).f1) + 1))) = false := decide_eq_false c12
            clear c12
            have H' := Ax H
            clear H
            have p212 : 0 ≤ (x10_1 : Int) := of_decide_eq_true (by first | (with_reducible assumption) | assumption)
            have q212 : x10_1 < (l0.length : Int) := of_decide_eq_true (by first | (with_reducible assumption) | assumption)
            obtain ⟨ad212, e212, hx212_0, hx212_1⟩ := at_T36 HR0.out x10_1 p212 q212
            cases e212
            replace hx212_0 := (HB.out.cell (World.block_lt_of_cell? w _ hx212_0)).trans hx212_0
            replace hx212_1 := (HB.out.cell (World.block_lt_of_cell? w _ hx212_1)).trans hx212_1
            replace p212 := eq_true p212
            replace q212 := eq_true q212
            try go_wp2_with (first | ((with_reducible refine gate_dst (N := 4) rfl ?_); refine box_event ?hg (N := 4) ?hd (cs := #[.int .i64 0, .int .i64 0]) (t := 36) ?hr ?_; (case hd => rfl); (case hg => rfl); (case hr => first | (go_simp; done) | (go_simp; rfl)); intro gb213 hg w18 hbox hb; have n0_ := Bs0 HB hb; have n1_ := Ax (hbox); have n2_ := Gw0 HB hg; have n3_ := Gw0 HB hg; clear HB; have HB := n0_; have BK213 := n1_; have GW213 := n2_; have GE213 := n3_; clear n0_ n1_ n2_ n3_; clear hb hbox hg; obtain ⟨hcz19_0, hcz19_1, hfz19_0, hfz19_1⟩ := cl2 BK213))
            have n0_ : Aside0 (((w18.setCell ⟨gb213, 0, none⟩ (.int .i64 ((rd_T36 l0 x10_1).f0))).setCell ⟨gb213, 1, none⟩ (.int .i64 ((rd_T36 l0 x10_1).f1))).heap[gb213]? = some (.cells #[.int .i64 ((rd_T36 l0 x10_1).f0), .int .i64 ((rd_T36 l0 x10_1).f1)] 36 (0, 0))) := ⟨by (with_reducible repeat (first | refine blk_drewN ?_ _ | refine blk_drew ?_ | refine blk_alloc ?_ _)); refine blk_put (cs := #[.int .i64 ((rd_T36 l0 x10_1).f0), .int .i64 0]) ?_ 1 _ rfl; (with_reducible repeat (first | refine blk_drewN ?_ _ | refine blk_drew ?_ | refine blk_alloc ?_ _)); refine blk_put (cs := #[.int .i64 0, .int .i64 0]) ?_ 0 _ rfl; (with_reducible repeat (first | refine blk_drewN ?_ _ | refine blk_drew ?_ | refine blk_alloc ?_ _)); exact BK213.out⟩
            have n1_ : Aside0 (Below w.heap.size w ((w18.setCell ⟨gb213, 0, none⟩ (.int .i64 ((rd_T36 l0 x10_1).f0))).setCell ⟨gb213, 1, none⟩ (.int .i64 ((rd_T36 l0 x10_1).f1)))) := ⟨bw1 HB.out GE213.out⟩
            (try clear BK213)
            (try clear HB)
            generalize ((w18.setCell ⟨gb213, 0, none⟩ (.int .i64 ((rd_T36 l0 x10_1).f0))).setCell ⟨gb213, 1, none⟩ (.int .i64 ((rd_T36 l0 x10_1).f1))) = w20 at n0_ n1_ ⊢
            have BK213 := n0_
            have HB := n1_
            clear n0_ n1_
            replace BK213 := Ax (blk_drew BK213.out)
            replace HB := Ax (below_drew1 HB.out)
            have p215 : 0 ≤ ((ji9) : Int) := of_decide_eq_true (by first | (with_reducible assumption) | assumption)
            have q215 : (ji9) < (l0.length : Int) := of_decide_eq_true (by first | (with_reducible assumption) | assumption)
            obtain ⟨ad215, e215, hx215_0, hx215_1⟩ := at_T36 HR0.out (ji9) p215 q215
            have hw215_1 := hx215_1
            have hw215_0 := hx215_0
            obtain rfl : ad212 = ad215 := (by injection e215)
            replace hx215_0 := (HB.out.cell (World.block_lt_of_cell? w _ hx215_0)).trans hx215_0
            replace hx215_1 := (HB.out.cell (World.block_lt_of_cell? w _ hx215_1)).trans hx215_1
            replace p215 := eq_true p215
            replace q215 := eq_true q215
            refine start_ (n := 19) (S := fun w' => w'.cell? ⟨gb213, 0, none⟩ = some (.int .i64 ((rd_T36 l0 x10_1).f0)) ∧ w'.cell? ⟨gb213, 1, none⟩ = some (.int .i64 ((rd_T36 l0 x10_1).f1)) ∧ w'.cell? (ad212.add (((ji9)).toNat * 2)) = some (.int .i64 ((rd_T36 l0 (ji9)).f0)) ∧ w'.cell? ⟨(ad212.add (((ji9)).toNat * 2)).block, (ad212.add (((ji9)).toNat * 2)).off + 1, none⟩ = some (.int .i64 ((rd_T36 l0 (ji9)).f1))) (ds := []) #[fa,fa,fa,fa,fa,fa,fa,fa,fa,fa,fa,fa,fa,fa,fa,fa,fa,fa,fa] (by kernel_rfl) rfl rfl ⟨(blk_cell BK213.out 0).trans rfl, (blk_cell BK213.out 1).trans rfl, ((HB.out.cell (World.block_lt_of_cell? w _ hw215_0)).trans hw215_0), ((HB.out.cell (World.block_lt_of_cell? w _ hw215_1)).trans hw215_1)⟩ (fun hHeld => ?_); refine with_tabW spoorref19_Check.tab6 spoorref19_Check.bits6 (fun HT_ HW_ => ?_)
            generalize w20.drew = w21 at BK213 HB hx215_0 hx215_1 hHeld ⊢
            refine take_ (i := 0) (N := some 15) (v := ?_) (a' := ?_) #[tr,fa,fa,fa,fa,fa,fa,fa,fa,fa,fa,fa,fa,fa,fa,fa,fa,fa,fa] rfl rfl (take_ofW HT_.out HW_.out (by kernel_rfl)) (fun _ _ _ h => h) (Or.inl ⟨by rfl, ?_⟩) hHeld ?_ ?_
            rotate_left
            ·rintro w' ⟨s0, s1, s2, s3⟩
             go_simp
             with_reducible rfl
            rotate_left
            ·simp only [sP]
             rfl
            refine one_ (i := 1) (N := some 16) #[tr,tr,fa,fa,fa,fa,fa,fa,fa,fa,fa,fa,fa,fa,fa,fa,fa,fa,fa] rfl rfl (one_of HT_.out (by kernel_rfl)) (by decide) (fun K hK => ?_)
            refine goes_ Try.func32 (by kernel_rfl) rfl #[.agg #[.int .i64 ((rd_T36 l0 x10_1).f0), .int .i64 ((rd_T36 l0 x10_1).f1)]] (by rfl) rfl rfl gS ?_
            with_reducible refine (spoorref19_One.calls ((rd_T36 l0 x10_1).f0) ((rd_T36 l0 x10_1).f1) true _ A6.out).mono ?_
            rintro e w22 ⟨rfl, hb⟩
            refine ⟨_, rfl, ?_⟩
            replace BK213 := Bx0 BK213 hb
            replace HB := Bs1 HB hb GE213.out
            (try clear hb)
            refine hK.out _ _ ⟨(blk_cell BK213.out 0).trans rfl, (blk_cell BK213.out 1).trans rfl, ((HB.out.cell (World.block_lt_of_cell? w _ hw215_0)).trans hw215_0), ((HB.out.cell (World.block_lt_of_cell? w _ hw215_1)).trans hw215_1)⟩ (fun hHeld => ?_)
            clear hK K
            refine norm_ (a' := ?_) ?_ ?_
            rotate_left
            ·show Act.put _ (some 16) _ = _
             simp only [sP]
             rfl
            refine pure_ (i := 2) (N := some 17) (v := ?_) (a' := ?_) #[tr,tr,tr,fa,fa,fa,fa,fa,fa,fa,fa,fa,fa,fa,fa,fa,fa,fa,fa] rfl rfl (any_of HT_.out (by kernel_rfl)) (fun _ _ _ h => h) (Or.inl ⟨by rfl, ?_⟩) ?_ ?_
            rotate_left
            ·intro w'
             go_simp
             with_reducible rfl
            rotate_left
            ·simp only [sP]
             rfl
            refine pure_ (i := 3) (N := some 18) (v := ?_) (a' := ?_) #[tr,tr,tr,tr,fa,fa,fa,fa,fa,fa,fa,fa,fa,fa,fa,fa,fa,fa,fa] rfl rfl (any_of HT_.out (by kernel_rfl)) (fun _ _ _ h => h) (Or.inl ⟨by rfl, ?_⟩) ?_ ?_
            rotate_left
            ·intro w'
             go_simp
             with_reducible rfl
            rotate_left
            ·simp only [sP]
             rfl
            refine pure_ (i := 4) (N := some 19) (v := ?_) (a' := ?_) #[tr,tr,tr,tr,tr,fa,fa,fa,fa,fa,fa,fa,fa,fa,fa,fa,fa,fa,fa] rfl rfl (any_of HT_.out (by kernel_rfl)) (fun _ _ _ h => h) (Or.inl ⟨by rfl, ?_⟩) ?_ ?_
            rotate_left
            ·intro w'
             go_simp
             with_reducible rfl
            rotate_left
            ·simp only [sP]
             rfl
            refine pure_ (i := 5) (N := some 20) (v := ?_) (a' := ?_) #[tr,tr,tr,tr,tr,tr,fa,fa,fa,fa,fa,fa,fa,fa,fa,fa,fa,fa,fa] rfl rfl (any_of HT_.out (by kernel_rfl)) (fun _ _ _ h => h) (Or.inl ⟨by rfl, ?_⟩) ?_ ?_
            rotate_left
            ·intro w'
             go_simp
             with_reducible rfl
            rotate_left
            ·simp only [sP]
             rfl
            refine pure_ (i := 6) (N := some 21) (v := ?_) (a' := ?_) #[tr,tr,tr,tr,tr,tr,tr,fa,fa,fa,fa,fa,fa,fa,fa,fa,fa,fa,fa] rfl rfl (any_of HT_.out (by kernel_rfl)) (fun _ _ _ h => h) (Or.inl ⟨by rfl, ?_⟩) ?_ ?_
            rotate_left
            ·intro w'
             go_simp
             with_reducible rfl
            rotate_left
            ·simp only [sP]
             rfl
            refine pure_ (i := 7) (N := some 22) (v := ?_) (a' := ?_) #[tr,tr,tr,tr,tr,tr,tr,tr,fa,fa,fa,fa,fa,fa,fa,fa,fa,fa,fa] rfl rfl (any_of HT_.out (by kernel_rfl)) (fun _ _ _ h => h) (Or.inl ⟨by rfl, ?_⟩) ?_ ?_
            rotate_left
            ·intro w'
             go_simp
             with_reducible rfl
            rotate_left
            ·simp only [sP]
             rfl
            refine pure_ (i := 9) (N := some 24) (v := ?_) (a' := ?_) #[tr,tr,tr,tr,tr,tr,tr,tr,fa,tr,fa,fa,fa,fa,fa,fa,fa,fa,fa] rfl rfl (any_of HT_.out (by kernel_rfl)) (fun _ _ _ h => h) (Or.inl ⟨by rfl, ?_⟩) ?_ ?_
            rotate_left
            ·intro w'
             go_simp
             with_reducible rfl
            rotate_left
            ·simp only [sP]
             rfl
            refine pure_ (i := 10) (N := some 25) (v := ?_) (a' := ?_) #[tr,tr,tr,tr,tr,tr,tr,tr,fa,tr,tr,fa,fa,fa,fa,fa,fa,fa,fa] rfl rfl (any_of HT_.out (by kernel_rfl)) (fun _ _ _ h => h) (Or.inl ⟨by rfl, ?_⟩) ?_ ?_
            rotate_left
            ·intro w'
             go_simp
             with_reducible rfl
            rotate_left
            ·simp only [sP]
             rfl
            refine pure_ (i := 11) (N := some 26) (v := ?_) (a' := ?_) #[tr,tr,tr,tr,tr,tr,tr,tr,fa,tr,tr,tr,fa,fa,fa,fa,fa,fa,fa] rfl rfl (any_of HT_.out (by kernel_rfl)) (fun _ _ _ h => h) (Or.inl ⟨by rfl, ?_⟩) ?_ ?_
            rotate_left
            ·intro w'
             go_simp
             with_reducible rfl
            rotate_left
            ·simp only [sP]
             rfl
            refine pure_ (i := 12) (N := some 27) (v := ?_) (a' := ?_) #[tr,tr,tr,tr,tr,tr,tr,tr,fa,tr,tr,tr,tr,fa,fa,fa,fa,fa,fa] rfl rfl (any_of HT_.out (by kernel_rfl)) (fun _ _ _ h => h) (Or.inl ⟨by rfl, ?_⟩) ?_ ?_
            rotate_left
            ·intro w'
             go_simp
             with_reducible rfl
            rotate_left
            ·simp only [sP]
             rfl
            refine pure_ (i := 13) (N := some 28) (v := ?_) (a' := ?_) #[tr,tr,tr,tr,tr,tr,tr,tr,fa,tr,tr,tr,tr,tr,fa,fa,fa,fa,fa] rfl rfl (any_of HT_.out (by kernel_rfl)) (fun _ _ _ h => h) (Or.inl ⟨by rfl, ?_⟩) ?_ ?_
            rotate_left
            ·intro w'
             go_simp
             with_reducible rfl
            rotate_left
            ·simp only [sP]
             rfl
            refine take_ (i := 8) (N := some 23) (v := ?_) (a' := ?_) #[tr,tr,tr,tr,tr,tr,tr,tr,tr,tr,tr,tr,tr,tr,fa,fa,fa,fa,fa] rfl rfl (take_ofW HT_.out HW_.out (by kernel_rfl)) (fun _ _ _ h => h) (Or.inl ⟨by rfl, ?_⟩) hHeld ?_ ?_
            rotate_left
            ·rintro w' ⟨s0, s1, s2, s3⟩
             go_simp
             with_reducible rfl
            rotate_left
            ·simp only [sP]
             rfl
            refine take_ (i := 14) (N := some 29) (v := ?_) (a' := ?_) #[tr,tr,tr,tr,tr,tr,tr,tr,tr,tr,tr,tr,tr,tr,tr,fa,fa,fa,fa] rfl rfl (take_ofW HT_.out HW_.out (by kernel_rfl)) (fun _ _ _ h => h) (Or.inl ⟨by rfl, ?_⟩) hHeld ?_ ?_
            rotate_left
            ·rintro w' ⟨s0, s1, s2, s3⟩
             go_simp
             with_reducible rfl
            rotate_left
            ·simp only [sP]
             rfl
            refine pure_ (i := 15) (N := some 30) (v := ?_) (a' := ?_) #[tr,tr,tr,tr,tr,tr,tr,tr,tr,tr,tr,tr,tr,tr,tr,tr,fa,fa,fa] rfl rfl (any_of HT_.out (by kernel_rfl)) (fun _ _ _ h => h) (Or.inl ⟨by rfl, ?_⟩) ?_ ?_
            rotate_left
            ·intro w'
             go_simp
             with_reducible rfl
            rotate_left
            ·simp only [sP]
             rfl
            refine pure_ (i := 16) (N := some 31) (v := ?_) (a' := ?_) #[tr,tr,tr,tr,tr,tr,tr,tr,tr,tr,tr,tr,tr,tr,tr,tr,tr,fa,fa] rfl rfl (any_of HT_.out (by kernel_rfl)) (fun _ _ _ h => h) (Or.inl ⟨by rfl, ?_⟩) ?_ ?_
            rotate_left
            ·intro w'
             go_simp
             with_reducible rfl
            rotate_left
            ·simp only [sP]
             rfl
            refine pure_ (i := 17) (N := some 32) (v := ?_) (a' := ?_) #[tr,tr,tr,tr,tr,tr,tr,tr,tr,tr,tr,tr,tr,tr,tr,tr,tr,tr,fa] rfl rfl (any_of HT_.out (by kernel_rfl)) (fun _ _ _ h => h) (Or.inl ⟨by rfl, ?_⟩) ?_ ?_
            rotate_left
            ·intro w'
             go_simp
             with_reducible rfl
            rotate_left
            ·simp only [sP]
             rfl
            refine pure_ (i := 18) (N := some 33) (v := ?_) (a' := ?_) #[tr,tr,tr,tr,tr,tr,tr,tr,tr,tr,tr,tr,tr,tr,tr,tr,tr,tr,tr] rfl rfl (any_of HT_.out (by kernel_rfl)) (fun _ _ _ h => h) (Or.inl ⟨by rfl, ?_⟩) ?_ ?_
            rotate_left
            ·intro w'
             go_simp
             with_reducible rfl
            rotate_left
            ·simp only [sP]
             rfl
            refine done_ (done_of HT_.out (by kernel_rfl)) ?_
            try go_wp2
            go_roundg k1
            case measure => have := HK1.out; omega
            case rel => exact ⟨(wrap64 (x10_1 + 1)), rS, H', ⟨by have := HK1.out; omega⟩, ⟨bw1 HB.out GE213.out⟩⟩
          ·rw [if_neg c11] at H
           exact absurd H (by simp)
         ·rw [if_neg c10] at H
          exact absurd H (by simp)
        ·rw [if_neg c8] at H
         have c8b0 : decide (0 < x10_1) = false := decide_eq_false c8
         clear c8
         have H' := Ax H
         clear H
         have p212 : 0 ≤ (x10_1 : Int) := of_decide_eq_true (by first | (with_reducible assumption) | assumption)
         have q212 : x10_1 < (l0.length : Int) := of_decide_eq_true (by first | (with_reducible assumption) | assumption)
         obtain ⟨ad212, e212, hx212_0, hx212_1⟩ := at_T36 HR0.out x10_1 p212 q212
         cases e212
         replace hx212_0 := (HB.out.cell (World.block_lt_of_cell? w _ hx212_0)).trans hx212_0
         replace hx212_1 := (HB.out.cell (World.block_lt_of_cell? w _ hx212_1)).trans hx212_1
         replace p212 := eq_true p212
         replace q212 := eq_true q212
         try go_wp2_with (first | ((with_reducible refine gate_dst (N := 4) rfl ?_); refine box_event ?hg (N := 4) ?hd (cs := #[.int .i64 0, .int .i64 0]) (t := 36) ?hr ?_; (case hd => rfl); (case hg => rfl); (case hr => first | (go_simp; done) | (go_simp; rfl)); intro gb213 hg w23 hbox hb; have n0_ := Bs0 HB hb; have n1_ := Ax (hbox); have n2_ := Gw0 HB hg; have n3_ := Gw0 HB hg; clear HB; have HB := n0_; have BK213 := n1_; have GW213 := n2_; have GE213 := n3_; clear n0_ n1_ n2_ n3_; clear hb hbox hg; obtain ⟨hcz24_0, hcz24_1, hfz24_0, hfz24_1⟩ := cl2 BK213))
         have n0_ : Aside0 (((w23.setCell ⟨gb213, 0, none⟩ (.int .i64 ((rd_T36 l0 x10_1).f0))).setCell ⟨gb213, 1, none⟩ (.int .i64 ((rd_T36 l0 x10_1).f1))).heap[gb213]? = some (.cells #[.int .i64 ((rd_T36 l0 x10_1).f0), .int .i64 ((rd_T36 l0 x10_1).f1)] 36 (0, 0))) := ⟨by (with_reducible repeat (first | refine blk_drewN ?_ _ | refine blk_drew ?_ | refine blk_alloc ?_ _)); refine blk_put (cs := #[.int .i64 ((rd_T36 l0 x10_1).f0), .int .i64 0]) ?_ 1 _ rfl; (with_reducible repeat (first | refine blk_drewN ?_ _ | refine blk_drew ?_ | refine blk_alloc ?_ _)); refine blk_put (cs := #[.int .i64 0, .int .i64 0]) ?_ 0 _ rfl; (with_reducible repeat (first | refine blk_drewN ?_ _ | refine blk_drew ?_ | refine blk_alloc ?_ _)); exact BK213.out⟩
         have n1_ : Aside0 (Below w.heap.size w ((w23.setCell ⟨gb213, 0, none⟩ (.int .i64 ((rd_T36 l0 x10_1).f0))).setCell ⟨gb213, 1, none⟩ (.int .i64 ((rd_T36 l0 x10_1).f1)))) := ⟨bw1 HB.out GE213.out⟩
         (try clear BK213)
         (try clear HB)
         generalize ((w23.setCell ⟨gb213, 0, none⟩ (.int .i64 ((rd_T36 l0 x10_1).f0))).setCell ⟨gb213, 1, none⟩ (.int .i64 ((rd_T36 l0 x10_1).f1))) = w25 at n0_ n1_ ⊢
         have BK213 := n0_
         have HB := n1_
         clear n0_ n1_
         replace BK213 := Ax (blk_drew BK213.out)
         replace HB := Ax (below_drew1 HB.out)
         refine start_ (n := 19) (S := fun w' => w'.cell? ⟨gb213, 0, none⟩ = some (.int .i64 ((rd_T36 l0 x10_1).f0)) ∧ w'.cell? ⟨gb213, 1, none⟩ = some (.int .i64 ((rd_T36 l0 x10_1).f1))) (ds := []) #[fa,fa,fa,fa,fa,fa,fa,fa,fa,fa,fa,fa,fa,fa,fa,fa,fa,fa,fa] (by kernel_rfl) rfl rfl ⟨(blk_cell BK213.out 0).trans rfl, (blk_cell BK213.out 1).trans rfl⟩ (fun hHeld => ?_); refine with_tabW spoorref19_Check.tab6 spoorref19_Check.bits6 (fun HT_ HW_ => ?_)
         generalize w25.drew = w26 at BK213 HB hHeld ⊢
         refine take_ (i := 0) (N := some 15) (v := ?_) (a' := ?_) #[tr,fa,fa,fa,fa,fa,fa,fa,fa,fa,fa,fa,fa,fa,fa,fa,fa,fa,fa] rfl rfl (take_ofW HT_.out HW_.out (by kernel_rfl)) (fun _ _ _ h => h) (Or.inl ⟨by rfl, ?_⟩) hHeld ?_ ?_
         rotate_left
         ·rintro w' ⟨s0, s1⟩
          go_simp
          with_reducible rfl
         rotate_left
         ·simp only [sP]
          rfl
         refine one_ (i := 1) (N := some 16) #[tr,tr,fa,fa,fa,fa,fa,fa,fa,fa,fa,fa,fa,fa,fa,fa,fa,fa,fa] rfl rfl (one_of HT_.out (by kernel_rfl)) (by decide) (fun K hK => ?_)
         refine goes_ Try.func32 (by kernel_rfl) rfl #[.agg #[.int .i64 ((rd_T36 l0 x10_1).f0), .int .i64 ((rd_T36 l0 x10_1).f1)]] (by rfl) rfl rfl gS ?_
         with_reducible refine (spoorref19_One.calls ((rd_T36 l0 x10_1).f0) ((rd_T36 l0 x10_1).f1) true _ A6.out).mono ?_
         rintro e w27 ⟨rfl, hb⟩
         refine ⟨_, rfl, ?_⟩
         replace BK213 := Bx0 BK213 hb
         replace HB := Bs1 HB hb GE213.out
         (try clear hb)
         refine hK.out _ _ ⟨(blk_cell BK213.out 0).trans rfl, (blk_cell BK213.out 1).trans rfl⟩ (fun hHeld => ?_)
         clear hK K
         refine norm_ (a' := ?_) ?_ ?_
         rotate_left
         ·show Act.put _ (some 16) _ = _
          simp only [sP]
          rfl
         refine pure_ (i := 2) (N := some 17) (v := ?_) (a' := ?_) #[tr,tr,tr,fa,fa,fa,fa,fa,fa,fa,fa,fa,fa,fa,fa,fa,fa,fa,fa] rfl rfl (any_of HT_.out (by kernel_rfl)) (fun _ _ _ h => h) (Or.inl ⟨by rfl, ?_⟩) ?_ ?_
         rotate_left
         ·intro w'
          go_simp
          with_reducible rfl
         rotate_left
         ·simp only [sP]
          rfl
         refine pure_ (i := 3) (N := some 18) (v := ?_) (a' := ?_) #[tr,tr,tr,tr,fa,fa,fa,fa,fa,fa,fa,fa,fa,fa,fa,fa,fa,fa,fa] rfl rfl (any_of HT_.out (by kernel_rfl)) (fun _ _ _ h => h) (Or.inl ⟨by rfl, ?_⟩) ?_ ?_
         rotate_left
         ·intro w'
          go_simp
          with_reducible rfl
         rotate_left
         ·simp only [sP]
          rfl
         refine pure_ (i := 4) (N := some 19) (v := ?_) (a' := ?_) #[tr,tr,tr,tr,tr,fa,fa,fa,fa,fa,fa,fa,fa,fa,fa,fa,fa,fa,fa] rfl rfl (any_of HT_.out (by kernel_rfl)) (fun _ _ _ h => h) (Or.inl ⟨by rfl, ?_⟩) ?_ ?_
         rotate_left
         ·intro w'
          go_simp
          with_reducible rfl
         rotate_left
         ·simp only [sP]
          rfl
         refine pure_ (i := 5) (N := some 20) (v := ?_) (a' := ?_) #[tr,tr,tr,tr,tr,tr,fa,fa,fa,fa,fa,fa,fa,fa,fa,fa,fa,fa,fa] rfl rfl (any_of HT_.out (by kernel_rfl)) (fun _ _ _ h => h) (Or.inl ⟨by rfl, ?_⟩) ?_ ?_
         rotate_left
         ·intro w'
          go_simp
          with_reducible rfl
         rotate_left
         ·simp only [sP]
          rfl
         refine pure_ (i := 6) (N := some 21) (v := ?_) (a' := ?_) #[tr,tr,tr,tr,tr,tr,tr,fa,fa,fa,fa,fa,fa,fa,fa,fa,fa,fa,fa] rfl rfl (any_of HT_.out (by kernel_rfl)) (fun _ _ _ h => h) (Or.inl ⟨by rfl, ?_⟩) ?_ ?_
         rotate_left
         ·intro w'
          go_simp
          with_reducible rfl
         rotate_left
         ·simp only [sP]
          rfl
         refine pure_ (i := 7) (N := some 22) (v := undef) (a' := ?_) #[tr,tr,tr,tr,tr,tr,tr,tr,fa,fa,fa,fa,fa,fa,fa,fa,fa,fa,fa] rfl rfl (any_of HT_.out (by kernel_rfl)) (fun _ _ _ h => h) (Or.inr ⟨by rfl, rfl⟩) ?_ ?_
         rotate_left
         ·simp only [sP]
          rfl
         refine pure_ (i := 8) (N := some 23) (v := undef) (a' := ?_) #[tr,tr,tr,tr,tr,tr,tr,tr,tr,fa,fa,fa,fa,fa,fa,fa,fa,fa,fa] rfl rfl (any_of HT_.out (by kernel_rfl)) (fun _ _ _ h => h) (Or.inr ⟨by rfl, rfl⟩) ?_ ?_
         rotate_left
         ·simp only [sP]
          rfl
         refine pure_ (i := 9) (N := some 24) (v := undef) (a' := ?_) #[tr,tr,tr,tr,tr,tr,tr,tr,tr,tr,fa,fa,fa,fa,fa,fa,fa,fa,fa] rfl rfl (any_of HT_.out (by kernel_rfl)) (fun _ _ _ h => h) (Or.inr ⟨by rfl, rfl⟩) ?_ ?_
         rotate_left
         ·simp only [sP]
          rfl
         refine pure_ (i := 10) (N := some 25) (v := undef) (a' := ?_) #[tr,tr,tr,tr,tr,tr,tr,tr,tr,tr,tr,fa,fa,fa,fa,fa,fa,fa,fa] rfl rfl (any_of HT_.out (by kernel_rfl)) (fun _ _ _ h => h) (Or.inr ⟨by rfl, rfl⟩) ?_ ?_
         rotate_left
         ·simp only [sP]
          rfl
         refine pure_ (i := 11) (N := some 26) (v := undef) (a' := ?_) #[tr,tr,tr,tr,tr,tr,tr,tr,tr,tr,tr,tr,fa,fa,fa,fa,fa,fa,fa] rfl rfl (any_of HT_.out (by kernel_rfl)) (fun _ _ _ h => h) (Or.inr ⟨by rfl, rfl⟩) ?_ ?_
         rotate_left
         ·simp only [sP]
          rfl
         refine pure_ (i := 12) (N := some 27) (v := undef) (a' := ?_) #[tr,tr,tr,tr,tr,tr,tr,tr,tr,tr,tr,tr,tr,fa,fa,fa,fa,fa,fa] rfl rfl (any_of HT_.out (by kernel_rfl)) (fun _ _ _ h => h) (Or.inr ⟨by rfl, rfl⟩) ?_ ?_
         rotate_left
         ·simp only [sP]
          rfl
         refine pure_ (i := 13) (N := some 28) (v := undef) (a' := ?_) #[tr,tr,tr,tr,tr,tr,tr,tr,tr,tr,tr,tr,tr,tr,fa,fa,fa,fa,fa] rfl rfl (any_of HT_.out (by kernel_rfl)) (fun _ _ _ h => h) (Or.inr ⟨by rfl, rfl⟩) ?_ ?_
         rotate_left
         ·simp only [sP]
          rfl
         refine pure_ (i := 14) (N := some 29) (v := undef) (a' := ?_) #[tr,tr,tr,tr,tr,tr,tr,tr,tr,tr,tr,tr,tr,tr,tr,fa,fa,fa,fa] rfl rfl (any_of HT_.out (by kernel_rfl)) (fun _ _ _ h => h) (Or.inr ⟨by rfl, rfl⟩) ?_ ?_
         rotate_left
         ·simp only [sP]
          rfl
         refine pure_ (i := 15) (N := some 30) (v := undef) (a' := ?_) #[tr,tr,tr,tr,tr,tr,tr,tr,tr,tr,tr,tr,tr,tr,tr,tr,fa,fa,fa] rfl rfl (any_of HT_.out (by kernel_rfl)) (fun _ _ _ h => h) (Or.inr ⟨by rfl, rfl⟩) ?_ ?_
         rotate_left
         ·simp only [sP]
          rfl
         refine pure_ (i := 16) (N := some 31) (v := undef) (a' := ?_) #[tr,tr,tr,tr,tr,tr,tr,tr,tr,tr,tr,tr,tr,tr,tr,tr,tr,fa,fa] rfl rfl (any_of HT_.out (by kernel_rfl)) (fun _ _ _ h => h) (Or.inr ⟨by rfl, rfl⟩) ?_ ?_
         rotate_left
         ·simp only [sP]
          rfl
         refine pure_ (i := 17) (N := some 32) (v := ?_) (a' := ?_) #[tr,tr,tr,tr,tr,tr,tr,tr,tr,tr,tr,tr,tr,tr,tr,tr,tr,tr,fa] rfl rfl (any_of HT_.out (by kernel_rfl)) (fun _ _ _ h => h) (Or.inl ⟨by rfl, ?_⟩) ?_ ?_
         rotate_left
         ·intro w'
          go_simp
          with_reducible rfl
         rotate_left
         ·simp only [sP]
          rfl
         refine pure_ (i := 18) (N := some 33) (v := ?_) (a' := ?_) #[tr,tr,tr,tr,tr,tr,tr,tr,tr,tr,tr,tr,tr,tr,tr,tr,tr,tr,tr] rfl rfl (any_of HT_.out (by kernel_rfl)) (fun _ _ _ h => h) (Or.inl ⟨by rfl, ?_⟩) ?_ ?_
         rotate_left
         ·intro w'
          go_simp
          with_reducible rfl
         rotate_left
         ·simp only [sP]
          rfl
         refine done_ (done_of HT_.out (by kernel_rfl)) ?_
         try go_wp2
         go_roundg k1
         case measure => have := HK1.out; omega
         case rel => exact ⟨(wrap64 (x10_1 + 1)), rS, H', ⟨by have := HK1.out; omega⟩, ⟨bw1 HB.out GE213.out⟩⟩
       ·replace c7 := Bool.eq_false_iff.mpr c7
        subst c7
        have H1 : (some 2) = some r := by rw [if_neg (show ¬ (false = true) by decide)] at H; exact H
        clear H
        have H := H1
        clear H1
        obtain rfl := Option.some.inj H
        have p212 : 0 ≤ (x10_1 : Int) := of_decide_eq_true (by first | (with_reducible assumption) | assumption)
        have q212 : x10_1 < (l0.length : Int) := of_decide_eq_true (by first | (with_reducible assumption) | assumption)
        obtain ⟨ad212, e212, hx212_0, hx212_1⟩ := at_T36 HR0.out x10_1 p212 q212
        cases e212
        replace hx212_0 := (HB.out.cell (World.block_lt_of_cell? w _ hx212_0)).trans hx212_0
        replace hx212_1 := (HB.out.cell (World.block_lt_of_cell? w _ hx212_1)).trans hx212_1
        replace p212 := eq_true p212
        replace q212 := eq_true q212
        try go_wp2_with (first | ((with_reducible refine gate_dst (N := 4) rfl ?_); refine box_event ?hg (N := 4) ?hd (cs := #[.int .i64 0, .int .i64 0]) (t := 36) ?hr ?_; (case hd => rfl); (case hg => rfl); (case hr => first | (go_simp; done) | (go_simp; rfl)); intro gb213 hg w28 hbox hb; have n0_ := Bs0 HB hb; have n1_ := Ax (hbox); have n2_ := Gw0 HB hg; have n3_ := Gw0 HB hg; clear HB; have HB := n0_; have BK213 := n1_; have GW213 := n2_; have GE213 := n3_; clear n0_ n1_ n2_ n3_; clear hb hbox hg; obtain ⟨hcz29_0, hcz29_1, hfz29_0, hfz29_1⟩ := cl2 BK213))
        have n0_ : Aside0 (((w28.setCell ⟨gb213, 0, none⟩ (.int .i64 ((rd_T36 l0 x10_1).f0))).setCell ⟨gb213, 1, none⟩ (.int .i64 ((rd_T36 l0 x10_1).f1))).heap[gb213]? = some (.cells #[.int .i64 ((rd_T36 l0 x10_1).f0), .int .i64 ((rd_T36 l0 x10_1).f1)] 36 (0, 0))) := ⟨by (with_reducible repeat (first | refine blk_drewN ?_ _ | refine blk_drew ?_ | refine blk_alloc ?_ _)); refine blk_put (cs := #[.int .i64 ((rd_T36 l0 x10_1).f0), .int .i64 0]) ?_ 1 _ rfl; (with_reducible repeat (first | refine blk_drewN ?_ _ | refine blk_drew ?_ | refine blk_alloc ?_ _)); refine blk_put (cs := #[.int .i64 0, .int .i64 0]) ?_ 0 _ rfl; (with_reducible repeat (first | refine blk_drewN ?_ _ | refine blk_drew ?_ | refine blk_alloc ?_ _)); exact BK213.out⟩
        have n1_ : Aside0 (Below w.heap.size w ((w28.setCell ⟨gb213, 0, none⟩ (.int .i64 ((rd_T36 l0 x10_1).f0))).setCell ⟨gb213, 1, none⟩ (.int .i64 ((rd_T36 l0 x10_1).f1)))) := ⟨bw1 HB.out GE213.out⟩
        (try clear BK213)
        (try clear HB)
        generalize ((w28.setCell ⟨gb213, 0, none⟩ (.int .i64 ((rd_T36 l0 x10_1).f0))).setCell ⟨gb213, 1, none⟩ (.int .i64 ((rd_T36 l0 x10_1).f1))) = w30 at n0_ n1_ ⊢
        have BK213 := n0_
        have HB := n1_
        clear n0_ n1_
        replace BK213 := Ax (blk_drew BK213.out)
        replace HB := Ax (below_drew1 HB.out)
        refine start_ (n := 19) (S := fun w' => w'.cell? ⟨gb213, 0, none⟩ = some (.int .i64 ((rd_T36 l0 x10_1).f0)) ∧ w'.cell? ⟨gb213, 1, none⟩ = some (.int .i64 ((rd_T36 l0 x10_1).f1))) (ds := []) #[fa,fa,fa,fa,fa,fa,fa,fa,fa,fa,fa,fa,fa,fa,fa,fa,fa,fa,fa] (by kernel_rfl) rfl rfl ⟨(blk_cell BK213.out 0).trans rfl, (blk_cell BK213.out 1).trans rfl⟩ (fun hHeld => ?_); refine with_tabW spoorref19_Check.tab6 spoorref19_Check.bits6 (fun HT_ HW_ => ?_)
        generalize w30.drew = w31 at BK213 HB hHeld ⊢
        refine take_ (i := 0) (N := some 15) (v := ?_) (a' := ?_) #[tr,fa,fa,fa,fa,fa,fa,fa,fa,fa,fa,fa,fa,fa,fa,fa,fa,fa,fa] rfl rfl (take_ofW HT_.out HW_.out (by kernel_rfl)) (fun _ _ _ h => h) (Or.inl ⟨by rfl, ?_⟩) hHeld ?_ ?_
        rotate_left
        ·rintro w' ⟨s0, s1⟩
         go_simp
         with_reducible rfl
        rotate_left
        ·simp only [sP]
         rfl
        refine one_ (i := 1) (N := some 16) #[tr,tr,fa,fa,fa,fa,fa,fa,fa,fa,fa,fa,fa,fa,fa,fa,fa,fa,fa] rfl rfl (one_of HT_.out (by kernel_rfl)) (by decide) (fun K hK => ?_)
        refine goes_ Try.func32 (by kernel_rfl) rfl #[.agg #[.int .i64 ((rd_T36 l0 x10_1).f0), .int .i64 ((rd_T36 l0 x10_1).f1)]] (by rfl) rfl rfl gS ?_
        with_reducible refine (spoorref19_One.calls ((rd_T36 l0 x10_1).f0) ((rd_T36 l0 x10_1).f1) false _ A6.out).mono ?_
        rintro e w32 ⟨rfl, hb⟩
        refine ⟨_, rfl, ?_⟩
        replace BK213 := Bx0 BK213 hb
        replace HB := Bs1 HB hb GE213.out
        (try clear hb)
        refine hK.out _ _ ⟨(blk_cell BK213.out 0).trans rfl, (blk_cell BK213.out 1).trans rfl⟩ (fun hHeld => ?_)
        clear hK K
        refine norm_ (a' := ?_) ?_ ?_
        rotate_left
        ·show Act.put _ (some 16) _ = _
         simp only [sP]
         rfl
        refine pure_ (i := 2) (N := some 17) (v := ?_) (a' := ?_) #[tr,tr,tr,fa,fa,fa,fa,fa,fa,fa,fa,fa,fa,fa,fa,fa,fa,fa,fa] rfl rfl (any_of HT_.out (by kernel_rfl)) (fun _ _ _ h => h) (Or.inl ⟨by rfl, ?_⟩) ?_ ?_
        rotate_left
        ·intro w'
         go_simp
         with_reducible rfl
        rotate_left
        ·simp only [sP]
         rfl
        refine pure_ (i := 3) (N := some 18) (v := ?_) (a' := ?_) #[tr,tr,tr,tr,fa,fa,fa,fa,fa,fa,fa,fa,fa,fa,fa,fa,fa,fa,fa] rfl rfl (any_of HT_.out (by kernel_rfl)) (fun _ _ _ h => h) (Or.inl ⟨by rfl, ?_⟩) ?_ ?_
        rotate_left
        ·intro w'
         go_simp
         with_reducible rfl
        rotate_left
        ·simp only [sP]
         rfl
        refine pure_ (i := 4) (N := some 19) (v := undef) (a' := ?_) #[tr,tr,tr,tr,tr,fa,fa,fa,fa,fa,fa,fa,fa,fa,fa,fa,fa,fa,fa] rfl rfl (any_of HT_.out (by kernel_rfl)) (fun _ _ _ h => h) (Or.inr ⟨by rfl, rfl⟩) ?_ ?_
        rotate_left
        ·simp only [sP]
         rfl
        refine pure_ (i := 5) (N := some 20) (v := undef) (a' := ?_) #[tr,tr,tr,tr,tr,tr,fa,fa,fa,fa,fa,fa,fa,fa,fa,fa,fa,fa,fa] rfl rfl (any_of HT_.out (by kernel_rfl)) (fun _ _ _ h => h) (Or.inr ⟨by rfl, rfl⟩) ?_ ?_
        rotate_left
        ·simp only [sP]
         rfl
        refine pure_ (i := 6) (N := some 21) (v := undef) (a' := ?_) #[tr,tr,tr,tr,tr,tr,tr,fa,fa,fa,fa,fa,fa,fa,fa,fa,fa,fa,fa] rfl rfl (any_of HT_.out (by kernel_rfl)) (fun _ _ _ h => h) (Or.inr ⟨by rfl, rfl⟩) ?_ ?_
        rotate_left
        ·simp only [sP]
         rfl
        refine pure_ (i := 7) (N := some 22) (v := undef) (a' := ?_) #[tr,tr,tr,tr,tr,tr,tr,tr,fa,fa,fa,fa,fa,fa,fa,fa,fa,fa,fa] rfl rfl (any_of HT_.out (by kernel_rfl)) (fun _ _ _ h => h) (Or.inr ⟨by rfl, rfl⟩) ?_ ?_
        rotate_left
        ·simp only [sP]
         rfl
        refine pure_ (i := 8) (N := some 23) (v := undef) (a' := ?_) #[tr,tr,tr,tr,tr,tr,tr,tr,tr,fa,fa,fa,fa,fa,fa,fa,fa,fa,fa] rfl rfl (any_of HT_.out (by kernel_rfl)) (fun _ _ _ h => h) (Or.inr ⟨by rfl, rfl⟩) ?_ ?_
        rotate_left
        ·simp only [sP]
         rfl
        refine pure_ (i := 9) (N := some 24) (v := undef) (a' := ?_) #[tr,tr,tr,tr,tr,tr,tr,tr,tr,tr,fa,fa,fa,fa,fa,fa,fa,fa,fa] rfl rfl (any_of HT_.out (by kernel_rfl)) (fun _ _ _ h => h) (Or.inr ⟨by rfl, rfl⟩) ?_ ?_
        rotate_left
        ·simp only [sP]
         rfl
        refine pure_ (i := 10) (N := some 25) (v := undef) (a' := ?_) #[tr,tr,tr,tr,tr,tr,tr,tr,tr,tr,tr,fa,fa,fa,fa,fa,fa,fa,fa] rfl rfl (any_of HT_.out (by kernel_rfl)) (fun _ _ _ h => h) (Or.inr ⟨by rfl, rfl⟩) ?_ ?_
        rotate_left
        ·simp only [sP]
         rfl
        refine pure_ (i := 11) (N := some 26) (v := undef) (a' := ?_) #[tr,tr,tr,tr,tr,tr,tr,tr,tr,tr,tr,tr,fa,fa,fa,fa,fa,fa,fa] rfl rfl (any_of HT_.out (by kernel_rfl)) (fun _ _ _ h => h) (Or.inr ⟨by rfl, rfl⟩) ?_ ?_
        rotate_left
        ·simp only [sP]
         rfl
        refine pure_ (i := 12) (N := some 27) (v := undef) (a' := ?_) #[tr,tr,tr,tr,tr,tr,tr,tr,tr,tr,tr,tr,tr,fa,fa,fa,fa,fa,fa] rfl rfl (any_of HT_.out (by kernel_rfl)) (fun _ _ _ h => h) (Or.inr ⟨by rfl, rfl⟩) ?_ ?_
        rotate_left
        ·simp only [sP]
         rfl
        refine pure_ (i := 13) (N := some 28) (v := undef) (a' := ?_) #[tr,tr,tr,tr,tr,tr,tr,tr,tr,tr,tr,tr,tr,tr,fa,fa,fa,fa,fa] rfl rfl (any_of HT_.out (by kernel_rfl)) (fun _ _ _ h => h) (Or.inr ⟨by rfl, rfl⟩) ?_ ?_
        rotate_left
        ·simp only [sP]
         rfl
        refine pure_ (i := 14) (N := some 29) (v := undef) (a' := ?_) #[tr,tr,tr,tr,tr,tr,tr,tr,tr,tr,tr,tr,tr,tr,tr,fa,fa,fa,fa] rfl rfl (any_of HT_.out (by kernel_rfl)) (fun _ _ _ h => h) (Or.inr ⟨by rfl, rfl⟩) ?_ ?_
        rotate_left
        ·simp only [sP]
         rfl
        refine pure_ (i := 15) (N := some 30) (v := undef) (a' := ?_) #[tr,tr,tr,tr,tr,tr,tr,tr,tr,tr,tr,tr,tr,tr,tr,tr,fa,fa,fa] rfl rfl (any_of HT_.out (by kernel_rfl)) (fun _ _ _ h => h) (Or.inr ⟨by rfl, rfl⟩) ?_ ?_
        rotate_left
        ·simp only [sP]
         rfl
        refine pure_ (i := 16) (N := some 31) (v := undef) (a' := ?_) #[tr,tr,tr,tr,tr,tr,tr,tr,tr,tr,tr,tr,tr,tr,tr,tr,tr,fa,fa] rfl rfl (any_of HT_.out (by kernel_rfl)) (fun _ _ _ h => h) (Or.inr ⟨by rfl, rfl⟩) ?_ ?_
        rotate_left
        ·simp only [sP]
         rfl
        refine pure_ (i := 17) (N := some 32) (v := undef) (a' := ?_) #[tr,tr,tr,tr,tr,tr,tr,tr,tr,tr,tr,tr,tr,tr,tr,tr,tr,tr,fa] rfl rfl (any_of HT_.out (by kernel_rfl)) (fun _ _ _ h => h) (Or.inr ⟨by rfl, rfl⟩) ?_ ?_
        rotate_left
        ·simp only [sP]
         rfl
        refine pure_ (i := 18) (N := some 33) (v := ?_) (a' := ?_) #[tr,tr,tr,tr,tr,tr,tr,tr,tr,tr,tr,tr,tr,tr,tr,tr,tr,tr,tr] rfl rfl (any_of HT_.out (by kernel_rfl)) (fun _ _ _ h => h) (Or.inl ⟨by rfl, ?_⟩) ?_ ?_
        rotate_left
        ·intro w'
         go_simp
         with_reducible rfl
        rotate_left
        ·simp only [sP]
         rfl
        refine done_ (done_of HT_.out (by kernel_rfl)) ?_
        try go_wp2
        go_ret
        exact ⟨eS, bw1 HB.out GE213.out⟩
      ·rw [if_neg c5] at H
       exact absurd H (by simp)
     ·rw [if_neg c4] at H
      exact absurd H (by simp)
    ·rw [if_neg c3] at H
     have c3b0 : decide (x10_1 < (l0.length : Int)) = false := decide_eq_false c3
     clear c3
     obtain rfl := Option.some.inj H
     go_wp2
     go_ret
     exact ⟨eS, bw0 HB.out⟩
def spoorref19_Has.f (k : Nat) (l0 : List (S36)) (a1 : Int) : Option (Bool × Int) := (spoorref19_Check.f k l0).bind fun t216 => (if t216 = 0 then ((spoorref19_in.f k l0 a1).bind fun t217 => (some (t217, 0))) else (some (false, 2)))
set_option maxHeartbeats 8000000 in
set_option maxRecDepth 100000 in
theorem spoorref19_Has.calls (k : Nat) (A0 : Option Addr) (c0 : Nat) (l0 : List (S36)) (a1 : Int) (r1 : Bool) (r2 : Int) (w : World) (hr0 : Kd.C k36 w A0 l0.length l0) (hc0 : l0.length ≤ c0) (h : spoorref19_Has.f k l0 a1 = some (r1, r2)) :
  Calls Try.prog 13 #[.slice A0 l0.length c0, .int .i64 a1] w fun e w' => e = .returned (.tuple #[.bool r1, .int .i64 r2]) ∧ Below w.heap.size w w' := by
 have HR0 := Ax hr0
 have HC0 := Ax hc0
 clear hr0 hc0
 have HB := Ax (Below.refl w.heap.size w)
 have H : ((spoorref19_Check.f k l0).bind fun t216 => (if t216 = 0 then ((spoorref19_in.f k l0 a1).bind fun t217 => (some (t217, 0))) else (some (false, 2)))) = some (r1, r2) := h
 clear h
 replace H := Option.bind_eq_some_iff.mp H
 obtain ⟨t216, A30, H⟩ := H
 replace H : (if t216 = 0 then ((spoorref19_in.f k l0 a1).bind fun t217 => (some (t217, 0))) else (some (false, 2))) = some (r1, r2) := H
 have A3 := Ax A30
 clear A30
 by_cases c4 : t216 = 0
 ·rw [if_pos c4] at H
  have c4b0 : (t216 == 0) = true := beq_iff_eq.mpr c4
  have c4b1 : (t216 != 0) = false := bne_eq_false_iff_eq.mpr c4
  clear c4
  replace H := Option.bind_eq_some_iff.mp H
  obtain ⟨t217, A50, H⟩ := H
  replace H : (some (t217, 0)) = some (r1, r2) := H
  have A5 := Ax A50
  clear A50
  simp only [Option.some.injEq, Prod.mk.injEq] at H
  obtain ⟨rfl, rfl⟩ := H
  go_enter Try.func13, Try.ntmps13
  go_wp2_with (first | ((with_reducible refine gate_callee (f := 18) rfl ?_); refine goesL_ (some 7) rfl rfl Try.func18 (by kernel_rfl) rfl #[.slice A0 l0.length c0] rfl gS ?_; (with_reducible refine (spoorref19_Check.calls k _ _ l0 t216 _ ?side1 ?side2 A3.out).mono ?_); (case side1 => repeat (first | exact HR0.out | (with_reducible refine Kd.C_alloc ?_ _) | (with_reducible refine Kd.C_drewN ?_ _) | (with_reducible refine Kd.C_drew ?_))); (case side2 => exact HC0.out); rintro e w6 ⟨rfl, hb⟩; refine ⟨_, rfl, ?_⟩; replace HB := Bs0 HB hb; (try clear hb)) | ((with_reducible refine gate_callee (f := 35) rfl ?_); refine goesL_ (some 11) rfl rfl Try.func35 (by kernel_rfl) rfl #[.slice A0 l0.length c0, .int .i64 a1] rfl gS ?_; (with_reducible refine (spoorref19_in.calls k _ _ l0 a1 t217 _ ?side1 ?side2 A5.out).mono ?_); (case side1 => repeat (first | exact (Kd.C_below HR0.out HB.out) | (with_reducible refine Kd.C_alloc ?_ _) | (with_reducible refine Kd.C_drewN ?_ _) | (with_reducible refine Kd.C_drew ?_))); (case side2 => exact HC0.out); rintro e w7 ⟨rfl, hb⟩; refine ⟨_, rfl, ?_⟩; replace HB := Bs0 HB hb; (try clear hb)))
  go_ret2
  exact ⟨eS, bw0 HB.out⟩
 ·rw [if_neg c4] at H
  have c4b0 : (t216 == 0) = false := beq_eq_false_iff_ne.mpr c4
  have c4b1 : (t216 != 0) = true := bne_iff_ne.mpr c4
  simp only [Option.some.injEq, Prod.mk.injEq] at H
  obtain ⟨rfl, rfl⟩ := H
  go_enter Try.func13, Try.ntmps13
  go_wp2_with (first | ((with_reducible refine gate_callee (f := 18) rfl ?_); refine goesL_ (some 7) rfl rfl Try.func18 (by kernel_rfl) rfl #[.slice A0 l0.length c0] rfl gS ?_; (with_reducible refine (spoorref19_Check.calls k _ _ l0 t216 _ ?side1 ?side2 A3.out).mono ?_); (case side1 => repeat (first | exact HR0.out | (with_reducible refine Kd.C_alloc ?_ _) | (with_reducible refine Kd.C_drewN ?_ _) | (with_reducible refine Kd.C_drew ?_))); (case side2 => exact HC0.out); rintro e w8 ⟨rfl, hb⟩; refine ⟨_, rfl, ?_⟩; replace HB := Bs0 HB hb; (try clear hb)))
  go_ret2
  exact ⟨eS, bw0 HB.out⟩
def spoorref19_Long.l0 : Nat → Int → List (S36) → Int → Int → Option (Int × Int)
 | 0, _, _, _, _ => none
 | k + 1, x4, x10, x11, x12 => if x12 < x11 then (if 0 ≤ x12 then (if x12 < (x10.length : Int) then (spoorref19_Long.l0 k (wrap64 (x4 + (wrap64 ((wrap64 (((rd_T36 x10 x12).f1) - ((rd_T36 x10 x12).f0))) + 1)))) x10 x11 (wrap64 (x12 + 1))) else (none)) else (none)) else (some (x4, 0))
def spoorref19_Long.f (k : Nat) (l0 : List (S36)) : Option (Int × Int) := (spoorref19_Check.f k l0).bind fun t218 => (if t218 = 0 then (spoorref19_Long.l0 k 0 l0 (l0.length : Int) 0) else (some (0, 2)))
set_option maxHeartbeats 8000000 in
set_option maxRecDepth 100000 in
theorem spoorref19_Long.calls (k : Nat) (A0 : Option Addr) (c0 : Nat) (l0 : List (S36)) (r1 : Int) (r2 : Int) (w : World) (hr0 : Kd.C k36 w A0 l0.length l0) (hc0 : l0.length ≤ c0) (h : spoorref19_Long.f k l0 = some (r1, r2)) :
  Calls Try.prog 15 #[.slice A0 l0.length c0] w fun e w' => e = .returned (.tuple #[.int .i64 r1, .int .i64 r2]) ∧ Below w.heap.size w w' := by
 have hu36 := Try.underlying36
 have HR0 := Ax hr0
 have HC0 := Ax hc0
 clear hr0 hc0
 have HB := Ax (Below.refl w.heap.size w)
 have H : ((spoorref19_Check.f k l0).bind fun t218 => (if t218 = 0 then (spoorref19_Long.l0 k 0 l0 (l0.length : Int) 0) else (some (0, 2)))) = some (r1, r2) := h
 clear h
 replace H := Option.bind_eq_some_iff.mp H
 obtain ⟨t218, A20, H⟩ := H
 replace H : (if t218 = 0 then (spoorref19_Long.l0 k 0 l0 (l0.length : Int) 0) else (some (0, 2))) = some (r1, r2) := H
 have A2 := Ax A20
 clear A20
 by_cases c3 : t218 = 0
 ·rw [if_pos c3] at H
  have c3b0 : (t218 == 0) = true := beq_iff_eq.mpr c3
  have c3b1 : (t218 != 0) = false := bne_eq_false_iff_eq.mpr c3
  clear c3
  have H' := Ax H
  clear H
  go_enter Try.func15, Try.ntmps15
  go_wp2_with (first | ((with_reducible refine gate_callee (f := 18) rfl ?_); refine goesL_ (some 8) rfl rfl Try.func18 (by kernel_rfl) rfl #[.slice A0 l0.length c0] rfl gS ?_; (with_reducible refine (spoorref19_Check.calls k _ _ l0 t218 _ ?side1 ?side2 A2.out).mono ?_); (case side1 => repeat (first | exact HR0.out | (with_reducible refine Kd.C_alloc ?_ _) | (with_reducible refine Kd.C_drewN ?_ _) | (with_reducible refine Kd.C_drew ?_))); (case side2 => exact HC0.out); rintro e w4 ⟨rfl, hb⟩; refine ⟨_, rfl, ?_⟩; replace HB := Bs0 HB hb; (try clear hb)))
  go_loopg [4, 12] k (fun kq v4 v12 w' => ∃ (x4_1 : Int) (x12_1 : Int), v4 = .int .i64 x4_1 ∧ v12 = .int .i64 x12_1 ∧ Aside0 (spoorref19_Long.l0 kq x4_1 l0 (l0.length : Int) x12_1 = some (r1, r2)) ∧ Aside0 (kq ≤ k) ∧ Aside0 (Below w.heap.size w w'))
  case atStart => exact ⟨(0), (0), rS, rS, H', ⟨Nat.le_refl _⟩, ⟨bw0 HB.out⟩⟩
  case round =>
   clear H'
   try clear c1
   try clear p2
   try clear c3
   try clear c3b0
   try clear c3b1
   obtain ⟨x4_1, x12_1, rfl, rfl, HA, HK1, HB⟩ := hrel
   cases gk with
   | zero => exact absurd HA.out (by simp [spoorref19_Long.l0])
   | succ k1 =>
    have H := HA.out
    clear HA
    simp only [spoorref19_Long.l0] at H
    by_cases c5 : x12_1 < (l0.length : Int)
    ·rw [if_pos c5] at H
     have c5b0 : decide (x12_1 < (l0.length : Int)) = true := decide_eq_true c5
     clear c5
     by_cases c6 : 0 ≤ x12_1
     ·rw [if_pos c6] at H
      have c6b0 : decide (0 ≤ x12_1) = true := decide_eq_true c6
      clear c6
      by_cases c7 : x12_1 < (l0.length : Int)
      ·rw [if_pos c7] at H
       have c7b0 : decide (x12_1 < (l0.length : Int)) = true := decide_eq_true c7
       clear c7
       have H' := Ax H
       clear H
       have p219 : 0 ≤ (x12_1 : Int) := of_decide_eq_true (by first | (with_reducible assumption) | assumption)
       have q219 : x12_1 < (l0.length : Int) := of_decide_eq_true (by first | (with_reducible assumption) | assumption)
       obtain ⟨ad219, e219, hx219_0, hx219_1⟩ := at_T36 HR0.out x12_1 p219 q219
       cases e219
       replace hx219_0 := (HB.out.cell (World.block_lt_of_cell? w _ hx219_0)).trans hx219_0
       replace hx219_1 := (HB.out.cell (World.block_lt_of_cell? w _ hx219_1)).trans hx219_1
       replace p219 := eq_true p219
       replace q219 := eq_true q219
       go_wp2_with (first | ((with_reducible refine gate_dst (N := 6) rfl ?_); refine box_event ?hg (N := 6) ?hd (cs := #[.int .i64 0, .int .i64 0]) (t := 36) ?hr ?_; (case hd => rfl); (case hg => rfl); (case hr => first | (go_simp; done) | (go_simp; rfl)); intro gb220 hg w8 hbox hb; have n0_ := Bs0 HB hb; have n1_ := Ax (hbox); have n2_ := Gw0 HB hg; have n3_ := Gw0 HB hg; clear HB; have HB := n0_; have BK220 := n1_; have GW220 := n2_; have GE220 := n3_; clear n0_ n1_ n2_ n3_; clear hb hbox hg; obtain ⟨hcz9_0, hcz9_1, hfz9_0, hfz9_1⟩ := cl2 BK220))
       go_roundg k1
       case measure => have := HK1.out; omega
       case rel => exact ⟨(wrap64 (x4_1 + (wrap64 ((wrap64 (((rd_T36 l0 x12_1).f1) - ((rd_T36 l0 x12_1).f0))) + 1)))), (wrap64 (x12_1 + 1)), rS, rS, H', ⟨by have := HK1.out; omega⟩, ⟨bw1 HB.out GE220.out⟩⟩
      ·rw [if_neg c7] at H
       exact absurd H (by simp)
     ·rw [if_neg c6] at H
      exact absurd H (by simp)
    ·rw [if_neg c5] at H
     have c5b0 : decide (x12_1 < (l0.length : Int)) = false := decide_eq_false c5
     clear c5
     simp only [Option.some.injEq, Prod.mk.injEq] at H
     obtain ⟨rfl, rfl⟩ := H
     go_wp2
     go_ret2
     exact ⟨eS, bw0 HB.out⟩
 ·rw [if_neg c3] at H
  have c3b0 : (t218 == 0) = false := beq_eq_false_iff_ne.mpr c3
  have c3b1 : (t218 != 0) = true := bne_iff_ne.mpr c3
  simp only [Option.some.injEq, Prod.mk.injEq] at H
  obtain ⟨rfl, rfl⟩ := H
  go_enter Try.func15, Try.ntmps15
  go_wp2_with (first | ((with_reducible refine gate_callee (f := 18) rfl ?_); refine goesL_ (some 8) rfl rfl Try.func18 (by kernel_rfl) rfl #[.slice A0 l0.length c0] rfl gS ?_; (with_reducible refine (spoorref19_Check.calls k _ _ l0 t218 _ ?side1 ?side2 A2.out).mono ?_); (case side1 => repeat (first | exact HR0.out | (with_reducible refine Kd.C_alloc ?_ _) | (with_reducible refine Kd.C_drewN ?_ _) | (with_reducible refine Kd.C_drew ?_))); (case side2 => exact HC0.out); rintro e w10 ⟨rfl, hb⟩; refine ⟨_, rfl, ?_⟩; replace HB := Bs0 HB hb; (try clear hb)))
  go_ret2
  exact ⟨eS, bw0 HB.out⟩
def spoorlaw19_IvlMakes.f (k : Nat) (l0 : List (S36)) (a1 : Int) : Option (Bool) := (spoorlaw19_few.f k l0 l0).bind fun t221 => (if t221 = true then ((ivl_Make.f k l0).bind fun bt223 => ((spoorref19_Make.f k l0).bind fun bt227 => ((ivl_Has.f k l0 a1).bind fun bt231 => ((spoorref19_Has.f k l0 a1).bind fun bt233 => ((ivl_Long.f k l0).bind fun bt235 => ((spoorref19_Long.f k l0).bind fun bt237 => ((spoorlaw19_lives.f k).bind fun t239 => (if t239 = true then ((spoorref19_Same.f k bt223.1 bt227.1).bind fun t240 => (if t240 = true then (if bt223.2 = bt227.2 then ((ivl_Check.f k l0).bind fun t241 => ((spoorref19_Check.f k l0).bind fun t242 => (if t241 = t242 then (if (bt231.1 == bt233.1) = true then (if bt231.2 = bt233.2 then (if bt235.1 = bt237.1 then (some (bt235.2 == bt237.2)) else (none)) else (none)) else (none)) else (none)))) else (none)) else (none))) else (none))))))))) else ((spoorlaw19_lives.f k).bind fun t222 => (some t222)))
set_option maxHeartbeats 8000000 in
set_option maxRecDepth 100000 in
theorem spoorlaw19_IvlMakes.calls (k : Nat) (A0 : Option Addr) (c0 : Nat) (l0 : List (S36)) (a1 : Int) (r : Bool) (w : World) (hr0 : Kd.C k36 w A0 l0.length l0) (hc0 : l0.length ≤ c0) (h : spoorlaw19_IvlMakes.f k l0 a1 = some r) :
  Calls Try.prog 3 #[.slice A0 l0.length c0, .int .i64 a1] w fun e w' => e = .returned (.bool r) ∧ Below w.heap.size w w' := by
 have HR0 := Ax hr0
 have HC0 := Ax hc0
 clear hr0 hc0
 have HB := Ax (Below.refl w.heap.size w)
 have H : ((spoorlaw19_few.f k l0 l0).bind fun t221 => (if t221 = true then ((ivl_Make.f k l0).bind fun bt223 => ((spoorref19_Make.f k l0).bind fun bt227 => ((ivl_Has.f k l0 a1).bind fun bt231 => ((spoorref19_Has.f k l0 a1).bind fun bt233 => ((ivl_Long.f k l0).bind fun bt235 => ((spoorref19_Long.f k l0).bind fun bt237 => ((spoorlaw19_lives.f k).bind fun t239 => (if t239 = true then ((spoorref19_Same.f k bt223.1 bt227.1).bind fun t240 => (if t240 = true then (if bt223.2 = bt227.2 then ((ivl_Check.f k l0).bind fun t241 => ((spoorref19_Check.f k l0).bind fun t242 => (if t241 = t242 then (if (bt231.1 == bt233.1) = true then (if bt231.2 = bt233.2 then (if bt235.1 = bt237.1 then (some (bt235.2 == bt237.2)) else (none)) else (none)) else (none)) else (none)))) else (none)) else (none))) else (none))))))))) else ((spoorlaw19_lives.f k).bind fun t222 => (some t222)))) = some r := h
 clear h
 replace H := Option.bind_eq_some_iff.mp H
 obtain ⟨t221, A30, H⟩ := H
 replace H : (if t221 = true then ((ivl_Make.f k l0).bind fun bt223 => ((spoorref19_Make.f k l0).bind fun bt227 => ((ivl_Has.f k l0 a1).bind fun bt231 => ((spoorref19_Has.f k l0 a1).bind fun bt233 => ((ivl_Long.f k l0).bind fun bt235 => ((spoorref19_Long.f k l0).bind fun bt237 => ((spoorlaw19_lives.f k).bind fun t239 => (if t239 = true then ((spoorref19_Same.f k bt223.1 bt227.1).bind fun t240 => (if t240 = true then (if bt223.2 = bt227.2 then ((ivl_Check.f k l0).bind fun t241 => ((spoorref19_Check.f k l0).bind fun t242 => (if t241 = t242 then (if (bt231.1 == bt233.1) = true then (if bt231.2 = bt233.2 then (if bt235.1 = bt237.1 then (some (bt235.2 == bt237.2)) else (none)) else (none)) else (none)) else (none)))) else (none)) else (none))) else (none))))))))) else ((spoorlaw19_lives.f k).bind fun t222 => (some t222))) = some r := H
 have A3 := Ax A30
 clear A30
 by_cases c4 : t221 = true
 ·subst c4
  have H1 : ((ivl_Make.f k l0).bind fun bt223 => ((spoorref19_Make.f k l0).bind fun bt227 => ((ivl_Has.f k l0 a1).bind fun bt231 => ((spoorref19_Has.f k l0 a1).bind fun bt233 => ((ivl_Long.f k l0).bind fun bt235 => ((spoorref19_Long.f k l0).bind fun bt237 => ((spoorlaw19_lives.f k).bind fun t239 => (if t239 = true then ((spoorref19_Same.f k bt223.1 bt227.1).bind fun t240 => (if t240 = true then (if bt223.2 = bt227.2 then ((ivl_Check.f k l0).bind fun t241 => ((spoorref19_Check.f k l0).bind fun t242 => (if t241 = t242 then (if (bt231.1 == bt233.1) = true then (if bt231.2 = bt233.2 then (if bt235.1 = bt237.1 then (some (bt235.2 == bt237.2)) else (none)) else (none)) else (none)) else (none)))) else (none)) else (none))) else (none))))))))) = some r := by rw [if_pos rfl] at H; exact H
  clear H
  have H := H1
  clear H1
  replace H := Option.bind_eq_some_iff.mp H
  obtain ⟨⟨t223, t224⟩, A50, H⟩ := H
  replace H : ((spoorref19_Make.f k l0).bind fun bt227 => ((ivl_Has.f k l0 a1).bind fun bt231 => ((spoorref19_Has.f k l0 a1).bind fun bt233 => ((ivl_Long.f k l0).bind fun bt235 => ((spoorref19_Long.f k l0).bind fun bt237 => ((spoorlaw19_lives.f k).bind fun t239 => (if t239 = true then ((spoorref19_Same.f k t223 bt227.1).bind fun t240 => (if t240 = true then (if t224 = bt227.2 then ((ivl_Check.f k l0).bind fun t241 => ((spoorref19_Check.f k l0).bind fun t242 => (if t241 = t242 then (if (bt231.1 == bt233.1) = true then (if bt231.2 = bt233.2 then (if bt235.1 = bt237.1 then (some (bt235.2 == bt237.2)) else (none)) else (none)) else (none)) else (none)))) else (none)) else (none))) else (none)))))))) = some r := H
  have A5 := Ax A50
  clear A50
  replace H := Option.bind_eq_some_iff.mp H
  obtain ⟨⟨t227, t228⟩, A60, H⟩ := H
  replace H : ((ivl_Has.f k l0 a1).bind fun bt231 => ((spoorref19_Has.f k l0 a1).bind fun bt233 => ((ivl_Long.f k l0).bind fun bt235 => ((spoorref19_Long.f k l0).bind fun bt237 => ((spoorlaw19_lives.f k).bind fun t239 => (if t239 = true then ((spoorref19_Same.f k t223 t227).bind fun t240 => (if t240 = true then (if t224 = t228 then ((ivl_Check.f k l0).bind fun t241 => ((spoorref19_Check.f k l0).bind fun t242 => (if t241 = t242 then (if (bt231.1 == bt233.1) = true then (if bt231.2 = bt233.2 then (if bt235.1 = bt237.1 then (some (bt235.2 == bt237.2)) else (none)) else (none)) else (none)) else (none)))) else (none)) else (none))) else (none))))))) = some r := H
  have A6 := Ax A60
  clear A60
  replace H := Option.bind_eq_some_iff.mp H
  obtain ⟨⟨t231, t232⟩, A70, H⟩ := H
  replace H : ((spoorref19_Has.f k l0 a1).bind fun bt233 => ((ivl_Long.f k l0).bind fun bt235 => ((spoorref19_Long.f k l0).bind fun bt237 => ((spoorlaw19_lives.f k).bind fun t239 => (if t239 = true then ((spoorref19_Same.f k t223 t227).bind fun t240 => (if t240 = true then (if t224 = t228 then ((ivl_Check.f k l0).bind fun t241 => ((spoorref19_Check.f k l0).bind fun t242 => (if t241 = t242 then (if (t231 == bt233.1) = true then (if t232 = bt233.2 then (if bt235.1 = bt237.1 then (some (bt235.2 == bt237.2)) else (none)) else (none)) else (none)) else (none)))) else (none)) else (none))) else (none)))))) = some r := H
  have A7 := Ax A70
  clear A70
  replace H := Option.bind_eq_some_iff.mp H
  obtain ⟨⟨t233, t234⟩, A80, H⟩ := H
  replace H : ((ivl_Long.f k l0).bind fun bt235 => ((spoorref19_Long.f k l0).bind fun bt237 => ((spoorlaw19_lives.f k).bind fun t239 => (if t239 = true then ((spoorref19_Same.f k t223 t227).bind fun t240 => (if t240 = true then (if t224 = t228 then ((ivl_Check.f k l0).bind fun t241 => ((spoorref19_Check.f k l0).bind fun t242 => (if t241 = t242 then (if (t231 == t233) = true then (if t232 = t234 then (if bt235.1 = bt237.1 then (some (bt235.2 == bt237.2)) else (none)) else (none)) else (none)) else (none)))) else (none)) else (none))) else (none))))) = some r := H
  have A8 := Ax A80
  clear A80
  replace H := Option.bind_eq_some_iff.mp H
  obtain ⟨⟨t235, t236⟩, A90, H⟩ := H
  replace H : ((spoorref19_Long.f k l0).bind fun bt237 => ((spoorlaw19_lives.f k).bind fun t239 => (if t239 = true then ((spoorref19_Same.f k t223 t227).bind fun t240 => (if t240 = true then (if t224 = t228 then ((ivl_Check.f k l0).bind fun t241 => ((spoorref19_Check.f k l0).bind fun t242 => (if t241 = t242 then (if (t231 == t233) = true then (if t232 = t234 then (if t235 = bt237.1 then (some (t236 == bt237.2)) else (none)) else (none)) else (none)) else (none)))) else (none)) else (none))) else (none)))) = some r := H
  have A9 := Ax A90
  clear A90
  replace H := Option.bind_eq_some_iff.mp H
  obtain ⟨⟨t237, t238⟩, A100, H⟩ := H
  replace H : ((spoorlaw19_lives.f k).bind fun t239 => (if t239 = true then ((spoorref19_Same.f k t223 t227).bind fun t240 => (if t240 = true then (if t224 = t228 then ((ivl_Check.f k l0).bind fun t241 => ((spoorref19_Check.f k l0).bind fun t242 => (if t241 = t242 then (if (t231 == t233) = true then (if t232 = t234 then (if t235 = t237 then (some (t236 == t238)) else (none)) else (none)) else (none)) else (none)))) else (none)) else (none))) else (none))) = some r := H
  have A10 := Ax A100
  clear A100
  replace H := Option.bind_eq_some_iff.mp H
  obtain ⟨t239, A110, H⟩ := H
  replace H : (if t239 = true then ((spoorref19_Same.f k t223 t227).bind fun t240 => (if t240 = true then (if t224 = t228 then ((ivl_Check.f k l0).bind fun t241 => ((spoorref19_Check.f k l0).bind fun t242 => (if t241 = t242 then (if (t231 == t233) = true then (if t232 = t234 then (if t235 = t237 then (some (t236 == t238)) else (none)) else (none)) else (none)) else (none)))) else (none)) else (none))) else (none)) = some r := H
  have A11 := Ax A110
  clear A110
  by_cases c12 : t239 = true
  ·subst c12
   have H1 : ((spoorref19_Same.f k t223 t227).bind fun t240 => (if t240 = true then (if t224 = t228 then ((ivl_Check.f k l0).bind fun t241 => ((spoorref19_Check.f k l0).bind fun t242 => (if t241 = t242 then (if (t231 == t233) = true then (if t232 = t234 then (if t235 = t237 then (some (t236 == t238)) else (none)) else (none)) else (none)) else (none)))) else (none)) else (none))) = some r := by rw [if_pos rfl] at H; exact H
   clear H
   have H := H1
   clear H1
   replace H := Option.bind_eq_some_iff.mp H
   obtain ⟨t240, A130, H⟩ := H
   replace H : (if t240 = true then (if t224 = t228 then ((ivl_Check.f k l0).bind fun t241 => ((spoorref19_Check.f k l0).bind fun t242 => (if t241 = t242 then (if (t231 == t233) = true then (if t232 = t234 then (if t235 = t237 then (some (t236 == t238)) else (none)) else (none)) else (none)) else (none)))) else (none)) else (none)) = some r := H
   have A13 := Ax A130
   clear A130
   by_cases c14 : t240 = true
   ·subst c14
    have H1 : (if t224 = t228 then ((ivl_Check.f k l0).bind fun t241 => ((spoorref19_Check.f k l0).bind fun t242 => (if t241 = t242 then (if (t231 == t233) = true then (if t232 = t234 then (if t235 = t237 then (some (t236 == t238)) else (none)) else (none)) else (none)) else (none)))) else (none)) = some r := by rw [if_pos rfl] at H; exact H
    clear H
    have H := H1
    clear H1
    by_cases c15 : t224 = t228
    ·rw [if_pos c15] at H
     have c15b0 : (t224 == t228) = true := beq_iff_eq.mpr c15
     have c15b1 : (t224 != t228) = false := bne_eq_false_iff_eq.mpr c15
     clear c15
     replace H := Option.bind_eq_some_iff.mp H
     obtain ⟨t241, A160, H⟩ := H
     replace H : ((spoorref19_Check.f k l0).bind fun t242 => (if t241 = t242 then (if (t231 == t233) = true then (if t232 = t234 then (if t235 = t237 then (some (t236 == t238)) else (none)) else (none)) else (none)) else (none))) = some r := H
     have A16 := Ax A160
     clear A160
     replace H := Option.bind_eq_some_iff.mp H
     obtain ⟨t242, A170, H⟩ := H
     replace H : (if t241 = t242 then (if (t231 == t233) = true then (if t232 = t234 then (if t235 = t237 then (some (t236 == t238)) else (none)) else (none)) else (none)) else (none)) = some r := H
     have A17 := Ax A170
     clear A170
     by_cases c18 : t241 = t242
     ·rw [if_pos c18] at H
      have c18b0 : (t241 == t242) = true := beq_iff_eq.mpr c18
      have c18b1 : (t241 != t242) = false := bne_eq_false_iff_eq.mpr c18
      clear c18
      by_cases c19 : (t231 == t233) = true
      ·rw [if_pos c19] at H
       have c19b0 : (t231 == t233) = true := c19
       (try (have c19b1 : decide (t231 = t233) = true := by simpa using c19))
       (try (have c19b2 : (t231 == t233) = true := by simpa using c19))
       clear c19
       by_cases c20 : t232 = t234
       ·rw [if_pos c20] at H
        have c20b0 : (t232 == t234) = true := beq_iff_eq.mpr c20
        have c20b1 : (t232 != t234) = false := bne_eq_false_iff_eq.mpr c20
        clear c20
        by_cases c21 : t235 = t237
        ·rw [if_pos c21] at H
         have c21b0 : (t235 == t237) = true := beq_iff_eq.mpr c21
         have c21b1 : (t235 != t237) = false := bne_eq_false_iff_eq.mpr c21
         clear c21
         obtain rfl := Option.some.inj H
         go_enter Try.func3, Try.ntmps3
         go_wp2_with (first | (go_at_call 8; refine (spoorlaw19_few.calls1 k _ _ l0 none 0 l0 true _ ?side1 ?side2 ?side3 ?side4 A3.out).mono ?_; (case side1 => repeat (first | exact HR0.out | (with_reducible refine Kd.C_alloc ?_ _) | (with_reducible refine Kd.C_drewN ?_ _) | (with_reducible refine Kd.C_drew ?_))); (case side2 => exact HC0.out); (case side3 => repeat (first | exact HR0.out | (with_reducible refine Kd.C_alloc ?_ _) | (with_reducible refine Kd.C_drewN ?_ _) | (with_reducible refine Kd.C_drew ?_))); (case side4 => exact HC0.out); rintro e w22 ⟨rfl, hb⟩; replace HB := Bs0 HB hb; (try clear hb)) | ((with_reducible refine gate_callee (f := 10) rfl ?_); refine goesL_ (some 24) rfl rfl Try.func10 (by kernel_rfl) rfl #[.slice A0 l0.length c0] rfl gS ?_; (with_reducible refine (ivl_Make.calls k _ _ l0 t223 t224 _ ?side1 ?side2 A5.out).mono ?_); (case side1 => repeat (first | exact (Kd.C_below HR0.out HB.out) | (with_reducible refine Kd.C_alloc ?_ _) | (with_reducible refine Kd.C_drewN ?_ _) | (with_reducible refine Kd.C_drew ?_))); (case side2 => exact HC0.out); rintro e w23 ⟨v225, rfl, ho0, hb⟩; refine ⟨_, rfl, ?_⟩; have HO226 := Ax (Kd.R_lower ho0 (below_size (bw0 HB.out))); replace HB := Bs0 HB hb; (try clear hb); (try clear ho0)) | ((with_reducible refine gate_callee (f := 11) rfl ?_); refine goesL_ (some 29) rfl rfl Try.func11 (by kernel_rfl) rfl #[.slice A0 l0.length c0] rfl gS ?_; (with_reducible refine (spoorref19_Make.calls k _ _ l0 t227 t228 _ ?side1 ?side2 A6.out).mono ?_); (case side1 => repeat (first | exact (Kd.C_below HR0.out HB.out) | (with_reducible refine Kd.C_alloc ?_ _) | (with_reducible refine Kd.C_drewN ?_ _) | (with_reducible refine Kd.C_drew ?_))); (case side2 => exact HC0.out); rintro e w24 ⟨v229, rfl, ho0, hb⟩; refine ⟨_, rfl, ?_⟩; have n0_ := Ax (Kd.R_elder' (by (with_reducible repeat (first | apply Kd.R_alloc | apply Kd.R_drewN | apply Kd.R_drew)); exact HO226.out) (Kd.R_base ho0) hb); have n1_ := Ax (Kd.R_lower (Kd.R_new' ho0 (Kd.R_lt (by (with_reducible repeat (first | apply Kd.R_alloc | apply Kd.R_drewN | apply Kd.R_drew)); exact HO226.out))) (below_size (bw0 HB.out))); have n2_ := Bs0 HB hb; clear HO226; clear HB; have HO226 := n0_; have HO230 := n1_; have HB := n2_; clear n0_ n1_ n2_; (try clear hb); (try clear ho0)) | ((with_reducible refine gate_callee (f := 12) rfl ?_); refine goesL_ (some 35) rfl rfl Try.func12 (by kernel_rfl) rfl #[.slice A0 l0.length c0, .int .i64 a1] rfl gS ?_; (with_reducible refine (ivl_Has.calls k _ _ l0 a1 t231 t232 _ ?side1 ?side2 A7.out).mono ?_); (case side1 => repeat (first | exact (Kd.C_below HR0.out HB.out) | (with_reducible refine Kd.C_alloc ?_ _) | (with_reducible refine Kd.C_drewN ?_ _) | (with_reducible refine Kd.C_drew ?_))); (case side2 => exact HC0.out); rintro e w25 ⟨rfl, hb⟩; refine ⟨_, rfl, ?_⟩; have n0_ := Ax (Kd.R_below (by (with_reducible repeat (first | apply Kd.R_alloc | apply Kd.R_drewN | apply Kd.R_drew)); exact HO226.out) hb); have n1_ := Ax (Kd.R_below (by (with_reducible repeat (first | apply Kd.R_alloc | apply Kd.R_drewN | apply Kd.R_drew)); exact HO230.out) hb); have n2_ := Bs0 HB hb; clear HO226; clear HO230; clear HB; have HO226 := n0_; have HO230 := n1_; have HB := n2_; clear n0_ n1_ n2_; (try clear hb)) | ((with_reducible refine gate_callee (f := 13) rfl ?_); refine goesL_ (some 41) rfl rfl Try.func13 (by kernel_rfl) rfl #[.slice A0 l0.length c0, .int .i64 a1] rfl gS ?_; (with_reducible refine (spoorref19_Has.calls k _ _ l0 a1 t233 t234 _ ?side1 ?side2 A8.out).mono ?_); (case side1 => repeat (first | exact (Kd.C_below HR0.out HB.out) | (with_reducible refine Kd.C_alloc ?_ _) | (with_reducible refine Kd.C_drewN ?_ _) | (with_reducible refine Kd.C_drew ?_))); (case side2 => exact HC0.out); rintro e w26 ⟨rfl, hb⟩; refine ⟨_, rfl, ?_⟩; have n0_ := Ax (Kd.R_below (by (with_reducible repeat (first | apply Kd.R_alloc | apply Kd.R_drewN | apply Kd.R_drew)); exact HO226.out) hb); have n1_ := Ax (Kd.R_below (by (with_reducible repeat (first | apply Kd.R_alloc | apply Kd.R_drewN | apply Kd.R_drew)); exact HO230.out) hb); have n2_ := Bs0 HB hb; clear HO226; clear HO230; clear HB; have HO226 := n0_; have HO230 := n1_; have HB := n2_; clear n0_ n1_ n2_; (try clear hb)) | ((with_reducible refine gate_callee (f := 14) rfl ?_); refine goesL_ (some 46) rfl rfl Try.func14 (by kernel_rfl) rfl #[.slice A0 l0.length c0] rfl gS ?_; (with_reducible refine (ivl_Long.calls k _ _ l0 t235 t236 _ ?side1 ?side2 A9.out).mono ?_); (case side1 => repeat (first | exact (Kd.C_below HR0.out HB.out) | (with_reducible refine Kd.C_alloc ?_ _) | (with_reducible refine Kd.C_drewN ?_ _) | (with_reducible refine Kd.C_drew ?_))); (case side2 => exact HC0.out); rintro e w27 ⟨rfl, hb⟩; refine ⟨_, rfl, ?_⟩; have n0_ := Ax (Kd.R_below (by (with_reducible repeat (first | apply Kd.R_alloc | apply Kd.R_drewN | apply Kd.R_drew)); exact HO226.out) hb); have n1_ := Ax (Kd.R_below (by (with_reducible repeat (first | apply Kd.R_alloc | apply Kd.R_drewN | apply Kd.R_drew)); exact HO230.out) hb); have n2_ := Bs0 HB hb; clear HO226; clear HO230; clear HB; have HO226 := n0_; have HO230 := n1_; have HB := n2_; clear n0_ n1_ n2_; (try clear hb)) | ((with_reducible refine gate_callee (f := 15) rfl ?_); refine goesL_ (some 51) rfl rfl Try.func15 (by kernel_rfl) rfl #[.slice A0 l0.length c0] rfl gS ?_; (with_reducible refine (spoorref19_Long.calls k _ _ l0 t237 t238 _ ?side1 ?side2 A10.out).mono ?_); (case side1 => repeat (first | exact (Kd.C_below HR0.out HB.out) | (with_reducible refine Kd.C_alloc ?_ _) | (with_reducible refine Kd.C_drewN ?_ _) | (with_reducible refine Kd.C_drew ?_))); (case side2 => exact HC0.out); rintro e w28 ⟨rfl, hb⟩; refine ⟨_, rfl, ?_⟩; have n0_ := Ax (Kd.R_below (by (with_reducible repeat (first | apply Kd.R_alloc | apply Kd.R_drewN | apply Kd.R_drew)); exact HO226.out) hb); have n1_ := Ax (Kd.R_below (by (with_reducible repeat (first | apply Kd.R_alloc | apply Kd.R_drewN | apply Kd.R_drew)); exact HO230.out) hb); have n2_ := Bs0 HB hb; clear HO226; clear HO230; clear HB; have HO226 := n0_; have HO230 := n1_; have HB := n2_; clear n0_ n1_ n2_; (try clear hb)) | ((with_reducible refine gate_callee (f := 9) rfl ?_); refine goesL_ (some 54) rfl rfl Try.func9 (by kernel_rfl) rfl #[] rfl gS ?_; (with_reducible refine (spoorlaw19_lives.calls k  true _ A11.out).mono ?_); rintro e w29 ⟨rfl, hb⟩; refine ⟨_, rfl, ?_⟩; have n0_ := Ax (Kd.R_below (by (with_reducible repeat (first | apply Kd.R_alloc | apply Kd.R_drewN | apply Kd.R_drew)); exact HO226.out) hb); have n1_ := Ax (Kd.R_below (by (with_reducible repeat (first | apply Kd.R_alloc | apply Kd.R_drewN | apply Kd.R_drew)); exact HO230.out) hb); have n2_ := Bs0 HB hb; clear HO226; clear HO230; clear HB; have HO226 := n0_; have HO230 := n1_; have HB := n2_; clear n0_ n1_ n2_; (try clear hb); obtain ⟨Ao30, co30, eo30⟩ := Kd.R_slice HO226.out; subst eo30; obtain ⟨Ao31, co31, eo31⟩ := Kd.R_slice HO230.out; subst eo31) | (go_at_call 16; (with_reducible refine (spoorref19_Same.calls k _ _ t223 _ _ t227 true _ ?side1 ?side2 ?side3 ?side4 A13.out).mono ?_); (case side1 => repeat (first | exact (Kd.R_reads' HO226.out).2.2 | (with_reducible refine Kd.C_alloc ?_ _) | (with_reducible refine Kd.C_drewN ?_ _) | (with_reducible refine Kd.C_drew ?_))); (case side2 => exact (Kd.R_reads' HO226.out).2.1); (case side3 => repeat (first | exact (Kd.R_reads' HO230.out).2.2 | (with_reducible refine Kd.C_alloc ?_ _) | (with_reducible refine Kd.C_drewN ?_ _) | (with_reducible refine Kd.C_drew ?_))); (case side4 => exact (Kd.R_reads' HO230.out).2.1); rintro e w' ⟨rfl, ⟨nd, rfl⟩⟩) | (go_at_call 17; (with_reducible refine (ivl_Check.calls k _ _ l0 t241 _ ?side1 ?side2 A16.out).mono ?_); (case side1 => repeat (first | exact (Kd.C_below HR0.out (bw0 HB.out)) | (with_reducible refine Kd.C_alloc ?_ _) | (with_reducible refine Kd.C_drewN ?_ _) | (with_reducible refine Kd.C_drew ?_))); (case side2 => exact HC0.out); rintro e w32 ⟨rfl, hb⟩; have n0_ := Ax (Kd.R_below (by (with_reducible repeat (first | apply Kd.R_alloc | apply Kd.R_drewN | apply Kd.R_drew)); exact HO226.out) hb); have n1_ := Ax (Kd.R_below (by (with_reducible repeat (first | apply Kd.R_alloc | apply Kd.R_drewN | apply Kd.R_drew)); exact HO230.out) hb); have n2_ := Bs0 HB hb; clear HO226; clear HO230; clear HB; have HO226 := n0_; have HO230 := n1_; have HB := n2_; clear n0_ n1_ n2_; (try clear hb)) | (go_at_call 18; (with_reducible refine (spoorref19_Check.calls k _ _ l0 t242 _ ?side1 ?side2 A17.out).mono ?_); (case side1 => repeat (first | exact (Kd.C_below HR0.out HB.out) | (with_reducible refine Kd.C_alloc ?_ _) | (with_reducible refine Kd.C_drewN ?_ _) | (with_reducible refine Kd.C_drew ?_))); (case side2 => exact HC0.out); rintro e w33 ⟨rfl, hb⟩; have n0_ := Ax (Kd.R_below (by (with_reducible repeat (first | apply Kd.R_alloc | apply Kd.R_drewN | apply Kd.R_drew)); exact HO226.out) hb); have n1_ := Ax (Kd.R_below (by (with_reducible repeat (first | apply Kd.R_alloc | apply Kd.R_drewN | apply Kd.R_drew)); exact HO230.out) hb); have n2_ := Bs0 HB hb; clear HO226; clear HO230; clear HB; have HO226 := n0_; have HO230 := n1_; have HB := n2_; clear n0_ n1_ n2_; (try clear hb)))
         go_ret
         exact ⟨eS, bw0 HB.out⟩
        ·rw [if_neg c21] at H
         exact absurd H (by simp)
       ·rw [if_neg c20] at H
        exact absurd H (by simp)
      ·rw [if_neg c19] at H
       exact absurd H (by simp)
     ·rw [if_neg c18] at H
      exact absurd H (by simp)
    ·rw [if_neg c15] at H
     exact absurd H (by simp)
   ·replace c14 := Bool.eq_false_iff.mpr c14
    subst c14
    have H1 : (none) = some r := by rw [if_neg (show ¬ (false = true) by decide)] at H; exact H
    clear H
    have H := H1
    clear H1
    exact absurd H (by simp)
  ·replace c12 := Bool.eq_false_iff.mpr c12
   subst c12
   have H1 : (none) = some r := by rw [if_neg (show ¬ (false = true) by decide)] at H; exact H
   clear H
   have H := H1
   clear H1
   exact absurd H (by simp)
 ·replace c4 := Bool.eq_false_iff.mpr c4
  subst c4
  have H1 : ((spoorlaw19_lives.f k).bind fun t222 => (some t222)) = some r := by rw [if_neg (show ¬ (false = true) by decide)] at H; exact H
  clear H
  have H := H1
  clear H1
  replace H := Option.bind_eq_some_iff.mp H
  obtain ⟨t222, A340, H⟩ := H
  replace H : (some t222) = some r := H
  have A34 := Ax A340
  clear A340
  obtain rfl := Option.some.inj H
  go_enter Try.func3, Try.ntmps3
  go_wp2_with (first | (go_at_call 8; refine (spoorlaw19_few.calls1 k _ _ l0 none 0 l0 false _ ?side1 ?side2 ?side3 ?side4 A3.out).mono ?_; (case side1 => repeat (first | exact HR0.out | (with_reducible refine Kd.C_alloc ?_ _) | (with_reducible refine Kd.C_drewN ?_ _) | (with_reducible refine Kd.C_drew ?_))); (case side2 => exact HC0.out); (case side3 => repeat (first | exact HR0.out | (with_reducible refine Kd.C_alloc ?_ _) | (with_reducible refine Kd.C_drewN ?_ _) | (with_reducible refine Kd.C_drew ?_))); (case side4 => exact HC0.out); rintro e w35 ⟨rfl, hb⟩; replace HB := Bs0 HB hb; (try clear hb)) | ((with_reducible refine gate_callee (f := 9) rfl ?_); refine goesL_ (some 21) rfl rfl Try.func9 (by kernel_rfl) rfl #[] rfl gS ?_; (with_reducible refine (spoorlaw19_lives.calls k  t222 _ A34.out).mono ?_); rintro e w36 ⟨rfl, hb⟩; refine ⟨_, rfl, ?_⟩; replace HB := Bs0 HB hb; (try clear hb)))
  go_ret
  exact ⟨eS, bw0 HB.out⟩
def spoorref19_set.j0 : Nat → Int → List (S36) → List (S36) → Bool → Option ((List (S36)) × Int)
 | 0, _, _, _, _ => none
 | k + 1, x0, x1, x2, x16 => if x16 = true then (some (([] : List (S36)), 2)) else ((spoorref19_row.f k x0 x1 x2).bind fun t245 => (if (t245.length : Int) > 1024 then (some (([] : List (S36)), 11)) else (some (t245, 0))))
def spoorref19_set.f (k : Nat) (a0 : Int) (l1 : List (S36)) (l2 : List (S36)) : Option ((List (S36)) × Int) := (spoorref19_Check.f k l1).bind fun t243 => (if t243 = 0 then ((spoorref19_Check.f k l2).bind fun t244 => (spoorref19_set.j0 k a0 l1 l2 (t244 != 0))) else (spoorref19_set.j0 k a0 l1 l2 true))
set_option maxHeartbeats 8000000 in
set_option maxRecDepth 100000 in
theorem spoorref19_set.calls (k : Nat) (a0 : Int) (A1 : Option Addr) (c1 : Nat) (l1 : List (S36)) (A2 : Option Addr) (c2 : Nat) (l2 : List (S36)) (r1 : List (S36)) (r2 : Int) (w : World) (hr1 : Kd.C k36 w A1 l1.length l1) (hc1 : l1.length ≤ c1) (hr2 : Kd.C k36 w A2 l2.length l2) (hc2 : l2.length ≤ c2) (h : spoorref19_set.f k a0 l1 l2 = some (r1, r2)) :
  Calls Try.prog 39 #[.int .i64 a0, .slice A1 l1.length c1, .slice A2 l2.length c2] w fun e w' => ∃ v0_ : Value, e = .returned (.tuple #[v0_, .int .i64 r2]) ∧ Kd.R k36 36 w' w.heap.size (fun _ => True) v0_ r1 ∧ Below w.heap.size w w' := by
 have HR1 := Ax hr1
 have HC1 := Ax hc1
 clear hr1 hc1
 have HR2 := Ax hr2
 have HC2 := Ax hc2
 clear hr2 hc2
 have HB := Ax (Below.refl w.heap.size w)
 have H : ((spoorref19_Check.f k l1).bind fun t243 => (if t243 = 0 then ((spoorref19_Check.f k l2).bind fun t244 => (spoorref19_set.j0 k a0 l1 l2 (t244 != 0))) else (spoorref19_set.j0 k a0 l1 l2 true))) = some (r1, r2) := h
 clear h
 have HC4 := Ax H
 clear H
 go_enter Try.func39, Try.ntmps39
 go_upto_region 1 with (fail)
 go_cut [16] (fun v16 wc => ∃ (kq : Nat) (x16_3 : Bool), v16 = .bool x16_3 ∧ Aside0 (spoorref19_set.j0 kq a0 l1 l2 x16_3 = some (r1, r2)) ∧ Aside0 (kq ≤ k) ∧ Aside0 (Below w.heap.size w wc))
 case first =>
  have H := HC4.out
  clear HC4
  replace H := Option.bind_eq_some_iff.mp H
  obtain ⟨t243, A50, H⟩ := H
  replace H : (if t243 = 0 then ((spoorref19_Check.f k l2).bind fun t244 => (spoorref19_set.j0 k a0 l1 l2 (t244 != 0))) else (spoorref19_set.j0 k a0 l1 l2 true)) = some (r1, r2) := H
  have A5 := Ax A50
  clear A50
  by_cases c6 : t243 = 0
  ·rw [if_pos c6] at H
   have c6b0 : (t243 == 0) = true := beq_iff_eq.mpr c6
   have c6b1 : (t243 != 0) = false := bne_eq_false_iff_eq.mpr c6
   clear c6
   (first | rw [c6b0] | (simp only [i64_w, i32_w]; rw [c6b0]) | skip)
   replace H := Option.bind_eq_some_iff.mp H
   obtain ⟨t244, A70, H⟩ := H
   replace H : (spoorref19_set.j0 k a0 l1 l2 (t244 != 0)) = some (r1, r2) := H
   have A7 := Ax A70
   clear A70
   have H' := Ax H
   clear H
   go_wp2_with (first | ((with_reducible refine gate_callee (f := 18) rfl ?_); refine goesL_ (some 10) rfl rfl Try.func18 (by kernel_rfl) rfl #[.slice A1 l1.length c1] rfl gS ?_; (with_reducible refine (spoorref19_Check.calls k _ _ l1 t243 _ ?side1 ?side2 A5.out).mono ?_); (case side1 => repeat (first | exact (Kd.C_below HR1.out HB.out) | (with_reducible refine Kd.C_alloc ?_ _) | (with_reducible refine Kd.C_drewN ?_ _) | (with_reducible refine Kd.C_drew ?_))); (case side2 => exact HC1.out); rintro e w8 ⟨rfl, hb⟩; refine ⟨_, rfl, ?_⟩; replace HB := Bs0 HB hb; (try clear hb)) | (go_at_call 18; (with_reducible refine (spoorref19_Check.calls k _ _ l2 t244 _ ?side1 ?side2 A7.out).mono ?_); (case side1 => repeat (first | exact (Kd.C_below HR2.out HB.out) | (with_reducible refine Kd.C_alloc ?_ _) | (with_reducible refine Kd.C_drewN ?_ _) | (with_reducible refine Kd.C_drew ?_))); (case side2 => exact HC2.out); rintro e w9 ⟨rfl, hb⟩; replace HB := Bs0 HB hb; (try clear hb)))
   go_meet
   case rel => exact ⟨_, ((t244 != 0)), rS, H', ⟨by first | omega | exact Nat.le_refl _⟩, ⟨bw0 HB.out⟩⟩
  ·rw [if_neg c6] at H
   have c6b0 : (t243 == 0) = false := beq_eq_false_iff_ne.mpr c6
   have c6b1 : (t243 != 0) = true := bne_iff_ne.mpr c6
   (first | rw [c6b0] | (simp only [i64_w, i32_w]; rw [c6b0]) | skip)
   have H' := Ax H
   clear H
   go_wp2_with (first | ((with_reducible refine gate_callee (f := 18) rfl ?_); refine goesL_ (some 10) rfl rfl Try.func18 (by kernel_rfl) rfl #[.slice A1 l1.length c1] rfl gS ?_; (with_reducible refine (spoorref19_Check.calls k _ _ l1 t243 _ ?side1 ?side2 A5.out).mono ?_); (case side1 => repeat (first | exact (Kd.C_below HR1.out HB.out) | (with_reducible refine Kd.C_alloc ?_ _) | (with_reducible refine Kd.C_drewN ?_ _) | (with_reducible refine Kd.C_drew ?_))); (case side2 => exact HC1.out); rintro e w10 ⟨rfl, hb⟩; refine ⟨_, rfl, ?_⟩; replace HB := Bs0 HB hb; (try clear hb)))
   go_meet
   case rel => exact ⟨_, (true), rS, H', ⟨by first | omega | exact Nat.le_refl _⟩, ⟨bw0 HB.out⟩⟩
 case rest =>
  clear HC4
  try clear c1
  try clear c2
  try clear p2
  try clear c3
  try clear c6
  try clear c6b0
  try clear c6b1
  obtain ⟨kq, x16_3, rfl, HA, HJ3, HB⟩ := hcut
  cases kq with
  | zero => exact absurd HA.out (by simp [spoorref19_set.j0])
  | succ kj3 =>
   have H := HA.out
   clear HA
   simp only [spoorref19_set.j0] at H
   by_cases c11 : x16_3 = true
   ·subst c11
    have H1 : (some (([] : List (S36)), 2)) = some (r1, r2) := by rw [if_pos rfl] at H; exact H
    clear H
    have H := H1
    clear H1
    simp only [Option.some.injEq, Prod.mk.injEq] at H
    obtain ⟨rfl, rfl⟩ := H
    go_wp2
    go_ret2
    exact ⟨_, eS, by first | exact Kd.R_nil _ _ _ _ _ | exact Kd.N_nil _ _ _ _ _ | exact Kd.V_nil _ _ _ _ _ | exact Kd.Q_nil _ _ _ _ _ | exact Kd.S_nil _ _ _ _ _, bw0 HB.out⟩
   ·replace c11 := Bool.eq_false_iff.mpr c11
    subst c11
    have H1 : ((spoorref19_row.f kj3 a0 l1 l2).bind fun t245 => (if (t245.length : Int) > 1024 then (some (([] : List (S36)), 11)) else (some (t245, 0)))) = some (r1, r2) := by rw [if_neg (show ¬ (false = true) by decide)] at H; exact H
    clear H
    have H := H1
    clear H1
    replace H := Option.bind_eq_some_iff.mp H
    obtain ⟨t245, A120, H⟩ := H
    replace H : (if (t245.length : Int) > 1024 then (some (([] : List (S36)), 11)) else (some (t245, 0))) = some (r1, r2) := H
    have A12 := Ax A120
    clear A120
    by_cases c13 : (t245.length : Int) > 1024
    ·rw [if_pos c13] at H
     have c13b0 : decide (1024 < (t245.length : Int)) = true := decide_eq_true c13
     have c13b1 : decide (1024 < t245.length) = true := decide_eq_true (by omega)
     clear c13
     simp only [Option.some.injEq, Prod.mk.injEq] at H
     obtain ⟨rfl, rfl⟩ := H
     go_wp2_with (first | ((with_reducible refine gate_callee (f := 33) rfl ?_); refine goesL_ (some 20) rfl rfl Try.func33 (by kernel_rfl) rfl #[.int .i64 a0, .slice A1 l1.length c1, .slice A2 l2.length c2] rfl gS ?_; (with_reducible refine (spoorref19_row.calls kj3 a0 _ _ l1 _ _ l2 t245 _ ?side1 ?side2 ?side3 ?side4 A12.out).mono ?_); (case side1 => repeat (first | exact (Kd.C_below HR1.out HB.out) | (with_reducible refine Kd.C_alloc ?_ _) | (with_reducible refine Kd.C_drewN ?_ _) | (with_reducible refine Kd.C_drew ?_))); (case side2 => exact HC1.out); (case side3 => repeat (first | exact (Kd.C_below HR2.out HB.out) | (with_reducible refine Kd.C_alloc ?_ _) | (with_reducible refine Kd.C_drewN ?_ _) | (with_reducible refine Kd.C_drew ?_))); (case side4 => exact HC2.out); rintro e w14 ⟨v246, rfl, ho0, hb⟩; refine ⟨_, rfl, ?_⟩; have HO247 := Ax (Kd.R_lower ho0 (below_size (bw0 HB.out))); replace HB := Bs0 HB hb; (try clear hb); (try clear ho0); obtain ⟨Ao15, co15, eo15⟩ := Kd.R_slice HO247.out; subst eo15))
     go_ret2
     exact ⟨_, eS, by first | exact Kd.R_nil _ _ _ _ _ | exact Kd.N_nil _ _ _ _ _ | exact Kd.V_nil _ _ _ _ _ | exact Kd.Q_nil _ _ _ _ _ | exact Kd.S_nil _ _ _ _ _, bw0 HB.out⟩
    ·rw [if_neg c13] at H
     have c13b0 : decide (1024 < (t245.length : Int)) = false := decide_eq_false c13
     have c13b1 : decide (1024 < t245.length) = false := decide_eq_false (by omega)
     clear c13
     simp only [Option.some.injEq, Prod.mk.injEq] at H
     obtain ⟨rfl, rfl⟩ := H
     go_wp2_with (first | ((with_reducible refine gate_callee (f := 33) rfl ?_); refine goesL_ (some 20) rfl rfl Try.func33 (by kernel_rfl) rfl #[.int .i64 a0, .slice A1 l1.length c1, .slice A2 l2.length c2] rfl gS ?_; (with_reducible refine (spoorref19_row.calls kj3 a0 _ _ l1 _ _ l2 t245 _ ?side1 ?side2 ?side3 ?side4 A12.out).mono ?_); (case side1 => repeat (first | exact (Kd.C_below HR1.out HB.out) | (with_reducible refine Kd.C_alloc ?_ _) | (with_reducible refine Kd.C_drewN ?_ _) | (with_reducible refine Kd.C_drew ?_))); (case side2 => exact HC1.out); (case side3 => repeat (first | exact (Kd.C_below HR2.out HB.out) | (with_reducible refine Kd.C_alloc ?_ _) | (with_reducible refine Kd.C_drewN ?_ _) | (with_reducible refine Kd.C_drew ?_))); (case side4 => exact HC2.out); rintro e w16 ⟨v246, rfl, ho0, hb⟩; refine ⟨_, rfl, ?_⟩; have HO247 := Ax (Kd.R_lower ho0 (below_size (bw0 HB.out))); replace HB := Bs0 HB hb; (try clear hb); (try clear ho0); obtain ⟨Ao17, co17, eo17⟩ := Kd.R_slice HO247.out; subst eo17))
     go_ret2
     exact ⟨_, eS, by (with_reducible repeat (first | apply Kd.R_alloc | apply Kd.R_drewN | apply Kd.R_drew)); exact HO247.out, bw0 HB.out⟩
def spoorref19_Or.f (k : Nat) (l0 : List (S36)) (l1 : List (S36)) : Option ((List (S36)) × Int) := (spoorref19_set.f k 0 l0 l1).bind fun bt248 => (some (bt248.1, bt248.2))
set_option maxHeartbeats 8000000 in
set_option maxRecDepth 100000 in
theorem spoorref19_Or.calls (k : Nat) (A0 : Option Addr) (c0 : Nat) (l0 : List (S36)) (A1 : Option Addr) (c1 : Nat) (l1 : List (S36)) (r1 : List (S36)) (r2 : Int) (w : World) (hr0 : Kd.C k36 w A0 l0.length l0) (hc0 : l0.length ≤ c0) (hr1 : Kd.C k36 w A1 l1.length l1) (hc1 : l1.length ≤ c1) (h : spoorref19_Or.f k l0 l1 = some (r1, r2)) :
  Calls Try.prog 20 #[.slice A0 l0.length c0, .slice A1 l1.length c1] w fun e w' => ∃ v0_ : Value, e = .returned (.tuple #[v0_, .int .i64 r2]) ∧ Kd.R k36 36 w' w.heap.size (fun _ => True) v0_ r1 ∧ Below w.heap.size w w' := by
 have HR0 := Ax hr0
 have HC0 := Ax hc0
 clear hr0 hc0
 have HR1 := Ax hr1
 have HC1 := Ax hc1
 clear hr1 hc1
 have HB := Ax (Below.refl w.heap.size w)
 have H : ((spoorref19_set.f k 0 l0 l1).bind fun bt248 => (some (bt248.1, bt248.2))) = some (r1, r2) := h
 clear h
 replace H := Option.bind_eq_some_iff.mp H
 obtain ⟨⟨t248, t249⟩, A30, H⟩ := H
 replace H : (some (t248, t249)) = some (r1, r2) := H
 have A3 := Ax A30
 clear A30
 simp only [Option.some.injEq, Prod.mk.injEq] at H
 obtain ⟨rfl, rfl⟩ := H
 go_enter Try.func20, Try.ntmps20
 go_wp2_with (first | ((with_reducible refine gate_callee (f := 39) rfl ?_); refine goesL_ (some 8) rfl rfl Try.func39 (by kernel_rfl) rfl #[.int .i64 0, .slice A0 l0.length c0, .slice A1 l1.length c1] rfl gS ?_; (with_reducible refine (spoorref19_set.calls k 0 _ _ l0 _ _ l1 t248 t249 _ ?side1 ?side2 ?side3 ?side4 A3.out).mono ?_); (case side1 => repeat (first | exact HR0.out | (with_reducible refine Kd.C_alloc ?_ _) | (with_reducible refine Kd.C_drewN ?_ _) | (with_reducible refine Kd.C_drew ?_))); (case side2 => exact HC0.out); (case side3 => repeat (first | exact HR1.out | (with_reducible refine Kd.C_alloc ?_ _) | (with_reducible refine Kd.C_drewN ?_ _) | (with_reducible refine Kd.C_drew ?_))); (case side4 => exact HC1.out); rintro e w4 ⟨v250, rfl, ho0, hb⟩; refine ⟨_, rfl, ?_⟩; have HO251 := Ax (Kd.R_lower ho0 (below_size (bw0 HB.out))); replace HB := Bs0 HB hb; (try clear hb); (try clear ho0)))
 go_ret2
 exact ⟨_, eS, by (with_reducible repeat (first | apply Kd.R_alloc | apply Kd.R_drewN | apply Kd.R_drew)); exact HO251.out, bw0 HB.out⟩
def spoorref19_And.f (k : Nat) (l0 : List (S36)) (l1 : List (S36)) : Option ((List (S36)) × Int) := (spoorref19_set.f k 1 l0 l1).bind fun bt252 => (some (bt252.1, bt252.2))
set_option maxHeartbeats 8000000 in
set_option maxRecDepth 100000 in
theorem spoorref19_And.calls (k : Nat) (A0 : Option Addr) (c0 : Nat) (l0 : List (S36)) (A1 : Option Addr) (c1 : Nat) (l1 : List (S36)) (r1 : List (S36)) (r2 : Int) (w : World) (hr0 : Kd.C k36 w A0 l0.length l0) (hc0 : l0.length ≤ c0) (hr1 : Kd.C k36 w A1 l1.length l1) (hc1 : l1.length ≤ c1) (h : spoorref19_And.f k l0 l1 = some (r1, r2)) :
  Calls Try.prog 22 #[.slice A0 l0.length c0, .slice A1 l1.length c1] w fun e w' => ∃ v0_ : Value, e = .returned (.tuple #[v0_, .int .i64 r2]) ∧ Kd.R k36 36 w' w.heap.size (fun _ => True) v0_ r1 ∧ Below w.heap.size w w' := by
 have HR0 := Ax hr0
 have HC0 := Ax hc0
 clear hr0 hc0
 have HR1 := Ax hr1
 have HC1 := Ax hc1
 clear hr1 hc1
 have HB := Ax (Below.refl w.heap.size w)
 have H : ((spoorref19_set.f k 1 l0 l1).bind fun bt252 => (some (bt252.1, bt252.2))) = some (r1, r2) := h
 clear h
 replace H := Option.bind_eq_some_iff.mp H
 obtain ⟨⟨t252, t253⟩, A30, H⟩ := H
 replace H : (some (t252, t253)) = some (r1, r2) := H
 have A3 := Ax A30
 clear A30
 simp only [Option.some.injEq, Prod.mk.injEq] at H
 obtain ⟨rfl, rfl⟩ := H
 go_enter Try.func22, Try.ntmps22
 go_wp2_with (first | ((with_reducible refine gate_callee (f := 39) rfl ?_); refine goesL_ (some 8) rfl rfl Try.func39 (by kernel_rfl) rfl #[.int .i64 1, .slice A0 l0.length c0, .slice A1 l1.length c1] rfl gS ?_; (with_reducible refine (spoorref19_set.calls k 1 _ _ l0 _ _ l1 t252 t253 _ ?side1 ?side2 ?side3 ?side4 A3.out).mono ?_); (case side1 => repeat (first | exact HR0.out | (with_reducible refine Kd.C_alloc ?_ _) | (with_reducible refine Kd.C_drewN ?_ _) | (with_reducible refine Kd.C_drew ?_))); (case side2 => exact HC0.out); (case side3 => repeat (first | exact HR1.out | (with_reducible refine Kd.C_alloc ?_ _) | (with_reducible refine Kd.C_drewN ?_ _) | (with_reducible refine Kd.C_drew ?_))); (case side4 => exact HC1.out); rintro e w4 ⟨v254, rfl, ho0, hb⟩; refine ⟨_, rfl, ?_⟩; have HO255 := Ax (Kd.R_lower ho0 (below_size (bw0 HB.out))); replace HB := Bs0 HB hb; (try clear hb); (try clear ho0)))
 go_ret2
 exact ⟨_, eS, by (with_reducible repeat (first | apply Kd.R_alloc | apply Kd.R_drewN | apply Kd.R_drew)); exact HO255.out, bw0 HB.out⟩
def spoorref19_Not.f (k : Nat) (l0 : List (S36)) (a1_0 : Int) (a1_1 : Int) : Option ((List (S36)) × Int) := (spoorref19_set.f k 2 (([(⟨a1_0, a1_1⟩ : S36)] : List (S36))) l0).bind fun bt260 => (some (bt260.1, bt260.2))
set_option maxHeartbeats 8000000 in
set_option maxRecDepth 100000 in
theorem spoorref19_Not.calls (k : Nat) (A0 : Option Addr) (c0 : Nat) (l0 : List (S36)) (a1_0 : Int) (a1_1 : Int) (r1 : List (S36)) (r2 : Int) (w : World) (hr0 : Kd.C k36 w A0 l0.length l0) (hc0 : l0.length ≤ c0) (h : spoorref19_Not.f k l0 a1_0 a1_1 = some (r1, r2)) :
  Calls Try.prog 24 #[.slice A0 l0.length c0, .agg #[.int .i64 a1_0, .int .i64 a1_1]] w fun e w' => ∃ v0_ : Value, e = .returned (.tuple #[v0_, .int .i64 r2]) ∧ Kd.R k36 36 w' w.heap.size (fun _ => True) v0_ r1 ∧ Below w.heap.size w w' := by
 have hu36 := Try.underlying36
 have HR0 := Ax hr0
 have HC0 := Ax hc0
 clear hr0 hc0
 have HB := Ax (Below.refl w.heap.size w)
 have H : ((spoorref19_set.f k 2 (([(⟨a1_0, a1_1⟩ : S36)] : List (S36))) l0).bind fun bt260 => (some (bt260.1, bt260.2))) = some (r1, r2) := h
 clear h
 obtain ⟨y257, hy257⟩ : ∃ y_ : List (S36), y_ = (([(⟨a1_0, a1_1⟩ : S36)] : List (S36))) := ⟨_, rfl⟩
 replace H : ((spoorref19_set.f k 2 y257 l0).bind fun bt260 => (some (bt260.1, bt260.2))) = some (r1, r2) := by first | (rw [hy257]; with_reducible exact H) | (have H2_ := (Option.bind_some _ _).symm.trans H; rw [hy257]; with_reducible exact H2_) | (have H2_ := (Option.bind_some _ _).symm.trans H; with_reducible exact H2_) | with_reducible exact H | (rw [hy257]; exact H) | exact H
 have Ny257 := Ax hy257
 clear hy257
 replace H := Option.bind_eq_some_iff.mp H
 obtain ⟨⟨t260, t261⟩, A30, H⟩ := H
 replace H : (some (t260, t261)) = some (r1, r2) := H
 have A3 := Ax A30
 clear A30
 simp only [Option.some.injEq, Prod.mk.injEq] at H
 obtain ⟨rfl, rfl⟩ := H
 go_enter Try.func24, Try.ntmps24
 go_wp2_with (first | ((with_reducible refine gate_dst (N := 3) rfl ?_); refine box_event ?hg (N := 3) ?hd (cs := #[.int .i64 a1_0, .int .i64 a1_1]) (t := 36) ?hr ?_; (case hd => rfl); (case hg => rfl); (case hr => first | (go_simp; done) | (go_simp; rfl)); intro gb256 hg w4 hbox hb; have n0_ := Bs0 HB hb; have n1_ := Ax (hbox); have n2_ := Gw0 HB hg; have n3_ := Gw0 HB hg; clear HB; have HB := n0_; have BK256 := n1_; have GW256 := n2_; have GE256 := n3_; clear n0_ n1_ n2_ n3_; clear hb hbox hg; obtain ⟨hcz5_0, hcz5_1, hfz5_0, hfz5_1⟩ := cl2 BK256) | ((with_reducible refine gate_dst (N := 7) rfl ?_); refine Kd.R_lit k36 _ 36 ?hg (N := 7) ?hd (xs := ([(⟨a1_0, a1_1⟩ : S36)] : List (S36))) (inner := [.int .i64 a1_0, .int .i64 a1_1]) (ok := fun _ => True) (okp := fun _ => True) ?hr ?hp (fun _ hk => hk) trivial (Below.refl _ _) (Nat.le_refl _) (by simp) ?_; (case hd => rfl); (case hg => rfl); (case hr => first | (go_simp; done) | (go_simp; rfl)); (case hp => exact (Reps.c2 (show Kd.M k36 _ _ _ (⟨a1_0, a1_1⟩ : S36) [.int .i64 a1_0, .int .i64 a1_1] from (k36_mkM _ _ _ (⟨a1_0, a1_1⟩ : S36) )) (Reps.none _ _))); intro v258 w6 ho7 hb hg_ hnew_; clear hg_ hnew_; (first | rw [← Ny257.out] at ho7 | (simp only [Int.reduceToNat] at ho7; rw [← Ny257.out] at ho7)); have HO259 := Ax (Kd.R_lower (Kd.R_newB ho7 (g := gb256) (o := .cells #[.int .i64 a1_0, .int .i64 a1_1] 36 (0, 0)) (bf0 BK256.out)) (below_size (bw1 HB.out GE256.out))); replace BK256 := Bx0 BK256 hb; replace HB := Bs1 HB hb GE256.out; clear hb ho7; obtain ⟨Ao8, co8, eo8⟩ := Kd.R_slice HO259.out; subst eo8) | ((with_reducible refine gate_callee (f := 39) rfl ?_); refine goesL_ (some 9) rfl rfl Try.func39 (by kernel_rfl) rfl #[.int .i64 2, .slice Ao8 y257.length co8, .slice A0 l0.length c0] rfl gS ?_; (with_reducible refine (spoorref19_set.calls k 2 _ _ y257 _ _ l0 t260 t261 _ ?side1 ?side2 ?side3 ?side4 A3.out).mono ?_); (case side1 => repeat (first | exact (Kd.R_reads' HO259.out).2.2 | (with_reducible refine Kd.C_alloc ?_ _) | (with_reducible refine Kd.C_drewN ?_ _) | (with_reducible refine Kd.C_drew ?_))); (case side2 => exact (Kd.R_reads' HO259.out).2.1); (case side3 => repeat (first | exact (Kd.C_below HR0.out HB.out) | (with_reducible refine Kd.C_alloc ?_ _) | (with_reducible refine Kd.C_drewN ?_ _) | (with_reducible refine Kd.C_drew ?_))); (case side4 => exact HC0.out); rintro e w9 ⟨v262, rfl, ho0, hb⟩; refine ⟨_, rfl, ?_⟩; have n0_ := Ax (Kd.R_elder' (by (with_reducible repeat (first | apply Kd.R_alloc | apply Kd.R_drewN | apply Kd.R_drew)); exact HO259.out) (Kd.R_base ho0) hb); have n1_ := Ax (Kd.R_lower (Kd.R_newB (Kd.R_new' ho0 (Kd.R_lt (by (with_reducible repeat (first | apply Kd.R_alloc | apply Kd.R_drewN | apply Kd.R_drew)); exact HO259.out))) (g := gb256) (o := .cells #[.int .i64 a1_0, .int .i64 a1_1] 36 (0, 0)) (bf0 BK256.out)) (below_size (bw1 HB.out GE256.out))); have n2_ := Bx0 BK256 hb; have n3_ := Bs1 HB hb GE256.out; clear HO259; clear BK256; clear HB; have HO259 := n0_; have HO263 := n1_; have BK256 := n2_; have HB := n3_; clear n0_ n1_ n2_ n3_; (try clear hb); (try clear ho0)))
 go_ret2
 exact ⟨_, eS, by (with_reducible repeat (first | apply Kd.R_alloc | apply Kd.R_drewN | apply Kd.R_drew)); exact Kd.R_mono HO263.out (fun _ hk => trivial), bw1 HB.out GE256.out⟩
def spoorlaw19_IvlSets.f (k : Nat) (l0 : List (S36)) (l1 : List (S36)) (a2_0 : Int) (a2_1 : Int) : Option (Bool) := (spoorlaw19_few.f k l0 l1).bind fun t265 => (if t265 = true then ((ivl_Or.f k l0 l1).bind fun bt267 => ((spoorref19_Or.f k l0 l1).bind fun bt271 => ((ivl_And.f k l0 l1).bind fun bt275 => ((spoorref19_And.f k l0 l1).bind fun bt279 => ((ivl_Not.f k l0 a2_0 a2_1).bind fun bt283 => ((spoorref19_Not.f k l0 a2_0 a2_1).bind fun bt287 => ((spoorlaw19_lives.f k).bind fun t291 => (if t291 = true then ((spoorref19_Same.f k bt267.1 bt271.1).bind fun t292 => (if t292 = true then (if bt267.2 = bt271.2 then ((spoorref19_Same.f k bt275.1 bt279.1).bind fun t293 => (if t293 = true then (if bt275.2 = bt279.2 then ((spoorref19_Same.f k bt283.1 bt287.1).bind fun t294 => (if t294 = true then (some (bt283.2 == bt287.2)) else (none))) else (none)) else (none))) else (none)) else (none))) else (none))))))))) else ((spoorlaw19_lives.f k).bind fun t266 => (some t266)))
end Go.Proofs.Ytkjjidanakmkeaa.Q
end
section
namespace Go.Proofs.Ytkjjidanakmkeaa.Open
set_option linter.unusedVariables false
open Go.RowKit Go.WideShapes Go.Proofs.YtkjjidanakmkeaaW.PrintWords Go.Proofs.YtkjjidanakmkeaaW.PrintLast Go.Proofs.YtkjjidanakmkeaaW.PrintMore
open Go.Proofs.Ytkjjidanakmkeaa.Rows (uptoBulk uptoBulkAll)
def Opens {α : Type} (P : Program) (t : TypeId) (K : Kd α) (wf : α → Prop) (mu : α → Nat) : Prop :=
  ∀ {H : Type} (enc : TypeId × Value → H) (W : World) (spare : Nat → Bool) (held : Bool) (n : Nat) (cs : List Value) (x : DataW H × List MemPlace),
    DataW.trod enc P W 0 spare held n t cs = some x → ∃ a, K.K W a cs ∧ wf a ∧ mu a ≤ uptoBulk x.1
def wfInt (k : IntKind) (n : Int) : Prop := (Lit.int k n).wf = true
def wfAll {α : Type} (wf : α → Prop) (l : List α) : Prop := ∀ a ∈ l, wf a
def mu1 {α : Type} (_ : α) : Nat := 1
def muAll {α : Type} (mu : α → Nat) : List α → Nat
  | [] => 1
  | a :: l => mu a + muAll mu l
theorem wfAll_nil {α : Type} (wf : α → Prop) : wfAll wf [] := fun _ h => by cases h
theorem opens_int {P : Program} {t : TypeId} {k : IntKind} (hu : P.underlying t = some (.int k)) : Opens P t (Kd.int k) (wfInt k) mu1 := by
  intro H enc W spare held n cs x h
  obtain ⟨a, rfl, rfl, hw⟩ := DataW.trod_int hu h
  exact ⟨a, rfl, hw, by simp [mu1, uptoBulk]⟩
theorem opens_list {α H : Type} {P : Program} {e : TypeId} {K : Kd α} {wf : α → Prop} {mu : α → Nat} (he : Opens P e K wf mu) (enc : TypeId × Value → H) (W : World) (spare : Nat → Bool) (held : Bool) (n : Nat) (rd : Nat → Option (List Value)) :
    ∀ (elems : List (DataW H × List MemPlace)) (off : Nat), (∀ i, i < elems.length → (rd (off + i)).bind (DataW.trod enc P W 0 spare held n e) = elems[i]?) →
      ∃ l : List α, l.length = elems.length ∧ (∀ i a, l[i]? = some a → ∃ cs, rd (off + i) = some cs ∧ K.K W a cs) ∧ wfAll wf l ∧ muAll mu l ≤ uptoBulkAll (elems.map (·.1)) + 1
  | [], off, _ => ⟨[], rfl, (fun i a h => by simp at h), wfAll_nil _, by simp [muAll, uptoBulkAll]⟩
  | x :: elems, off, h => by
    have h0 := h 0 (by simp)
    simp only [Nat.add_zero, List.getElem?_cons_zero] at h0
    obtain ⟨cs, hc, ht⟩ := Option.bind_eq_some_iff.1 h0
    obtain ⟨a, hK, hw, hm⟩ := he enc W spare held n cs x ht
    obtain ⟨l, hl, hr, hwf, hmu⟩ := opens_list he enc W spare held n rd elems (off + 1) (fun i hi => by
      have := h (i + 1) (by simp; omega)
      rw [List.getElem?_cons_succ] at this
      rwa [show off + 1 + i = off + (i + 1) by omega])
    refine ⟨a :: l, by simp [hl], ?_, ?_, ?_⟩
    · intro i b hb
      cases i with
      | zero =>
        obtain rfl : a = b := by simpa using hb
        exact ⟨cs, hc, hK⟩
      | succ i =>
        rw [List.getElem?_cons_succ] at hb
        obtain ⟨cs', h1, h2⟩ := hr i b hb
        exact ⟨cs', by rwa [show off + (i + 1) = off + 1 + i by omega], h2⟩
    · intro b hb
      rcases List.mem_cons.1 hb with rfl | hb
      · exact hw
      · exact hwf b hb
    · simp only [muAll, List.map_cons, uptoBulkAll]
      omega
theorem cells_some {W : World} {ad : Addr} {n : Nat} {cs : List Value} (h : W.cells? 0 ad n = some cs) : cs.length = n ∧ ∀ i u, cs[i]? = some u → W.cell? (ad.add i) = some u := by
  obtain ⟨_, hl, hc⟩ := World.cells?_some h
  refine ⟨hl, fun i u hi => ?_⟩
  rw [hc i (by rw [← hl]; exact (List.getElem?_eq_some_iff.1 hi).1)]
  exact hi
theorem opens_slice {α : Type} {P : Program} {t e : TypeId} {K : Kd α} {wf : α → Prop} {mu : α → Nat} (he : Opens P e K wf mu) (hu : P.underlying t = some (.slice e)) (hsz : P.cellsOf e = K.sz) (e' : Nat) :
    Opens P t (Kd.slice e' K) (fun l => wfAll wf l ∧ l.length ≤ maxLen) (muAll mu) := by
  intro H enc W spare held n cs x h
  rcases DataW.trod_slice hu h with ⟨rfl, rfl⟩ | ⟨a, len, cap, elems, rest, m, rfl, rfl, rfl, _, hlc, hcm, hel, hrd, _, _⟩
  · exact ⟨[], ⟨none, 0, rfl, Nat.le_refl _, rfl, Nat.zero_le _, fun h => absurd h (Nat.lt_irrefl _)⟩, ⟨wfAll_nil _, by simp⟩, by simp [muAll, uptoBulk]⟩
  · obtain ⟨l, hl, hr, hw, hm⟩ := opens_list he enc W spare held m (fun i => W.cells? 0 (a.add (i * P.cellsOf e)) (P.cellsOf e)) elems 0 (fun i hi => by
      rw [Nat.zero_add]
      exact hrd i (by omega))
    refine ⟨l, ⟨some a, cap, by rw [hl, hel], by omega, ?_⟩, ⟨hw, by omega⟩, ?_⟩
    · refine ⟨rfl, by simp only [maxLen] at hcm; omega, fun _ => ⟨a, rfl, fun j p hp => ?_⟩⟩
      obtain ⟨cs, hc, hK⟩ := hr j p hp
      rw [Nat.zero_add] at hc
      obtain ⟨h1, h2⟩ := cells_some hc
      refine ⟨cs, by rw [h1, hsz], hK, fun i u hi => ?_⟩
      have := h2 i u hi
      rwa [Addr.add_add, hsz] at this
    · simp only [uptoBulk]
      omega
theorem sized_row {H : Type} {enc : TypeId × Value → H} {P : Program} {W : World} {base : Nat} {spare : Nat → Bool} {held : Bool} {t e : TypeId} {a : Option Addr} {len cap : Nat} {d : DataW H} {ps : List MemPlace} {ts : List TypeId} {ds : List (DataW H)} {j : Nat}
    (hsz : (DataW.weightsEach P ts ds).all (· ≤ reachBytes) = true) (ht : ts[j]? = some t) (hd : ds[j]? = some d) (hu : P.underlying t = some (.slice e)) {B : Nat} (hB : P.bytesOf e = B)
    (h : DataW.Trod enc P W base spare held t (.slice a len cap) d ps) : len * B ≤ 140737488351232 := by
  obtain ⟨fuel, hf⟩ := h
  rcases DataW.trod_slice hu hf with ⟨hcs, _⟩ | ⟨a', len', cap', elems, rest, m, _, hcs, hx, _, hlc, hcm, hel, hrd, _, _⟩
  · simp [Value.cells] at hcs
    obtain ⟨rfl, rfl, rfl⟩ := hcs
    simp
  · simp [Value.cells] at hcs
    obtain ⟨rfl, rfl, rfl⟩ := hcs
    obtain ⟨hx, _⟩ := Prod.mk.inj hx
    subst hx
    have z := sized_slice hsz ht hd hu
    rw [hB] at z
    exact Nat.le_trans (Nat.mul_le_mul_right _ (by simp only [List.length_map]; omega)) z
end Go.Proofs.Ytkjjidanakmkeaa.Open
end
section
namespace Go.Proofs.Ytkjjidanakmkeaa.Q
set_option linter.unusedVariables false
set_option linter.unusedSimpArgs false
open Go.RowKit Go.Proofs.YtkjjidanakmkeaaW.PrintWords Go.Proofs.YtkjjidanakmkeaaW.PrintLast Go.Proofs.YtkjjidanakmkeaaW.PrintMore Go.Proofs.Ytkjjidanakmkeaa.Open
open Go.Proofs.Ytkjjidanakmkeaa.Rows (uptoBulk uptoBulkAll)
def wf36 (x : S36) : Prop := (wfInt .i64) x.f0 ∧ (wfInt .i64) x.f1
def mu36 (x : S36) : Nat := mu1 x.f0 + mu1 x.f1 + 1
set_option maxRecDepth 100000 in
theorem opn36 : Opens Try.prog 36 k36 wf36 mu36 := by
  intro H enc W spare held n cs x h
  obtain ⟨xs, m, rfl, rfl, hl, hs, hf⟩ := DataW.trod_struct Try.underlying36 h
  have hc : cs.length = 2 := hl.trans (by kernel_rfl)
  have hx : xs.length = 2 := hs
  clear hl hs h
  match cs, hc, xs, hx, hf with
  | [c0, c1], _, [y0, y1], _, hf =>
    have e0 : Try.prog.cellsOf 2 = 1 := by kernel_rfl
    have e1 : Try.prog.cellsOf 2 = 1 := by kernel_rfl
    have g0 := hf 0 _ rfl
    simp only [List.getElem_toArray, List.getElem_cons_zero, List.getElem_cons_succ, e0] at g0
    obtain ⟨a0, K0, w0, m0⟩ := (opens_int Try.underlying2) enc W spare held m [c0] y0 g0
    have g1 := hf 1 _ rfl
    simp only [List.getElem_toArray, List.getElem_cons_zero, List.getElem_cons_succ, e1] at g1
    obtain ⟨a1, K1, w1, m1⟩ := (opens_int Try.underlying2) enc W spare held m [c1] y1 g1
    exact ⟨⟨a0, a1⟩, ⟨[c0], [c1], rfl, K0, K1⟩, ⟨w0, w1⟩, by simp only [mu36, List.map_cons, List.map_nil, uptoBulk, uptoBulkAll]; omega⟩
end Go.Proofs.Ytkjjidanakmkeaa.Q
end
section
namespace Go.Proofs.Ytkjjidanakmkeaa.Q
set_option linter.unusedVariables false
open Go.RowKit Go.Proofs.YtkjjidanakmkeaaW.PrintWords Go.Proofs.YtkjjidanakmkeaaW.PrintLast Go.Proofs.YtkjjidanakmkeaaW.PrintMore Go.Proofs.Ytkjjidanakmkeaa.Open
def spoorlaw19_IvlMakes.Pure : Prop := ∀ (l0 : List (S36)) (a1 : Int), (fun l => wfAll wf36 l ∧ l.length ≤ maxLen) l0 → (wfInt .i64) a1 → l0.length * 16 ≤ 140737488351232 → ∃ k, spoorlaw19_IvlMakes.f k l0 a1 = some true
end Go.Proofs.Ytkjjidanakmkeaa.Q
end
section
namespace Go.Proofs.Ytkjjidanakmkeaa.Base
set_option linter.unusedVariables false
open Go.RowKit Go.Proofs.YtkjjidanakmkeaaW.PrintWords Go.Proofs.YtkjjidanakmkeaaW.PrintLast Go.Proofs.YtkjjidanakmkeaaW.PrintMore
theorem Ev.pos {α : Type} {c : Prop} [Decidable c] {f g : Nat → Option α} {r : α} (h : c) (k : Ev f r) : Ev (fun n => if c then f n else g n) r := Ev.congr (fun _ => if_pos h) k
theorem Ev.neg {α : Type} {c : Prop} [Decidable c] {f g : Nat → Option α} {r : α} (h : ¬ c) (k : Ev g r) : Ev (fun n => if c then f n else g n) r := Ev.congr (fun _ => if_neg h) k
theorem Ev.const {α : Type} {o : Option α} {r : α} (h : o = some r) : Ev (fun _ => o) r := ⟨0, fun _ _ => h⟩
theorem Ev.succ {α : Type} {g : Nat → Option α} {r : α} (h : Ev (fun k => g (k + 1)) r) : Ev g r := Ev.step (fun _ => rfl) h
theorem Ev.to {α : Type} {g : Nat → Option α} {r q : α} (h : Ev g r) (e : r = q) : Ev g q := e ▸ h
theorem w64 {n : Int} (h0 : -9223372036854775808 ≤ n) (h1 : n ≤ 9223372036854775807) : wrap64 n = n := by unfold wrap64; omega
def Bytes (l : List Int) : Prop := ∀ x ∈ l, 0 ≤ x ∧ x < 256
theorem Bytes.nil : Bytes [] := fun _ h => by cases h
theorem Bytes.cons {x : Int} {l : List Int} (h0 : 0 ≤ x) (h1 : x < 256) (h : Bytes l) : Bytes (x :: l) := fun y hy => by
  rcases List.mem_cons.1 hy with rfl | hy
  · exact ⟨h0, h1⟩
  · exact h y hy
theorem Bytes.head {x : Int} {l : List Int} (h : Bytes (x :: l)) : 0 ≤ x ∧ x < 256 := h x (by simp)
theorem Bytes.tail {x : Int} {l : List Int} (h : Bytes (x :: l)) : Bytes l := fun y hy => h y (by simp [hy])
theorem Bytes.append {a b : List Int} (ha : Bytes a) (hb : Bytes b) : Bytes (a ++ b) := fun x hx => (List.mem_append.1 hx).elim (ha x) (hb x)
theorem Bytes.left {a b : List Int} (h : Bytes (a ++ b)) : Bytes a := fun x hx => h x (by simp [hx])
theorem Bytes.drop {l : List Int} (h : Bytes l) (n : Nat) : Bytes (l.drop n) := fun x hx => h x (List.mem_of_mem_drop hx)
theorem Bytes.take {l : List Int} (h : Bytes l) (n : Nat) : Bytes (l.take n) := fun x hx => h x (List.mem_of_mem_take hx)
end Go.Proofs.Ytkjjidanakmkeaa.Base
end
section
namespace Go.Proofs.Ytkjjidanakmkeaa.Ivl
set_option linter.unusedVariables false
open Go.RowKit Go.Proofs.Ytkjjidanakmkeaa.Q Go.Proofs.YtkjjidanakmkeaaW.PrintWords Go.Proofs.YtkjjidanakmkeaaW.PrintLast Go.Proofs.YtkjjidanakmkeaaW.PrintMore Go.Proofs.Ytkjjidanakmkeaa.Base
theorem inN_nil (t : Int) : ¬ inN t [] := fun ⟨z, hz, _⟩ => by simp at hz
theorem meetN_nl (n : Nat) (b : List RnM) : meetN n [] b = [] := by cases n <;> cases b <;> rfl
theorem meetN_nr (n : Nat) (a : List RnM) : meetN n a [] = [] := by cases n <;> cases a <;> rfl
def aft (t : Int) (l : List RnM) : Prop := ∀ y ∈ l, t + 1 < y.f0
theorem meetN_ok : ∀ (n : Nat) (a b : List RnM), a.length + b.length ≤ n → Snd a → Snd b →
    Snd (meetN n a b) ∧ (∀ t, inN t (meetN n a b) ↔ inN t a ∧ inN t b) ∧ ∀ z, (aft z a ∨ aft z b) → aft z (meetN n a b)
  | 0, a, b, hn, ha, hb => by
    obtain rfl : a = [] := List.length_eq_zero_iff.1 (by omega)
    rw [meetN_nl]
    exact ⟨⟨fun y hy => by simp at hy, List.Pairwise.nil⟩, fun t => ⟨fun h => (inN_nil t h).elim, fun h => h.1⟩, fun z _ y hy => by simp at hy⟩
  | n + 1, [], b, hn, ha, hb => by
    rw [meetN_nl]
    exact ⟨⟨fun y hy => by simp at hy, List.Pairwise.nil⟩, fun t => ⟨fun h => (inN_nil t h).elim, fun h => h.1⟩, fun z _ y hy => by simp at hy⟩
  | n + 1, a, [], hn, ha, hb => by
    rw [meetN_nr]
    exact ⟨⟨fun y hy => by simp at hy, List.Pairwise.nil⟩, fun t => ⟨fun h => (inN_nil t h).elim, fun h => h.2⟩, fun z _ y hy => by simp at hy⟩
  | n + 1, x :: xs, y :: ys, hn, ha, hb => by
    have hx := ha.1 x (by simp)
    have hy := hb.1 y (by simp)
    have hxl : ∀ u ∈ xs, x.f1 + 1 < u.f0 := (List.pairwise_cons.1 ha.2).1
    have hyl : ∀ u ∈ ys, y.f1 + 1 < u.f0 := (List.pairwise_cons.1 hb.2).1
    have hc0 : (cutR x y).f0 = if x.f0 < y.f0 then y.f0 else x.f0 := rfl
    have hc1 : (cutR x y).f1 = if y.f1 < x.f1 then y.f1 else x.f1 := rfl
    unfold okR at hx hy
    -- what is left, and its meeting
    obtain ⟨R, hR, hRs, hRi, hRa, hle⟩ : ∃ R, (if x.f1 ≤ y.f1 then meetN n xs (y :: ys) else meetN n (x :: xs) ys) = R ∧ Snd R ∧ (∀ t, inN t R ↔ if x.f1 ≤ y.f1 then inN t xs ∧ inN t (y :: ys) else inN t (x :: xs) ∧ inN t ys) ∧ aft (cutR x y).f1 R ∧ (∀ z, (aft z (x :: xs) ∨ aft z (y :: ys)) → aft z R) := by
      by_cases c : x.f1 ≤ y.f1
      · obtain ⟨i1, i2, i3⟩ := meetN_ok n xs (y :: ys) (by simp only [List.length_cons] at *; omega) ha.tail hb
        refine ⟨_, if_pos c, i1, fun t => by rw [if_pos c]; exact i2 t, ?_, fun z h => i3 z (h.imp (fun h u hu => h u (List.mem_cons_of_mem _ hu)) id)⟩
        refine i3 _ (.inl fun u hu => ?_)
        have := hxl u hu
        rw [hc1]; split <;> omega
      · obtain ⟨i1, i2, i3⟩ := meetN_ok n (x :: xs) ys (by simp only [List.length_cons] at *; omega) ha hb.tail
        refine ⟨_, if_neg c, i1, fun t => by rw [if_neg c]; exact i2 t, ?_, fun z h => i3 z (h.imp id (fun h u hu => h u (List.mem_cons_of_mem _ hu)))⟩
        refine i3 _ (.inr fun u hu => ?_)
        have := hyl u hu
        rw [hc1]; split <;> omega
    have e : meetN (n + 1) (x :: xs) (y :: ys) = (if (cutR x y).f0 ≤ (cutR x y).f1 then [cutR x y] else []) ++ R := by rw [← hR]; rfl
    rw [e]
    have hin : ∀ t, ((cutR x y).f0 ≤ t ∧ t ≤ (cutR x y).f1) ↔ (x.f0 ≤ t ∧ t ≤ x.f1) ∧ (y.f0 ≤ t ∧ t ≤ y.f1) := fun t => by
      rw [hc0, hc1]
      split <;> split <;> omega
    have hall : ∀ t, (((cutR x y).f0 ≤ t ∧ t ≤ (cutR x y).f1) ∨ inN t R) ↔ inN t (x :: xs) ∧ inN t (y :: ys) := fun t => by
      rw [hin t, hRi t]
      by_cases c : x.f1 ≤ y.f1
      · rw [if_pos c]
        simp only [inN_cons]
        constructor
        · rintro (⟨h1, h2⟩ | ⟨h1, h2⟩)
          · exact ⟨.inl h1, .inl h2⟩
          · exact ⟨.inr h1, h2⟩
        · rintro ⟨h1 | h1, h2⟩
          · rcases h2 with h2 | h2
            · exact .inl ⟨h1, h2⟩
            · have := hb.low h2; omega
          · exact .inr ⟨h1, h2⟩
      · rw [if_neg c]
        simp only [inN_cons]
        constructor
        · rintro (⟨h1, h2⟩ | ⟨h1, h2⟩)
          · exact ⟨.inl h1, .inl h2⟩
          · exact ⟨h1, .inr h2⟩
        · rintro ⟨h1, h2 | h2⟩
          · rcases h1 with h1 | h1
            · exact .inl ⟨h1, h2⟩
            · have := ha.low h1; omega
          · exact .inr ⟨h1, h2⟩
    by_cases c : (cutR x y).f0 ≤ (cutR x y).f1
    · rw [if_pos c]
      refine ⟨⟨fun u hu => ?_, ?_⟩, fun t => ?_, fun z h u hu => ?_⟩
      · rcases List.mem_append.1 hu with h | h
        · rw [List.mem_singleton.1 h]
          refine ⟨?_, c, ?_⟩
          · rw [hc0]; split <;> omega
          · rw [hc1]; split <;> omega
        · exact hRs.1 u h
      · rw [List.singleton_append, List.pairwise_cons]
        exact ⟨fun u hu => hRa u hu, hRs.2⟩
      · rw [inN_app, inN_one]
        exact hall t
      · rcases List.mem_append.1 hu with hu | hu
        · rw [List.mem_singleton.1 hu, hc0]
          rcases h with h | h
          · have := h x (by simp)
            split <;> omega
          · have := h y (by simp)
            split <;> omega
        · exact hle z h u hu
    · rw [if_neg c, List.nil_append]
      refine ⟨hRs, fun t => ?_, hle⟩
      rw [← hall t]
      exact ⟨.inr, fun h => h.elim (fun h => by omega) id⟩
theorem gapsL_ok : ∀ (l : List RnM) (f : Int), 0 ≤ f → f ≤ 1099511627776 → Snd l → (∀ y ∈ l, f ≤ y.f0) →
    Snd (gapsL f l) ∧ (∀ t, inN t (gapsL f l) ↔ f ≤ t ∧ t ≤ 1099511627776 ∧ ¬ inN t l) ∧ ∀ y ∈ gapsL f l, f ≤ y.f0
  | [], f, h0, h1, hs, hl => by
    refine ⟨⟨fun y hy => ?_, List.pairwise_singleton _ _⟩, fun t => ?_, fun y hy => ?_⟩
    · rw [List.mem_singleton.1 hy]
      exact ⟨h0, h1, Int.le_refl _⟩
    · show inN t [⟨f, 1099511627776⟩] ↔ _
      rw [inN_one]
      exact ⟨fun h => ⟨h.1, h.2, inN_nil t⟩, fun h => ⟨h.1, h.2.1⟩⟩
    · rw [List.mem_singleton.1 hy]
      exact Int.le_refl _
  | x :: xs, f, h0, h1, hs, hl => by
    have hx := hs.1 x (by simp)
    have hxl : ∀ u ∈ xs, x.f1 + 1 < u.f0 := (List.pairwise_cons.1 hs.2).1
    have hfx := hl x (by simp)
    unfold okR at hx
    obtain ⟨R, hR, hRs, hRi, hRl⟩ : ∃ R, (if x.f1 = 1099511627776 then [] else gapsL (x.f1 + 1) xs) = R ∧ Snd R ∧ (∀ t, inN t R ↔ x.f1 < t ∧ t ≤ 1099511627776 ∧ ¬ inN t xs) ∧ ∀ y ∈ R, x.f1 + 1 ≤ y.f0 := by
      by_cases c : x.f1 = 1099511627776
      · exact ⟨[], if_pos c, ⟨fun y hy => by simp at hy, List.Pairwise.nil⟩, fun t => ⟨fun h => (inN_nil t h).elim, fun h => by omega⟩, fun y hy => by simp at hy⟩
      · obtain ⟨i1, i2, i3⟩ := gapsL_ok xs (x.f1 + 1) (by omega) (by omega) hs.tail (fun u hu => by have := hxl u hu; omega)
        exact ⟨_, if_neg c, i1, fun t => by rw [i2 t]; exact ⟨fun h => ⟨by omega, h.2⟩, fun h => ⟨by omega, h.2⟩⟩, i3⟩
    have e : gapsL f (x :: xs) = (if x.f0 = f then [] else [⟨f, x.f0 - 1⟩]) ++ R := by rw [← hR]; rfl
    have hall : ∀ t, ((f ≤ t ∧ t ≤ x.f0 - 1) ∨ inN t R) ↔ f ≤ t ∧ t ≤ 1099511627776 ∧ ¬ inN t (x :: xs) := fun t => by
      rw [hRi t, inN_cons]
      constructor
      · rintro (h | ⟨h1, h2, h3⟩)
        · refine ⟨h.1, by omega, fun hh => ?_⟩
          rcases hh with hh | hh
          · omega
          · have := hs.low hh; omega
        · exact ⟨by omega, h2, fun hh => hh.elim (fun hh => by omega) h3⟩
      · rintro ⟨h1, h2, h3⟩
        by_cases d : t ≤ x.f0 - 1
        · exact .inl ⟨h1, d⟩
        · refine .inr ⟨?_, h2, fun hh => h3 (.inr hh)⟩
          exact Int.not_le.1 (fun hh => h3 (.inl ⟨by omega, hh⟩))
    rw [e]
    by_cases c : x.f0 = f
    · rw [if_pos c, List.nil_append]
      refine ⟨hRs, fun t => ?_, fun y hy => by have := hRl y hy; omega⟩
      rw [← hall t]
      exact ⟨.inr, fun h => h.elim (fun h => by omega) id⟩
    · rw [if_neg c]
      refine ⟨⟨fun u hu => ?_, ?_⟩, fun t => ?_, fun u hu => ?_⟩
      · rcases List.mem_append.1 hu with h | h
        · rw [List.mem_singleton.1 h]
          exact ⟨h0, by show f ≤ x.f0 - 1; omega, by show x.f0 - 1 ≤ _; omega⟩
        · exact hRs.1 u h
      · rw [List.singleton_append, List.pairwise_cons]
        exact ⟨fun u hu => by have := hRl u hu; show x.f0 - 1 + 1 < u.f0; omega, hRs.2⟩
      · rw [inN_app, inN_one]
        exact hall t
      · rcases List.mem_append.1 hu with hu | hu
        · rw [List.mem_singleton.1 hu]
          exact Int.le_refl _
        · have := hRl u hu; omega
theorem meetN_one : ∀ (n : Nat) (a : List RnM) (y : RnM), (meetN n a [y]).length ≤ a.length
  | 0, a, y => by cases a <;> simp [meetN]
  | n + 1, [], y => by simp [meetN]
  | n + 1, x :: xs, y => by
    have e : meetN (n + 1) (x :: xs) [y] = (if (cutR x y).f0 ≤ (cutR x y).f1 then [cutR x y] else []) ++ if x.f1 ≤ y.f1 then meetN n xs [y] else meetN n (x :: xs) [] := rfl
    have ih := meetN_one n xs y
    rw [e, meetN_nr, List.length_append, List.length_cons]
    split <;> split <;> simp <;> omega
end Go.Proofs.Ytkjjidanakmkeaa.Ivl
end
section
namespace Go.Proofs.Ytkjjidanakmkeaa.Ivl
set_option linter.unusedVariables false
open Go.RowKit Go.Proofs.Ytkjjidanakmkeaa.Q Go.Proofs.YtkjjidanakmkeaaW.PrintWords Go.Proofs.YtkjjidanakmkeaaW.PrintLast Go.Proofs.YtkjjidanakmkeaaW.PrintMore Go.Proofs.Ytkjjidanakmkeaa.Base
abbrev Iv := S36
abbrev Rn := S63
theorem dlt {α : Type} {l : List α} {i : Nat} {c : α} {m : List α} (h : l.drop i = c :: m) : i < l.length := by
  have := congrArg List.length h
  simp at this
  omega
theorem dnext {α : Type} {l : List α} {i : Nat} {x : α} {r : List α} (h : l.drop i = x :: r) : l.drop (i + 1) = r := by rw [← List.drop_drop, h]; rfl
theorem rdI {l : List Iv} {i : Nat} {x : Iv} {r : List Iv} (h : l.drop i = x :: r) : rd_T36 l (i : Int) = x := by
  have e : l[i]? = some x := by rw [← List.head?_drop, h]; rfl
  simp [rd_T36, List.getD_eq_getElem?_getD, e]
def runOf (x : Iv) : Rn := ⟨x.f0, x.f1⟩
theorem runs_l (l : List Iv) (hl : l.length ≤ 17592186044416) : ∀ (r : List Iv) (i : Nat) (a : List Rn), l.drop i = r → a.length = i → i ≤ l.length →
    Ev (fun k => ivl_runs.l0 k (a ++ List.replicate (l.length - i) z63) l (l.length : Int) (i : Int)) (a ++ r.map runOf)
  | [], i, a, hd, ha, hi => by
    have h1 : l.length ≤ i := List.drop_eq_nil_iff.1 hd
    refine Ev.succ ?_
    simp only [ivl_runs.l0]
    refine Ev.neg (by omega) (Ev.const ?_)
    rw [show l.length - i = 0 by omega]
    rfl
  | x :: r, i, a, hd, ha, hi => by
    have hlt := dlt hd
    refine Ev.succ ?_
    simp only [ivl_runs.l0, rdI hd]
    refine Ev.pos (by omega) (Ev.pos (by omega) (Ev.pos (by omega) (Ev.pos (by rw [List.length_append, List.length_replicate]; omega) ?_)))
    rw [w64 (by omega) (by omega), show ((i : Int) + 1) = ((i + 1 : Nat) : Int) by omega, Int.toNat_natCast]
    have e : (a ++ List.replicate (l.length - i) z63).set i (⟨x.f0, x.f1⟩ : Rn) = (a ++ [runOf x]) ++ List.replicate (l.length - (i + 1)) z63 := by
      rw [show l.length - i = (l.length - (i + 1)) + 1 by omega, List.replicate_succ, List.set_append_right _ _ (by omega), ha, Nat.sub_self, List.append_assoc]
      rfl
    rw [e]
    refine Ev.to (runs_l l hl r (i + 1) (a ++ [runOf x]) (dnext hd) (by simp [ha]) (by omega)) ?_
    rw [List.append_assoc]
    rfl
theorem runs_ev (l : List Iv) (hl : l.length ≤ 17592186044416) : Ev (fun k => ivl_runs.f k l) (l.map runOf) := by
  simp only [ivl_runs.f, Int.toNat_natCast]
  refine Ev.pos (by omega) (Ev.pos hl ?_)
  exact runs_l l hl l 0 [] rfl rfl (Nat.zero_le _)
theorem ivl_ev (l : List Iv) : Ev (fun k => ivl_Check.f k l) (if l.length ≤ 1024 ∧ soundL none (l.map runOf) = true then 0 else 2) := by
  simp only [ivl_Check.f]
  by_cases h : 1024 < (l.length : Int)
  · rw [if_neg (by omega)]
    exact Ev.pos h (Ev.const rfl)
  · refine Ev.neg h (Ev.bind (runs_ev l (by omega)) (Ev.const ?_))
    by_cases s : soundL none (l.map runOf) = true
    · rw [if_pos s, if_pos ⟨by omega, s⟩]
    · rw [if_neg s, if_neg (fun hh => s hh.2)]
theorem same19_l (l : List Iv) (hl : l.length ≤ 4194304) : ∀ (r : List Iv) (i : Nat), l.drop i = r → Ev (fun k => spoorref19_Same.l0 k l l (l.length : Int) (i : Int)) true
  | [], i, hd => by
    have h1 : l.length ≤ i := List.drop_eq_nil_iff.1 hd
    refine Ev.succ ?_
    simp only [spoorref19_Same.l0]
    exact Ev.neg (by omega) (Ev.const rfl)
  | x :: r, i, hd => by
    have hlt := dlt hd
    refine Ev.succ ?_
    simp only [spoorref19_Same.l0, rdI hd]
    refine Ev.pos (by omega) (Ev.pos (by omega) (Ev.pos (by omega) (Ev.pos (by omega) (Ev.neg (by simp) ?_))))
    rw [w64 (by omega) (by omega), show ((i : Int) + 1) = ((i + 1 : Nat) : Int) by omega]
    exact same19_l l hl r (i + 1) (dnext hd)
theorem same19_ev (l : List Iv) (hl : l.length ≤ 4194304) : Ev (fun k => spoorref19_Same.f k l l) true := by
  simp only [spoorref19_Same.f]
  exact Ev.pos trivial (same19_l l hl l 0 rfl)
def ivOf (x : Rn) : Iv := ⟨x.f0, x.f1⟩
theorem ivs_back (l : List Iv) : (l.map runOf).map ivOf = l := by
  rw [List.map_map]
  conv => rhs; rw [← List.map_id l]
  exact List.map_congr_left (fun x _ => rfl)
theorem runs_back (l : List Rn) : (l.map ivOf).map runOf = l := by
  rw [List.map_map]
  conv => rhs; rw [← List.map_id l]
  exact List.map_congr_left (fun x _ => rfl)
theorem sound_snd : ∀ (l : List Rn) (p : Option Int), (∀ u, p = some u → u ≤ 1099511627776) → (soundL p l = true ↔ Snd l ∧ ∀ u, p = some u → ∀ y ∈ l, u + 1 < y.f0)
  | [], p, _ => by
    have e : soundL p [] = true := by cases p <;> rfl
    exact ⟨fun _ => ⟨⟨fun y hy => by simp at hy, List.Pairwise.nil⟩, fun u _ y hy => by simp at hy⟩, fun _ => e⟩
  | x :: xs, p, hp => by
    have e : soundL p (x :: xs) = if x.f0 < 0 ∨ x.f1 < x.f0 ∨ 1099511627776 < x.f1 then false else
      match p with
      | none => soundL (some x.f1) xs
      | some t => if t = 1099511627776 ∨ x.f0 ≤ t + 1 then false else soundL (some x.f1) xs := by cases p <;> rfl
    rw [e]
    by_cases c : x.f0 < 0 ∨ x.f1 < x.f0 ∨ 1099511627776 < x.f1
    · rw [if_pos c]
      refine ⟨fun h => (by cases h), fun h => ?_⟩
      have := h.1.1 x (List.mem_cons_self ..)
      unfold okR at this
      omega
    rw [if_neg c]
    have ih := sound_snd xs (some x.f1) (fun u hu => by rw [← Option.some.inj hu]; omega)
    have hok : okR x := by unfold okR; omega
    have cons : (soundL (some x.f1) xs = true) ↔ Snd (x :: xs) := by
      rw [ih]
      constructor
      · rintro ⟨⟨h1, h2⟩, h3⟩
        refine ⟨fun y hy => ?_, List.pairwise_cons.2 ⟨fun y hy => h3 _ rfl y hy, h2⟩⟩
        rcases List.mem_cons.1 hy with e | m
        · rw [e]; exact hok
        · exact h1 y m
      · intro h
        exact ⟨h.tail, fun u hu y hy => by rw [← Option.some.inj hu]; exact (List.pairwise_cons.1 h.2).1 y hy⟩
    cases p with
    | none =>
      dsimp only
      rw [cons]
      exact ⟨fun h => ⟨h, fun u hu => (by cases hu)⟩, fun h => h.1⟩
    | some t =>
      have ht := hp t rfl
      dsimp only
      by_cases d : t = 1099511627776 ∨ x.f0 ≤ t + 1
      · rw [if_pos d]
        refine ⟨fun h => (by cases h), fun h => ?_⟩
        have := h.2 t rfl x (List.mem_cons_self ..)
        omega
      · rw [if_neg d, cons]
        refine ⟨fun h => ⟨h, fun u hu y hy => ?_⟩, fun h => h.1⟩
        obtain rfl := Option.some.inj hu
        rcases List.mem_cons.1 hy with e | m
        · rw [e]; omega
        · have := (List.pairwise_cons.1 h.2).1 y m; omega
theorem sound_none (l : List Rn) : soundL none l = true ↔ Snd l := by
  rw [sound_snd l none (fun u hu => by cases hu)]
  exact ⟨fun h => h.1, fun h => ⟨h, fun u hu => by cases hu⟩⟩
def SndI (l : List Iv) : Prop := Snd (l.map runOf)
theorem check_ok {l : List Iv} (hl : l.length ≤ 1024) (hs : SndI l) : Ev (fun k => ivl_Check.f k l) 0 := Ev.to (ivl_ev l) (if_pos ⟨hl, (sound_none _).2 hs⟩)
theorem rows_ev {a b : List Iv} (ha : a.length ≤ 1024) (hb : b.length ≤ 1024) (sa : SndI a) (sb : SndI b) : Ev (fun k => ivl_rows.f k [a, b]) 0 := by
  have e1 : wrap64 ((0 : Int) + 1) = 1 := w64 (by omega) (by omega)
  have e2 : wrap64 ((1 : Int) + 1) = 2 := w64 (by omega) (by omega)
  simp only [ivl_rows.f, List.length_cons, List.length_nil]
  refine Ev.succ ?_
  simp only [ivl_rows.l0, List.length_cons, List.length_nil, e1]
  refine Ev.pos (by omega) (Ev.pos (by omega) (Ev.pos (by omega) (Ev.bind (check_ok (l := a) ha sa) (Ev.pos rfl ?_))))
  refine Ev.succ ?_
  simp only [ivl_rows.l0, List.length_cons, List.length_nil, e2]
  refine Ev.pos (by omega) (Ev.pos (by omega) (Ev.pos (by omega) (Ev.bind (check_ok (l := b) hb sb) (Ev.pos rfl ?_))))
  refine Ev.succ ?_
  simp only [ivl_rows.l0, List.length_cons, List.length_nil]
  exact Ev.neg (by omega) (Ev.const rfl)
theorem rdR {l : List Rn} {i : Nat} {x : Rn} {r : List Rn} (h : l.drop i = x :: r) : rd_T63 l (i : Int) = x := by
  have := dlt h
  rw [List.drop_eq_getElem_cons this] at h
  simp only [rd_T63, Int.toNat_natCast, List.getD_eq_getElem?_getD, List.getElem?_eq_getElem this, Option.getD_some]
  exact (List.cons.inj h).1
theorem told_l (l : List Rn) (hl : l.length ≤ 1024) : ∀ (r : List Rn) (i : Nat) (a : List Iv), l.drop i = r → a.length = i → Ev (fun k => ivl_told.l0 k a l (l.length : Int) (i : Int)) (a ++ r.map ivOf, 0)
  | [], i, a, hd, ha => by
    have h1 : l.length ≤ i := List.drop_eq_nil_iff.1 hd
    refine Ev.succ ?_
    simp only [ivl_told.l0]
    exact Ev.neg (by omega) (Ev.const (by simp))
  | x :: r, i, a, hd, ha => by
    have hlt := dlt hd
    refine Ev.succ ?_
    simp only [ivl_told.l0, rdR hd]
    refine Ev.pos (by omega) (Ev.pos (by omega) (Ev.pos (by omega) (Ev.pos (by omega) ?_)))
    rw [w64 (by omega) (by omega), show ((i : Int) + 1) = ((i + 1 : Nat) : Int) by omega]
    have ih := told_l l hl r (i + 1) (a ++ [ivOf x]) (dnext hd) (by simp [ha])
    rw [List.append_assoc] at ih
    exact ih
theorem told_ev (l : List Rn) (hl : l.length ≤ 1024) : Ev (fun k => ivl_told.f k l) (l.map ivOf, 0) := by
  simp only [ivl_told.f]
  exact Ev.neg (by omega) (told_l l hl l 0 [] rfl rfl)
theorem or_ev {a b : List Iv} (hab : a.length + b.length ≤ 1024) (sa : SndI a) (sb : SndI b) : Ev (fun k => ivl_Or.f k a b) ((joinR ((a ++ b).map runOf)).map ivOf, 0) := by
  have hok : ∀ x ∈ (a ++ b).map runOf, okR x := fun x hx => by
    rw [List.map_append] at hx
    rcases List.mem_append.1 hx with h | h
    · exact sa.1 x h
    · exact sb.1 x h
  have hlen := joinR_len ((a ++ b).map runOf)
  rw [List.length_map, List.length_append] at hlen
  simp only [ivl_Or.f]
  refine Ev.bind (rows_ev (by omega) (by omega) sa sb) (Ev.neg (by decide) (Ev.bind (runs_ev (a ++ b) (by rw [List.length_append]; omega)) (Ev.pos ⟨by omega, by rw [List.length_map, List.length_append]; omega, ?_⟩ (told_ev _ (by omega)))))
  exact List.all_eq_true.2 (fun x hx => decide_eq_true (hok x hx))
theorem or_ok {a b : List Iv} (sa : SndI a) (sb : SndI b) : SndI ((joinR ((a ++ b).map runOf)).map ivOf) ∧ (∀ t, inN t (((joinR ((a ++ b).map runOf)).map ivOf).map runOf) ↔ inN t (a.map runOf) ∨ inN t (b.map runOf)) ∧ ((joinR ((a ++ b).map runOf)).map ivOf).length ≤ a.length + b.length := by
  have hok : ∀ x ∈ (a ++ b).map runOf, okR x := fun x hx => by
    rw [List.map_append] at hx
    rcases List.mem_append.1 hx with h | h
    · exact sa.1 x h
    · exact sb.1 x h
  obtain ⟨h1, h2⟩ := joinR_ok hok
  have hlen := joinR_len ((a ++ b).map runOf)
  rw [List.length_map, List.length_append] at hlen
  unfold SndI
  rw [runs_back]
  refine ⟨h1, fun t => ?_, by rw [List.length_map]; exact hlen⟩
  rw [h2, List.map_append, inN_app]
def lenI (x : Iv) : Int := x.f1 - x.f0 + 1
def sumI (l : List Iv) : Int := (l.map lenI).sum
theorem long_l (l : List Iv) (hl : l.length ≤ 1024) (M : Int) (hM : M = 1099511627777) (hb : ∀ x ∈ l, 0 ≤ x.f0 ∧ x.f0 ≤ x.f1 ∧ x.f1 ≤ 1099511627776) (r : List Iv) : ∀ (i : Nat) (s : Int), l.drop i = r → 0 ≤ s → s ≤ (i : Int) * M → Ev (fun k => ivl_Long.l0 k s l (l.length : Int) (i : Int)) (s + sumI r, 0) := by
  induction r with
  | nil =>
    intro i s hd h0 h1
    have h1 : l.length ≤ i := List.drop_eq_nil_iff.1 hd
    refine Ev.succ ?_
    simp only [ivl_Long.l0]
    exact Ev.neg (by omega) (Ev.const (by simp [sumI]))
  | cons x r ih =>
    intro i s hd h0 h1
    have hlt := dlt hd
    have hx : x ∈ l := by
      have : x ∈ l.drop i := by rw [hd]; exact List.mem_cons_self ..
      exact List.mem_of_mem_drop this
    obtain ⟨b1, b2, b3⟩ := hb x hx
    refine Ev.succ ?_
    simp only [ivl_Long.l0, rdI hd]
    refine Ev.pos (by omega) (Ev.pos (by omega) (Ev.pos (by omega) ?_))
    have hi : (i : Int) ≤ 1024 := by omega
    have hs2 : s ≤ 1125899906843648 := by subst hM; omega
    rw [w64 (n := x.f1 - x.f0) (by omega) (by omega), w64 (n := x.f1 - x.f0 + 1) (by omega) (by omega), w64 (n := s + (x.f1 - x.f0 + 1)) (by omega) (by omega), w64 (n := (i : Int) + 1) (by omega) (by omega), show ((i : Int) + 1) = ((i + 1 : Nat) : Int) by omega]
    refine Ev.to (ih (i + 1) (s + (x.f1 - x.f0 + 1)) (dnext hd) (by omega) (by subst hM; omega)) ?_
    simp only [sumI, List.map_cons, List.sum_cons, lenI]
    rw [Int.add_assoc]
theorem long_ev {l : List Iv} (hl : l.length ≤ 1024) (hs : SndI l) : Ev (fun k => ivl_Long.f k l) (sumI l, 0) := by
  simp only [ivl_Long.f]
  refine Ev.bind (check_ok hl hs) (Ev.pos rfl ?_)
  refine Ev.to (long_l l hl _ rfl (fun x hx => hs.1 (runOf x) (List.mem_map_of_mem hx)) l 0 0 rfl (Int.le_refl _) (by omega)) ?_
  rw [Int.zero_add]
theorem sndI_nil : SndI [] := ⟨fun y hy => by simp at hy, List.Pairwise.nil⟩
def okI (l : List Iv) : Prop := l.length ≤ 1024 ∧ SndI l
instance (l : List Iv) : Decidable (okI l) := decidable_of_iff (l.length ≤ 1024 ∧ soundL none (l.map runOf) = true) (and_congr Iff.rfl (sound_none _))
theorem chk_ev (l : List Iv) : Ev (fun k => ivl_Check.f k l) (if okI l then 0 else 2) := Ev.to (ivl_ev l) (by
  by_cases h : okI l
  · rw [if_pos h, if_pos ⟨h.1, (sound_none _).2 h.2⟩]
  · rw [if_neg h, if_neg (fun hh => h ⟨hh.1, (sound_none _).1 hh.2⟩)])
theorem rows2_ev (a b : List Iv) : Ev (fun k => ivl_rows.f k [a, b]) (if okI a ∧ okI b then 0 else 2) := by
  have e1 : wrap64 ((0 : Int) + 1) = 1 := w64 (by omega) (by omega)
  have e2 : wrap64 ((1 : Int) + 1) = 2 := w64 (by omega) (by omega)
  by_cases ha : okI a
  · by_cases hb : okI b
    · rw [if_pos ⟨ha, hb⟩]
      exact rows_ev ha.1 hb.1 ha.2 hb.2
    · rw [if_neg (fun h => hb h.2)]
      simp only [ivl_rows.f, List.length_cons, List.length_nil]
      refine Ev.succ ?_
      simp only [ivl_rows.l0, List.length_cons, List.length_nil, e1]
      refine Ev.pos (by omega) (Ev.pos (by omega) (Ev.pos (by omega) (Ev.bind (Ev.to (chk_ev a) (if_pos ha)) (Ev.pos rfl ?_))))
      refine Ev.succ ?_
      simp only [ivl_rows.l0, List.length_cons, List.length_nil, e2]
      exact Ev.pos (by omega) (Ev.pos (by omega) (Ev.pos (by omega) (Ev.bind (Ev.to (chk_ev b) (if_neg hb)) (Ev.neg (by decide) (Ev.const rfl)))))
  · rw [if_neg (fun h => ha h.1)]
    simp only [ivl_rows.f, List.length_cons, List.length_nil]
    refine Ev.succ ?_
    simp only [ivl_rows.l0, List.length_cons, List.length_nil, e1]
    exact Ev.pos (by omega) (Ev.pos (by omega) (Ev.pos (by omega) (Ev.bind (Ev.to (chk_ev a) (if_neg ha)) (Ev.neg (by decide) (Ev.const rfl)))))
def finR (l : List Rn) : List Iv × Int := if 1024 < l.length then ([], 11) else (l.map ivOf, 0)
theorem toldR_ev (l : List Rn) : Ev (fun k => ivl_told.f k l) (finR l) := by
  unfold finR
  by_cases h : 1024 < l.length
  · rw [if_pos h]
    simp only [ivl_told.f]
    exact Ev.pos (by omega) (Ev.const rfl)
  · rw [if_neg h]
    exact told_ev l (by omega)
def andV (a b : List Iv) : List Iv × Int := if okI a ∧ okI b then finR (meetN (a.length + b.length) (a.map runOf) (b.map runOf)) else ([], 2)
theorem and_ev (a b : List Iv) : Ev (fun k => ivl_And.f k a b) (andV a b) := by
  simp only [ivl_And.f]
  refine Ev.bind (rows2_ev a b) ?_
  unfold andV
  by_cases h : okI a ∧ okI b
  · rw [if_pos h, if_pos h]
    have h1 := h.1.1
    have h2 := h.2.1
    refine Ev.neg (by decide) (Ev.bind (runs_ev a (by omega)) (Ev.bind (runs_ev b (by omega)) (Ev.pos (by simp only [List.length_map]; omega) ?_)))
    simp only [List.length_map]
    exact toldR_ev _
  · rw [if_neg h, if_neg h]
    exact Ev.pos (by decide) (Ev.const rfl)
def notV (a : List Iv) (x : Iv) : List Iv × Int := if okI a ∧ okI [x] then finR (meetN ((gapsL 0 (a.map runOf)).length + 1) (gapsL 0 (a.map runOf)) [runOf x]) else ([], 2)
theorem not_ev (a : List Iv) (x0 x1 : Int) : Ev (fun k => ivl_Not.f k a x0 x1) (notV a ⟨x0, x1⟩) := by
  simp only [ivl_Not.f]
  refine Ev.bind (rows2_ev a [⟨x0, x1⟩]) ?_
  unfold notV
  by_cases h : okI a ∧ okI [⟨x0, x1⟩]
  · rw [if_pos h, if_pos h]
    have h1 := h.1.1
    refine Ev.neg (by decide) (Ev.bind (runs_ev a (by omega)) (Ev.bind (runs_ev [⟨x0, x1⟩] (by simp)) (Ev.pos ⟨by simp only [List.length_map, List.length_cons, List.length_nil]; omega, List.all_eq_true.2 (fun y hy => decide_eq_true (h.1.2.1 y hy))⟩ ?_)))
    exact toldR_ev _
  · rw [if_neg h, if_neg h]
    exact Ev.pos (by decide) (Ev.const rfl)
theorem badI_iff (x : Iv) : badI x = true ↔ ¬ okR (runOf x) := by
  unfold badI okR runOf
  rw [decide_eq_true_eq]
  show (x.f0 < 0 ∨ x.f1 < x.f0 ∨ 1099511627776 < x.f1) ↔ ¬ (0 ≤ x.f0 ∧ x.f0 ≤ x.f1 ∧ x.f1 ≤ 1099511627776)
  omega
theorem bad_iff : ∀ (l : List Iv) (i : Nat), 0 ≤ badFrom i l ↔ ∃ x ∈ l, badI x = true
  | [], i => by simp [badFrom]
  | x :: xs, i => by
    by_cases c : badI x = true
    · simp only [badFrom, if_pos c]
      exact ⟨fun _ => ⟨x, by simp, c⟩, fun _ => by omega⟩
    · simp only [badFrom, if_neg c]
      rw [bad_iff xs (i + 1)]
      simp [c]
def makeI (l : List Iv) : List Iv × Int := if 1024 < l.length then ([], 11) else if 0 ≤ badFrom 0 l then ([], 2) else finR (joinR (l.map runOf))
theorem makeI_ev (l : List Iv) : Ev (fun k => ivl_Make.f k l) (makeI l) := by
  simp only [ivl_Make.f]
  unfold makeI
  by_cases h : 1024 < l.length
  · rw [if_pos h]
    exact Ev.pos (by omega) (Ev.const rfl)
  · rw [if_neg h]
    refine Ev.neg (by omega) ?_
    by_cases b : 0 ≤ badFrom 0 l
    · rw [if_pos b]
      exact Ev.pos b (Ev.const rfl)
    · rw [if_neg b]
      refine Ev.neg b (Ev.bind (runs_ev l (by omega)) (Ev.pos ⟨by rw [List.length_map]; omega, List.all_eq_true.2 (fun y hy => decide_eq_true ?_)⟩ (toldR_ev _)))
      obtain ⟨x, hx, rfl⟩ := List.mem_map.1 hy
      have hn : ¬ badI x = true := fun hb => b ((bad_iff l 0).2 ⟨x, hx, hb⟩)
      rw [badI_iff] at hn
      exact Decidable.not_not.1 hn
theorem makeI_same {l : List Iv} (h : okI l) : makeI l = (l, 0) := by
  have hb : ¬ 0 ≤ badFrom 0 l := fun hb => by
    obtain ⟨x, hx, hbx⟩ := (bad_iff l 0).1 hb
    exact (badI_iff x).1 hbx (h.2.1 _ (List.mem_map_of_mem hx))
  obtain ⟨j1, j2⟩ := joinR_ok (l := l.map runOf) h.2.1
  have e : joinR (l.map runOf) = l.map runOf := Snd.one _ _ j1 h.2 j2
  unfold makeI finR
  rw [if_neg (by have := h.1; omega), if_neg hb, e, if_neg (by rw [List.length_map]; have := h.1; omega), ivs_back]
theorem finR_ok {l : List Rn} (h : (finR l).2 = 0) : l.length ≤ 1024 ∧ finR l = (l.map ivOf, 0) := by
  unfold finR at *
  by_cases c : 1024 < l.length
  · rw [if_pos c] at h
    exact absurd h (by decide)
  · rw [if_neg c]
    exact ⟨by omega, rfl⟩
theorem twice_ok {l : List Iv} {x : Iv} (h : (notV l x).2 = 0) : okI l ∧ notV (notV l x).1 x = andV l [x] ∧ (andV l [x]).2 = 0 ∧ (andV l [x]).1.length ≤ 1024 := by
  by_cases hc : okI l ∧ okI [x]
  case neg =>
    unfold notV at h
    rw [if_neg hc] at h
    exact absurd h (by decide)
  obtain ⟨h1, h2⟩ := hc
  have hsl : Snd (l.map runOf) := h1.2
  have hsx : Snd [runOf x] := h2.2
  obtain ⟨g1, g2, g3⟩ := gapsL_ok (l.map runOf) 0 (Int.le_refl _) (by decide) hsl (fun y hy => (hsl.1 y hy).1)
  have e0 : notV l x = finR (meetN ((gapsL 0 (l.map runOf)).length + 1) (gapsL 0 (l.map runOf)) [runOf x]) := if_pos ⟨h1, h2⟩
  rw [e0] at h ⊢
  obtain ⟨m1, m2, m3⟩ := meetN_ok ((gapsL 0 (l.map runOf)).length + 1) (gapsL 0 (l.map runOf)) [runOf x] (by simp) g1 hsx
  obtain ⟨f1, f2⟩ := finR_ok h
  rw [f2]
  generalize meetN ((gapsL 0 (l.map runOf)).length + 1) (gapsL 0 (l.map runOf)) [runOf x] = N at m1 m2 f1
  have hN : okI (N.map ivOf) := ⟨by rw [List.length_map]; exact f1, by unfold SndI; rw [runs_back]; exact m1⟩
  have e1 : notV (N.map ivOf) x = finR (meetN ((gapsL 0 N).length + 1) (gapsL 0 N) [runOf x]) := by
    unfold notV
    rw [if_pos ⟨hN, h2⟩, runs_back]
  have e2 : andV l [x] = finR (meetN (l.length + 1) (l.map runOf) [runOf x]) := if_pos ⟨h1, h2⟩
  obtain ⟨q1, q2, q3⟩ := gapsL_ok N 0 (Int.le_refl _) (by decide) m1 (fun y hy => (m1.1 y hy).1)
  obtain ⟨p1, p2, p3⟩ := meetN_ok ((gapsL 0 N).length + 1) (gapsL 0 N) [runOf x] (by simp) q1 hsx
  obtain ⟨r1, r2, r3⟩ := meetN_ok (l.length + 1) (l.map runOf) [runOf x] (by simp) hsl hsx
  have e3 : meetN ((gapsL 0 N).length + 1) (gapsL 0 N) [runOf x] = meetN (l.length + 1) (l.map runOf) [runOf x] := Snd.one _ _ p1 r1 (fun t => by
    rw [p2 t, r2 t, q2 t, m2 t, g2 t]
    have hw : inN t [runOf x] → 0 ≤ t ∧ t ≤ 1099511627776 := fun h => by
      have h3 := (inN_one t (runOf x)).1 h
      have h4 := hsx.1 (runOf x) (by simp)
      unfold okR at h4
      omega
    constructor
    · rintro ⟨⟨a1, a2, a3⟩, a4⟩
      refine ⟨Classical.byContradiction fun hn => a3 ⟨⟨a1, a2, hn⟩, a4⟩, a4⟩
    · rintro ⟨a1, a2⟩
      exact ⟨⟨(hw a2).1, (hw a2).2, fun hh => hh.1.2.2 a1⟩, a2⟩)
  have hlen := meetN_one (l.length + 1) (l.map runOf) (runOf x)
  rw [List.length_map] at hlen
  have h1l := h1.1
  have e4 : finR (meetN (l.length + 1) (l.map runOf) [runOf x]) = ((meetN (l.length + 1) (l.map runOf) [runOf x]).map ivOf, 0) := if_neg (by omega)
  refine ⟨h1, by rw [e1, e2, e3], by rw [e2, e4], by rw [e2, e4, List.length_map]; omega⟩
theorem has_iff (t : Int) : ∀ (l : List Iv) (i : Nat), 0 ≤ hasFrom t i l ↔ ∃ x ∈ l, inI t x = true
  | [], i => by simp [hasFrom]
  | x :: xs, i => by
    by_cases c : inI t x = true
    · simp only [hasFrom, if_pos c]
      exact ⟨fun _ => ⟨x, by simp, c⟩, fun _ => by omega⟩
    · simp only [hasFrom, if_neg c]
      rw [has_iff t xs (i + 1)]
      simp [c]
theorem inI_iff (t : Int) (x : Iv) : inI t x = true ↔ x.f0 ≤ t ∧ t ≤ x.f1 := by
  unfold inI
  by_cases c : x.f0 ≤ t
  · rw [if_pos c]
    simp [c]
  · rw [if_neg c]
    simp [c]
theorem has_inN (t : Int) (l : List Iv) : 0 ≤ hasFrom t 0 l ↔ inN t (l.map runOf) := by
  rw [has_iff]
  constructor
  · rintro ⟨x, hx, h⟩
    exact ⟨runOf x, List.mem_map_of_mem hx, (inI_iff t x).1 h⟩
  · rintro ⟨y, hy, h⟩
    obtain ⟨x, hx, rfl⟩ := List.mem_map.1 hy
    exact ⟨x, hx, (inI_iff t x).2 h⟩
def hasW (l : List Iv) (t : Int) : Bool × Int := if okI l then (decide (0 ≤ hasFrom t 0 l), 0) else (false, 2)
theorem hasW_ev (l : List Iv) (t : Int) : Ev (fun k => ivl_Has.f k l t) (hasW l t) := by
  simp only [ivl_Has.f]
  refine Ev.bind (chk_ev l) ?_
  unfold hasW
  by_cases h : okI l
  · rw [if_pos h, if_pos h]
    exact Ev.neg (by decide) (Ev.const rfl)
  · rw [if_neg h, if_neg h]
    exact Ev.pos (by decide) (Ev.const rfl)
end Go.Proofs.Ytkjjidanakmkeaa.Ivl
end
section
namespace Go.Proofs.Ytkjjidanakmkeaa.Ivl
set_option linter.unusedVariables false
open Go.RowKit Go.Proofs.Ytkjjidanakmkeaa.Q Go.Proofs.YtkjjidanakmkeaaW.PrintWords Go.Proofs.YtkjjidanakmkeaaW.PrintLast Go.Proofs.YtkjjidanakmkeaaW.PrintMore Go.Proofs.Ytkjjidanakmkeaa.Base
theorem okI_map {N : List Rn} (h : N.length ≤ 1024) (s : Snd N) : okI (N.map ivOf) := ⟨by rw [List.length_map]; exact h, by unfold SndI; rw [runs_back]; exact s⟩
theorem and_ok {a b : List Iv} (ha : okI a) (hb : okI b) (hn : a.length + b.length ≤ 1024) :
    ∃ N, andV a b = (N, 0) ∧ okI N ∧ ∀ t, inN t (N.map runOf) ↔ inN t (a.map runOf) ∧ inN t (b.map runOf) := by
  obtain ⟨m1, m2, _⟩ := meetN_ok (a.length + b.length) (a.map runOf) (b.map runOf) (by simp) ha.2 hb.2
  have hl := meetN_len (a.length + b.length) (a.map runOf) (b.map runOf)
  refine ⟨_, ?_, okI_map (N := meetN (a.length + b.length) (a.map runOf) (b.map runOf)) (by omega) m1, fun t => by rw [runs_back]; exact m2 t⟩
  unfold andV finR
  rw [if_pos ⟨ha, hb⟩, if_neg (by omega)]
theorem not_ok {a : List Iv} {x : Iv} (ha : okI a) (hx : okI [x]) (hn : a.length < 1024) :
    ∃ N, notV a x = (N, 0) ∧ okI N ∧ ∀ t, inN t (N.map runOf) ↔ (x.f0 ≤ t ∧ t ≤ x.f1) ∧ ¬ inN t (a.map runOf) := by
  have hsl : Snd (a.map runOf) := ha.2
  have hsx : Snd [runOf x] := hx.2
  obtain ⟨g1, g2, g3⟩ := gapsL_ok (a.map runOf) 0 (Int.le_refl _) (by decide) hsl (fun y hy => (hsl.1 y hy).1)
  have gl := gapsL_len (a.map runOf) 0
  rw [List.length_map] at gl
  obtain ⟨m1, m2, _⟩ := meetN_ok ((gapsL 0 (a.map runOf)).length + 1) (gapsL 0 (a.map runOf)) [runOf x] (by simp) g1 hsx
  have hl := meetN_one ((gapsL 0 (a.map runOf)).length + 1) (gapsL 0 (a.map runOf)) (runOf x)
  refine ⟨_, ?_, okI_map (N := meetN ((gapsL 0 (a.map runOf)).length + 1) (gapsL 0 (a.map runOf)) [runOf x]) (by omega) m1, fun t => ?_⟩
  · unfold notV finR
    rw [if_pos ⟨ha, hx⟩, if_neg (by omega)]
  · rw [runs_back, m2 t, g2 t, inN_one]
    have h4 := hsx.1 (runOf x) (by simp)
    unfold okR at h4
    have e0 : (runOf x).f0 = x.f0 := rfl
    have e1 : (runOf x).f1 = x.f1 := rfl
    rw [e0, e1] at h4
    show (0 ≤ t ∧ t ≤ 1099511627776 ∧ ¬ inN t (a.map runOf)) ∧ x.f0 ≤ t ∧ t ≤ x.f1 ↔ _
    constructor
    · rintro ⟨⟨_, _, h3⟩, h⟩
      exact ⟨h, h3⟩
    · rintro ⟨h, h3⟩
      exact ⟨⟨by omega, by omega, h3⟩, h⟩
theorem or_ok2 {a b : List Iv} (ha : okI a) (hb : okI b) (hn : a.length + b.length ≤ 1024) :
    ∃ N, Ev (fun k => ivl_Or.f k a b) (N, 0) ∧ okI N ∧ ∀ t, inN t (N.map runOf) ↔ inN t (a.map runOf) ∨ inN t (b.map runOf) := by
  obtain ⟨h1, h2, h3⟩ := or_ok ha.2 hb.2
  exact ⟨_, or_ev hn ha.2 hb.2, ⟨by omega, h1⟩, h2⟩
theorem hasW_ok {l : List Iv} (h : okI l) (t : Int) : Ev (fun k => ivl_Has.f k l t) (decide (0 ≤ hasFrom t 0 l), 0) := Ev.to (hasW_ev l t) (if_pos h)
def longV (l : List Iv) : Int × Int := if okI l then (sumI l, 0) else (0, 2)
theorem longV_ev (l : List Iv) : Ev (fun k => ivl_Long.f k l) (longV l) := by
  unfold longV
  by_cases h : okI l
  · rw [if_pos h]
    exact long_ev h.1 h.2
  · rw [if_neg h]
    simp only [ivl_Long.f]
    exact Ev.bind (Ev.to (chk_ev l) (if_neg h)) (Ev.neg (by decide) (Ev.const rfl))
theorem okI_one (x : Iv) : okI [x] ↔ 0 ≤ x.f0 ∧ x.f0 ≤ x.f1 ∧ x.f1 ≤ 1099511627776 := by
  constructor
  · intro h
    exact h.2.1 (runOf x) (by simp)
  · intro h
    exact ⟨by simp, fun y hy => by
      have e : y = runOf x := by simpa using hy
      rw [e]
      exact h, List.pairwise_singleton _ _⟩
open Classical in
noncomputable def cnt (p : Int → Prop) : Nat → Int
  | 0 => 0
  | n + 1 => cnt p n + if p (n : Int) then 1 else 0
theorem cnt_congr {p q : Int → Prop} (h : ∀ t, p t ↔ q t) : ∀ n, cnt p n = cnt q n
  | 0 => rfl
  | n + 1 => by
    have e : p = q := funext fun t => propext (h t)
    rw [e]
theorem cnt_sum (p q : Int → Prop) : ∀ n, cnt (fun t => p t ∨ q t) n + cnt (fun t => p t ∧ q t) n = cnt p n + cnt q n
  | 0 => rfl
  | n + 1 => by
    have ih := cnt_sum p q n
    simp only [cnt]
    by_cases h1 : p (n : Int) <;> by_cases h2 : q (n : Int) <;> simp [h1, h2] <;> omega
theorem cnt_none {p : Int → Prop} (h : ∀ t, ¬ p t) : ∀ n, cnt p n = 0
  | 0 => rfl
  | n + 1 => by
    simp only [cnt, cnt_none h n, if_neg (h _)]
    rfl
theorem cnt_bnd (p : Int → Prop) : ∀ n : Nat, 0 ≤ cnt p n ∧ cnt p n ≤ n
  | 0 => ⟨Int.le_refl _, Int.le_refl _⟩
  | n + 1 => by
    have ih := cnt_bnd p n
    simp only [cnt]
    split <;> omega
theorem cnt_ivl (a b : Int) (h0 : 0 ≤ a) (h1 : a ≤ b) : ∀ n : Nat, cnt (fun t => a ≤ t ∧ t ≤ b) n = if (n : Int) ≤ a then 0 else if (n : Int) ≤ b then n - a else b - a + 1
  | 0 => by rw [if_pos (by omega)]; rfl
  | n + 1 => by
    have ih := cnt_ivl a b h0 h1 n
    simp only [cnt, ih]
    repeat' split
    all_goals omega
theorem cnt_row (n : Nat) (hn : 1099511627777 ≤ n) : ∀ l : List Iv, SndI l → cnt (fun t => inN t (l.map runOf)) n = sumI l
  | [], _ => cnt_none (fun t => inN_nil t) n
  | x :: xs, h => by
    have hx := h.1 (runOf x) (by simp)
    unfold okR at hx
    have e0 : (runOf x).f0 = x.f0 := rfl
    have e1 : (runOf x).f1 = x.f1 := rfl
    rw [e0, e1] at hx
    have hs : Snd (runOf x :: xs.map runOf) := h
    have ih := cnt_row n hn xs hs.tail
    have a1 := cnt_sum (fun t => x.f0 ≤ t ∧ t ≤ x.f1) (fun t => inN t (xs.map runOf)) n
    have a0 : cnt (fun t => (x.f0 ≤ t ∧ t ≤ x.f1) ∧ inN t (xs.map runOf)) n = 0 := cnt_none (fun t ht => by have := hs.low ht.2; rw [e1] at this; have := ht.1.2; omega) n
    rw [a0, ih, cnt_ivl _ _ hx.1 hx.2.1 n, if_neg (by omega), if_neg (by omega)] at a1
    have e : cnt (fun t => inN t ((x :: xs).map runOf)) n = cnt (fun t => (x.f0 ≤ t ∧ t ≤ x.f1) ∨ inN t (xs.map runOf)) n := cnt_congr (fun t => inN_cons t (runOf x) (xs.map runOf)) n
    rw [e]
    simp only [sumI, List.map_cons, List.sum_cons, lenI] at *
    omega
theorem sum_two {a b o d : List Iv} (ha : okI a) (hb : okI b) (ho : okI o) (hd : okI d) (h1 : ∀ t, inN t (o.map runOf) ↔ inN t (a.map runOf) ∨ inN t (b.map runOf)) (h2 : ∀ t, inN t (d.map runOf) ↔ inN t (a.map runOf) ∧ inN t (b.map runOf)) : sumI o + sumI d = sumI a + sumI b := by
  have h := cnt_sum (fun t => inN t (a.map runOf)) (fun t => inN t (b.map runOf)) 1099511627777
  rw [← cnt_congr h1, ← cnt_congr h2] at h
  rw [cnt_row _ (Nat.le_refl _) _ ha.2, cnt_row _ (Nat.le_refl _) _ hb.2, cnt_row _ (Nat.le_refl _) _ ho.2, cnt_row _ (Nat.le_refl _) _ hd.2] at h
  exact h
theorem sum_bnd {a : List Iv} (ha : okI a) : 0 ≤ sumI a ∧ sumI a ≤ 1099511627777 := by
  have h := cnt_bnd (fun t => inN t (a.map runOf)) 1099511627777
  rw [cnt_row _ (Nat.le_refl _) _ ha.2] at h
  exact h
theorem sum_in {a e : List Iv} {x : Iv} (ha : okI a) (he : okI e) (hx : okI [x]) (hin : ∀ t, inN t (a.map runOf) → x.f0 ≤ t ∧ t ≤ x.f1) (h1 : ∀ t, inN t (e.map runOf) ↔ (x.f0 ≤ t ∧ t ≤ x.f1) ∧ ¬ inN t (a.map runOf)) : sumI a + sumI e = x.f1 - x.f0 + 1 := by
  have h := sum_two (o := [x]) (d := []) ha he hx ⟨by simp, sndI_nil⟩ (fun t => by
    rw [h1 t]
    have e : inN t ([x].map runOf) ↔ (x.f0 ≤ t ∧ t ≤ x.f1) := inN_one t (runOf x)
    rw [e]
    constructor
    · intro h
      exact (Classical.em (inN t (a.map runOf))).imp id (fun c => ⟨h, c⟩)
    · exact fun h => h.elim (hin t) (fun h => h.1)) (fun t => by
    rw [h1 t]
    exact ⟨fun h => (inN_nil t h).elim, fun h => (h.2.2 h.1).elim⟩)
  simp only [sumI, lenI, List.map_cons, List.map_nil, List.sum_cons, List.sum_nil] at *
  omega
theorem snd_low {l : List Iv} (h : SndI l) (hn : 0 < l.length) {t : Int} (ht : inN t (l.map runOf)) : l[0].f0 ≤ t := by
  cases l with
  | nil => simp at hn
  | cons x xs =>
    have hs : Snd (runOf x :: xs.map runOf) := h
    have hx := hs.1 (runOf x) (by simp)
    unfold okR at hx
    show (runOf x).f0 ≤ t
    rcases (inN_cons t (runOf x) (xs.map runOf)).1 ht with h | h
    · exact h.1
    · have := hs.low h
      omega
theorem snd_high {l : List Iv} (h : SndI l) (hn : l.length - 1 < l.length) {t : Int} (ht : inN t (l.map runOf)) : t ≤ l[l.length - 1].f1 := by
  obtain ⟨y, hy, h1, h2⟩ := ht
  obtain ⟨i, hi, e⟩ := List.mem_iff_getElem.1 hy
  have hi2 : i < l.length := by rw [List.length_map] at hi; exact hi
  have ey : (l.map runOf)[i] = runOf l[i] := List.getElem_map ..
  rw [ey] at e
  by_cases c : i = l.length - 1
  · subst c
    rw [← e] at h2
    exact h2
  · have hp := (List.pairwise_iff_getElem.1 h.2) i (l.length - 1) hi (by rw [List.length_map]; exact hn) (by omega)
    have hk := h.1 _ (List.getElem_mem (l := l.map runOf) (n := l.length - 1) (by rw [List.length_map]; exact hn))
    simp only [List.getElem_map] at hp hk
    unfold okR at hk
    have e1 : (runOf l[l.length - 1]).f1 = l[l.length - 1].f1 := rfl
    rw [← e] at h2
    omega
end Go.Proofs.Ytkjjidanakmkeaa.Ivl
end
section
namespace Go.Proofs.Ytkjjidanakmkeaa.Turn
set_option linter.unusedVariables false
open Go.RowKit Go.Proofs.Ytkjjidanakmkeaa.Q Go.Proofs.YtkjjidanakmkeaaW.PrintWords Go.Proofs.YtkjjidanakmkeaaW.PrintLast Go.Proofs.Ytkjjidanakmkeaa.Base
abbrev Iv := S36
abbrev Rn := S63
theorem posL_spec (t : Int) (xs : List Int) : ∀ i, (∀ j, posL t xs i ≤ j → j < i → t < xs.getD j 0) ∧ (0 < posL t xs i → xs.getD (posL t xs i - 1) 0 ≤ t)
  | 0 => ⟨fun j _ h => absurd h (Nat.not_lt_zero j), fun h => absurd h (Nat.lt_irrefl 0)⟩
  | i + 1 => by
    obtain ⟨h1, h2⟩ := posL_spec t xs i
    by_cases c : t < xs.getD i 0
    · have e : posL t xs (i + 1) = posL t xs i := if_pos c
      rw [e]
      refine ⟨fun j a b => ?_, h2⟩
      by_cases d : j = i
      · rw [d]; exact c
      · exact h1 j a (by omega)
    · have e : posL t xs (i + 1) = i + 1 := if_neg c
      rw [e]
      refine ⟨fun j a b => by omega, fun _ => ?_⟩
      rw [Nat.add_sub_cancel]
      exact Int.not_lt.1 c
theorem getD_of {xs : List Int} {i : Nat} (h : i < xs.length) : xs.getD i 0 = xs[i] := by
  rw [List.getD_eq_getElem?_getD, List.getElem?_eq_getElem h]
  rfl
theorem ins_ok (xs : List Int) (t : Int) (h : xs.Pairwise (· < ·)) : (insS xs t).Pairwise (· < ·) ∧ ∀ x, x ∈ insS xs t ↔ x = t ∨ x ∈ xs := by
  have hp := posL_le t xs xs.length
  obtain ⟨h1, h2⟩ := posL_spec t xs xs.length
  unfold insS
  generalize posL t xs xs.length = p at *
  by_cases c : 0 < p ∧ xs.getD (p - 1) 0 = t
  · rw [if_pos c]
    refine ⟨h, fun x => ⟨.inr, fun hx => hx.elim (fun e => ?_) id⟩⟩
    rw [e, ← c.2, getD_of (by omega)]
    exact List.getElem_mem _
  · rw [if_neg c]
    have hs : xs = xs.take p ++ xs.drop p := (List.take_append_drop p xs).symm
    have hlow : ∀ a ∈ xs.take p, a < t := fun a ha => by
      obtain ⟨i, hi, rfl⟩ := List.mem_iff_getElem.1 ha
      rw [List.length_take] at hi
      rw [List.getElem_take]
      have h0 : 0 < p := by omega
      have h3 := h2 h0
      rw [getD_of (by omega)] at h3
      have h4 : xs[p - 1]'(by omega) ≠ t := fun e => c ⟨h0, by rw [getD_of (by omega)]; exact e⟩
      have h5 : xs[i]'(by omega) ≤ xs[p - 1]'(by omega) := by
        by_cases d : i = p - 1
        · subst d; exact Int.le_refl _
        · exact Int.le_of_lt (List.pairwise_iff_getElem.1 h i (p - 1) (by omega) (by omega) (by omega))
      omega
    have hhigh : ∀ b ∈ xs.drop p, t < b := fun b hb => by
      obtain ⟨i, hi, rfl⟩ := List.mem_iff_getElem.1 hb
      rw [List.length_drop] at hi
      rw [List.getElem_drop]
      have h3 := h1 (p + i) (by omega) (by omega)
      rw [getD_of (by omega)] at h3
      exact h3
    refine ⟨?_, fun x => ?_⟩
    · rw [List.pairwise_append]
      rw [hs, List.pairwise_append] at h
      refine ⟨h.1, List.pairwise_cons.2 ⟨hhigh, h.2.1⟩, fun a ha b hb => ?_⟩
      rcases List.mem_cons.1 hb with e | hb
      · rw [e]; exact hlow a ha
      · exact h.2.2 a ha b hb
    · conv => rhs; rw [hs]
      simp only [List.mem_append, List.mem_cons]
      exact ⟨fun h => h.elim (fun a => .inr (.inl a)) (fun b => b.elim .inl (fun c => .inr (.inr c))), fun h => h.elim (fun a => .inr (.inl a)) (fun b => b.elim .inl (fun c => .inr (.inr c)))⟩
theorem sorted_ok : ∀ (l acc : List Int), acc.Pairwise (· < ·) → (l.foldl insS acc).Pairwise (· < ·) ∧ ∀ x, x ∈ l.foldl insS acc ↔ x ∈ acc ∨ x ∈ l
  | [], acc, h => ⟨h, fun x => by simp⟩
  | t :: l, acc, h => by
    obtain ⟨h1, h2⟩ := ins_ok acc t h
    obtain ⟨h3, h4⟩ := sorted_ok l (insS acc t) h1
    refine ⟨h3, fun x => ?_⟩
    rw [List.foldl_cons, h4 x, h2 x, List.mem_cons]
    exact ⟨fun h => h.elim (fun a => a.elim (fun b => .inr (.inl b)) .inl) (fun a => .inr (.inr a)), fun h => h.elim (fun a => .inl (.inr a)) (fun a => a.elim (fun b => .inl (.inl b)) .inr)⟩
theorem ins_len (xs : List Int) (t : Int) : (insS xs t).length ≤ xs.length + 1 := insS_len xs t
theorem sorted_len : ∀ (l acc : List Int), (l.foldl insS acc).length ≤ acc.length + l.length
  | [], acc => Nat.le_refl _
  | t :: l, acc => by
    have h1 := sorted_len l (insS acc t)
    have h2 := ins_len acc t
    rw [List.foldl_cons, List.length_cons]
    omega
def turn (P : Int → Bool) (e : Int) : Option Int → List Int → List Iv
  | none, [] => []
  | some s, [] => [⟨s, e⟩]
  | none, t :: ts => if P t = true then turn P e (some t) ts else turn P e none ts
  | some s, t :: ts => if P t = true then turn P e (some s) ts else ⟨s, t - 1⟩ :: turn P e none ts
def lastP (P : Int → Bool) : Bool → List Int → Int → Bool
  | d, [], _ => d
  | d, t :: ts, x => if t ≤ x then lastP P (P t) ts x else d
theorem last_lt (P : Int → Bool) (d : Bool) (x : Int) : ∀ (ts : List Int), (∀ t ∈ ts, x < t) → lastP P d ts x = d
  | [], _ => rfl
  | t :: ts, h => if_neg (Int.not_le.2 (h t (by simp)))
def inR (x : Int) (l : List Iv) : Prop := ∃ y ∈ l, y.f0 ≤ x ∧ x ≤ y.f1
theorem inR_nil (x : Int) : inR x [] ↔ False := ⟨fun ⟨y, h, _⟩ => by simp at h, fun h => h.elim⟩
theorem inR_cons (x : Int) (y : Iv) (l : List Iv) : inR x (y :: l) ↔ (y.f0 ≤ x ∧ x ≤ y.f1) ∨ inR x l := by
  unfold inR
  simp only [List.mem_cons, exists_eq_or_imp]
def fromO : Option Int → Int → Prop
  | none, _ => True
  | some s, x => s ≤ x
theorem turn_has (P : Int → Bool) (e : Int) (x : Int) : ∀ (ts : List Int) (o : Option Int), ts.Pairwise (· < ·) → (∀ t ∈ ts, t ≤ e) → (∀ s, o = some s → ∀ t ∈ ts, s < t) →
    (inR x (turn P e o ts) ↔ fromO o x ∧ x ≤ e ∧ lastP P o.isSome ts x = true)
  | [], none, _, _, _ => by simp [turn, inR_nil, lastP]
  | [], some s, _, _, _ => by simp [turn, inR_cons, inR_nil, lastP, fromO]
  | t :: ts, none, hs, he, ho => by
    obtain ⟨hs1, hs2⟩ := List.pairwise_cons.1 hs
    have he2 : ∀ t' ∈ ts, t' ≤ e := fun t' h => he t' (by simp [h])
    by_cases c : P t = true
    · have e1 : turn P e none (t :: ts) = turn P e (some t) ts := if_pos c
      rw [e1, turn_has P e x ts (some t) hs2 he2 (fun s hs t' h' => by rw [← Option.some.inj hs]; exact hs1 t' h')]
      simp only [fromO, lastP, c, Option.isSome_some, Option.isSome_none, true_and]
      by_cases d : t ≤ x
      · rw [if_pos d]
        exact ⟨fun h => h.2, fun h => ⟨d, h⟩⟩
      · rw [if_neg d]
        exact ⟨fun h => absurd h.1 d, fun h => by cases h.2⟩
    · have e1 : turn P e none (t :: ts) = turn P e none ts := if_neg c
      rw [e1, turn_has P e x ts none hs2 he2 (fun s hs => by cases hs)]
      simp only [fromO, lastP, Option.isSome_none, true_and]
      by_cases d : t ≤ x
      · rw [if_pos d, Bool.eq_false_iff.2 c]
      · rw [if_neg d, last_lt P false x ts (fun t' h' => by have := hs1 t' h'; omega)]
  | t :: ts, some s, hs, he, ho => by
    obtain ⟨hs1, hs2⟩ := List.pairwise_cons.1 hs
    have he2 : ∀ t' ∈ ts, t' ≤ e := fun t' h => he t' (by simp [h])
    have hst := ho s rfl t (by simp)
    have hte := he t (by simp)
    by_cases c : P t = true
    · have e1 : turn P e (some s) (t :: ts) = turn P e (some s) ts := if_pos c
      rw [e1, turn_has P e x ts (some s) hs2 he2 (fun s' hs t' h' => by rw [← Option.some.inj hs]; have := hs1 t' h'; omega)]
      simp only [fromO, lastP, c, Option.isSome_some]
      by_cases d : t ≤ x
      · rw [if_pos d]
      · rw [if_neg d, last_lt P true x ts (fun t' h' => by have := hs1 t' h'; omega)]
    · have e1 : turn P e (some s) (t :: ts) = ⟨s, t - 1⟩ :: turn P e none ts := if_neg c
      rw [e1, inR_cons, turn_has P e x ts none hs2 he2 (fun s hs => by cases hs)]
      simp only [fromO, lastP, Option.isSome_some, Option.isSome_none, true_and]
      by_cases d : t ≤ x
      · rw [if_pos d, Bool.eq_false_iff.2 c]
        exact ⟨fun h => h.elim (fun a => by omega) (fun b => ⟨by omega, b⟩), fun h => .inr h.2⟩
      · rw [if_neg d, last_lt P false x ts (fun t' h' => by have := hs1 t' h'; omega)]
        exact ⟨fun h => h.elim (fun a => ⟨a.1, by omega, rfl⟩) (fun b => by cases b.2), fun h => .inl ⟨h.1, by omega⟩⟩
theorem last_eq (P : Int → Bool) (x : Int) : ∀ (ts : List Int) (d : Bool), ts.Pairwise (· < ·) → (∃ t ∈ ts, t ≤ x) → (∀ t ∈ ts, t ≤ x → (∀ t' ∈ ts, t < t' → x < t') → P t = P x) → lastP P d ts x = P x
  | [], d, _, h, _ => by obtain ⟨t, ht, _⟩ := h; cases ht
  | t :: ts, d, hs, h, hc => by
    obtain ⟨hs1, hs2⟩ := List.pairwise_cons.1 hs
    have hle : t ≤ x := by
      obtain ⟨t', ht', hx⟩ := h
      rcases List.mem_cons.1 ht' with e | m
      · rw [← e]; exact hx
      · have := hs1 t' m; omega
    have e1 : lastP P d (t :: ts) x = lastP P (P t) ts x := if_pos hle
    rw [e1]
    by_cases c : ∃ t' ∈ ts, t' ≤ x
    · refine last_eq P x ts (P t) hs2 c (fun u hu hux hn => hc u (by simp [hu]) hux (fun t' ht' hlt => ?_))
      rcases List.mem_cons.1 ht' with e | m
      · have := hs1 u hu; omega
      · exact hn t' m hlt
    · have hgt : ∀ t' ∈ ts, x < t' := fun t' h' => Int.not_le.1 (fun hh => c ⟨t', h', hh⟩)
      rw [last_lt P (P t) x ts hgt]
      refine hc t (by simp) hle (fun t' ht' hlt => ?_)
      rcases List.mem_cons.1 ht' with e | m
      · omega
      · exact hgt t' m
def runI (x : Iv) : Rn := ⟨x.f0, x.f1⟩
def sndL : Option Int → List Iv → Prop
  | _, [] => True
  | p, x :: xs => 0 ≤ x.f0 ∧ x.f0 ≤ x.f1 ∧ x.f1 ≤ 1099511627776 ∧ (∀ u, p = some u → u + 1 < x.f0) ∧ sndL (some x.f1) xs
theorem snd_iff : ∀ (l : List Iv) (p : Option Int), (∀ u, p = some u → u ≤ 1099511627776) → (soundL p (l.map runI) = true ↔ sndL p l)
  | [], p, _ => by cases p <;> simp [soundL, sndL]
  | x :: xs, p, hp => by
    have e : soundL p ((x :: xs).map runI) = if x.f0 < 0 ∨ x.f1 < x.f0 ∨ 1099511627776 < x.f1 then false else
      match p with
      | none => soundL (some x.f1) (xs.map runI)
      | some t => if t = 1099511627776 ∨ x.f0 ≤ t + 1 then false else soundL (some x.f1) (xs.map runI) := by cases p <;> rfl
    rw [e]
    simp only [sndL]
    by_cases c : x.f0 < 0 ∨ x.f1 < x.f0 ∨ 1099511627776 < x.f1
    · rw [if_pos c]
      exact ⟨fun h => (by cases h), fun h => by omega⟩
    rw [if_neg c]
    have ih := snd_iff xs (some x.f1) (fun u hu => by rw [← Option.some.inj hu]; omega)
    cases p with
    | none =>
      dsimp only
      rw [ih]
      exact ⟨fun h => ⟨by omega, by omega, by omega, fun u hu => (by cases hu), h⟩, fun h => h.2.2.2.2⟩
    | some t =>
      have ht := hp t rfl
      dsimp only
      by_cases d : t = 1099511627776 ∨ x.f0 ≤ t + 1
      · rw [if_pos d]
        exact ⟨fun h => (by cases h), fun h => by have := h.2.2.2.1 t rfl; omega⟩
      · rw [if_neg d, ih]
        exact ⟨fun h => ⟨by omega, by omega, by omega, fun u hu => by rw [← Option.some.inj hu]; omega, h⟩, fun h => h.2.2.2.2⟩
theorem snd_low : ∀ (l : List Iv) (u x : Int), sndL (some u) l → inR x l → u + 1 < x
  | [], u, x, _, h => ((inR_nil x).1 h).elim
  | y :: l, u, x, hs, h => by
    obtain ⟨h1, h2, h3, h4, h5⟩ := hs
    have h6 := h4 u rfl
    rcases (inR_cons x y l).1 h with a | a
    · omega
    · have := snd_low l y.f1 x h5 a; omega
theorem turn_sound (P : Int → Bool) (e : Int) (he1 : e ≤ 1099511627776) : ∀ (ts : List Int) (o : Option Int) (p : Option Int), ts.Pairwise (· < ·) → (∀ t ∈ ts, 0 ≤ t ∧ t ≤ e) → (∀ s, o = some s → 0 ≤ s ∧ s ≤ e ∧ ∀ t ∈ ts, s < t) →
    (∀ u, p = some u → (∀ s, o = some s → u + 1 < s) ∧ ∀ t ∈ ts, u + 1 < t) → sndL p (turn P e o ts)
  | [], none, p, _, _, _, _ => trivial
  | [], some s, p, _, _, ho, hp => ⟨(ho s rfl).1, (ho s rfl).2.1, he1, fun u hu => (hp u hu).1 s rfl, trivial⟩
  | t :: ts, none, p, hs, he, ho, hp => by
    obtain ⟨hs1, hs2⟩ := List.pairwise_cons.1 hs
    have he2 : ∀ t' ∈ ts, 0 ≤ t' ∧ t' ≤ e := fun t' h => he t' (by simp [h])
    by_cases c : P t = true
    · have e1 : turn P e none (t :: ts) = turn P e (some t) ts := if_pos c
      rw [e1]
      refine turn_sound P e he1 ts (some t) p hs2 he2 (fun s hs => ?_) (fun u hu => ⟨fun s hs => ?_, fun t' h' => (hp u hu).2 t' (by simp [h'])⟩)
      · rw [← Option.some.inj hs]; exact ⟨(he t (by simp)).1, (he t (by simp)).2, hs1⟩
      · rw [← Option.some.inj hs]; exact (hp u hu).2 t (by simp)
    · have e1 : turn P e none (t :: ts) = turn P e none ts := if_neg c
      rw [e1]
      exact turn_sound P e he1 ts none p hs2 he2 (fun s hs => by cases hs) (fun u hu => ⟨fun s hs => (by cases hs), fun t' h' => (hp u hu).2 t' (by simp [h'])⟩)
  | t :: ts, some s, p, hs, he, ho, hp => by
    obtain ⟨hs1, hs2⟩ := List.pairwise_cons.1 hs
    have he2 : ∀ t' ∈ ts, 0 ≤ t' ∧ t' ≤ e := fun t' h => he t' (by simp [h])
    obtain ⟨o1, o2, o3⟩ := ho s rfl
    have hst := o3 t (by simp)
    have hte := he t (by simp)
    by_cases c : P t = true
    · have e1 : turn P e (some s) (t :: ts) = turn P e (some s) ts := if_pos c
      rw [e1]
      exact turn_sound P e he1 ts (some s) p hs2 he2 (fun s' hs' => by rw [← Option.some.inj hs']; exact ⟨o1, o2, fun t' h' => o3 t' (by simp [h'])⟩) (fun u hu => ⟨(hp u hu).1, fun t' h' => (hp u hu).2 t' (by simp [h'])⟩)
    · have e1 : turn P e (some s) (t :: ts) = ⟨s, t - 1⟩ :: turn P e none ts := if_neg c
      rw [e1]
      refine ⟨o1, by show s ≤ t - 1; omega, by show t - 1 ≤ _; omega, fun u hu => (hp u hu).1 s rfl, ?_⟩
      exact turn_sound P e he1 ts none _ hs2 he2 (fun s hs => by cases hs) (fun u hu => ⟨fun s hs => (by cases hs), fun t' h' => by have := hs1 t' h'; have h9 : t - 1 = u := Option.some.inj hu; omega⟩)
end Go.Proofs.Ytkjjidanakmkeaa.Turn
end
section
namespace Go.Proofs.Ytkjjidanakmkeaa.Ivl
set_option linter.unusedVariables false
open Go.RowKit Go.Proofs.Ytkjjidanakmkeaa.Q Go.Proofs.YtkjjidanakmkeaaW.PrintWords Go.Proofs.YtkjjidanakmkeaaW.PrintLast Go.Proofs.YtkjjidanakmkeaaW.PrintMore Go.Proofs.Ytkjjidanakmkeaa.Base
theorem one_ev (a b : Int) : spoorref19_One.f a b = some (decide (0 ≤ a ∧ a ≤ b ∧ b ≤ 1099511627776)) := by
  simp only [spoorref19_One.f]
  by_cases h : a ≥ 0
  · rw [if_pos h]
    by_cases g : a ≤ b
    · rw [if_pos g]
      exact congrArg some (decide_eq_decide.2 ⟨fun x => ⟨h, g, x⟩, fun x => x.2.2⟩)
    · rw [if_neg g, decide_eq_false (fun x => g x.2.1)]
  · rw [if_neg h, decide_eq_false (fun x => h x.1)]
def prevO (l : List Iv) (i : Nat) : Option Int := if i = 0 then none else some (l.getD (i - 1) ⟨0, 0⟩).f1
theorem rcheck_l (l : List Iv) (hl : l.length ≤ 1024) : ∀ (r : List Iv) (i : Nat), l.drop i = r → (0 < i → (l.getD (i - 1) ⟨0, 0⟩).f1 ≤ 1099511627776 ∧ 0 ≤ (l.getD (i - 1) ⟨0, 0⟩).f1) →
    Ev (fun k => spoorref19_Check.l0 k l l (l.length : Int) (i : Int)) (if soundL (prevO l i) (r.map runOf) = true then 0 else 2)
  | [], i, hd, hp => by
    have h1 : l.length ≤ i := List.drop_eq_nil_iff.1 hd
    refine Ev.succ ?_
    simp only [spoorref19_Check.l0]
    refine Ev.neg (by omega) (Ev.const ?_)
    have e : soundL (prevO l i) (([] : List Iv).map runOf) = true := by cases prevO l i <;> rfl
    rw [if_pos e]
  | x :: r, i, hd, hp => by
    have hlt := dlt hd
    have hx : l.getD i ⟨0, 0⟩ = x := by
      have e : l[i]? = some x := by rw [← List.head?_drop, hd]; rfl
      rw [List.getD_eq_getElem?_getD, e]
      rfl
    have es : soundL (prevO l i) ((x :: r).map runOf) = if x.f0 < 0 ∨ x.f1 < x.f0 ∨ 1099511627776 < x.f1 then false else
      match prevO l i with
      | none => soundL (some x.f1) (r.map runOf)
      | some t => if t = 1099511627776 ∨ x.f0 ≤ t + 1 then false else soundL (some x.f1) (r.map runOf) := by cases prevO l i <;> rfl
    rw [es]
    refine Ev.succ ?_
    simp only [spoorref19_Check.l0, rdI hd, one_ev]
    refine Ev.pos (by omega) (Ev.pos (by omega) (Ev.pos (by omega) (Ev.bind (Ev.const rfl) ?_)))
    by_cases c : 0 ≤ x.f0 ∧ x.f0 ≤ x.f1 ∧ x.f1 ≤ 1099511627776
    case neg =>
      rw [decide_eq_false c, if_pos (show x.f0 < 0 ∨ x.f1 < x.f0 ∨ 1099511627776 < x.f1 by omega)]
      exact Ev.neg (by decide) (Ev.const rfl)
    rw [decide_eq_true c, if_neg (show ¬ (x.f0 < 0 ∨ x.f1 < x.f0 ∨ 1099511627776 < x.f1) by omega)]
    have e1 : wrap64 ((i : Int) + 1) = ((i + 1 : Nat) : Int) := by rw [w64 (by omega) (by omega)]; omega
    have ep : prevO l (i + 1) = some x.f1 := by
      unfold prevO
      rw [if_neg (by omega), Nat.add_sub_cancel, hx]
    have ih := rcheck_l l hl r (i + 1) (dnext hd) (fun _ => by rw [Nat.add_sub_cancel, hx]; omega)
    rw [ep] at ih
    refine Ev.pos rfl ?_
    rw [e1]
    by_cases d : i = 0
    · subst d
      have e0 : prevO l 0 = none := rfl
      rw [e0]
      exact Ev.neg (by omega) ih
    · have e0 : prevO l i = some (l.getD (i - 1) ⟨0, 0⟩).f1 := if_neg d
      have hb := hp (by omega)
      have er : rd_T36 l (wrap64 ((i : Int) - 1)) = l.getD (i - 1) ⟨0, 0⟩ := by
        rw [w64 (by omega) (by omega), show ((i : Int) - 1) = ((i - 1 : Nat) : Int) by omega]
        rfl
      rw [e0, er]
      dsimp only
      generalize (l.getD (i - 1) ⟨0, 0⟩).f1 = t at hb
      rw [w64 (n := t + 1) (by omega) (by omega), w64 (n := (i : Int) - 1) (by omega) (by omega)]
      refine Ev.pos (by omega) (Ev.pos (by omega) (Ev.pos (by omega) ?_))
      by_cases g : x.f0 ≤ t + 1
      · refine Ev.to (Ev.pos g (Ev.const rfl)) (if_neg (fun hh => ?_)).symm
        have h2 : (if t = 1099511627776 ∨ x.f0 ≤ t + 1 then false else soundL (some x.f1) (r.map runOf)) = true := hh
        rw [if_pos (.inr g)] at h2
        cases h2
      · refine Ev.to (Ev.neg g ih) ?_
        have e3 : (if t = 1099511627776 ∨ x.f0 ≤ t + 1 then false else soundL (some x.f1) (r.map runOf)) = soundL (some x.f1) (r.map runOf) := if_neg (by omega)
        exact (congrArg (fun b : Bool => if b = true then (0 : Int) else 2) e3).symm
theorem rcheck_ev (l : List Iv) : Ev (fun k => spoorref19_Check.f k l) (if okI l then 0 else 2) := by
  simp only [spoorref19_Check.f]
  by_cases c : 1024 < l.length
  · rw [if_neg (fun h : okI l => by have := h.1; omega)]
    exact Ev.pos (by omega) (Ev.const rfl)
  · refine Ev.neg (by omega) (Ev.to (rcheck_l l (by omega) l 0 rfl (fun h => by omega)) ?_)
    have e0 : prevO l 0 = none := rfl
    rw [e0]
    by_cases h : okI l
    · rw [if_pos h, if_pos ((sound_none _).2 h.2)]
    · rw [if_neg h, if_neg (fun hh => h ⟨by omega, (sound_none _).1 hh⟩)]
def isIn (l : List Iv) (t : Int) : Bool := l.any (fun x => decide (x.f0 ≤ t ∧ t ≤ x.f1))
theorem isIn_iff (l : List Iv) (t : Int) : isIn l t = true ↔ inN t (l.map runOf) := by
  unfold isIn inN
  rw [List.any_eq_true]
  constructor
  · rintro ⟨x, hx, h⟩
    exact ⟨runOf x, List.mem_map_of_mem hx, of_decide_eq_true h⟩
  · rintro ⟨y, hy, h⟩
    obtain ⟨x, hx, rfl⟩ := List.mem_map.1 hy
    exact ⟨x, hx, decide_eq_true h⟩
theorem rin_l (l : List Iv) (hl : l.length ≤ 4194304) (t : Int) : ∀ (r : List Iv) (i : Nat), l.drop i = r → Ev (fun k => spoorref19_in.l0 k t l (l.length : Int) (i : Int)) (isIn r t)
  | [], i, hd => by
    have h1 : l.length ≤ i := List.drop_eq_nil_iff.1 hd
    refine Ev.succ ?_
    simp only [spoorref19_in.l0]
    exact Ev.neg (by omega) (Ev.const rfl)
  | x :: r, i, hd => by
    have hlt := dlt hd
    have e1 : wrap64 ((i : Int) + 1) = ((i + 1 : Nat) : Int) := by rw [w64 (by omega) (by omega)]; omega
    have ih := rin_l l hl t r (i + 1) (dnext hd)
    have e : isIn (x :: r) t = (decide (x.f0 ≤ t ∧ t ≤ x.f1) || isIn r t) := rfl
    refine Ev.succ ?_
    simp only [spoorref19_in.l0, rdI hd]
    refine Ev.pos (by omega) (Ev.pos (by omega) (Ev.pos (by omega) ?_))
    rw [e, e1]
    by_cases c : x.f0 ≤ t
    · refine Ev.pos c ?_
      by_cases d : t ≤ x.f1
      · rw [decide_eq_true ⟨c, d⟩]
        exact Ev.pos d (Ev.const rfl)
      · rw [decide_eq_false (fun h => d h.2)]
        exact Ev.neg d ih
    · rw [decide_eq_false (fun h => c h.1)]
      exact Ev.neg c ih
theorem rin_ev (l : List Iv) (hl : l.length ≤ 4194304) (t : Int) : Ev (fun k => spoorref19_in.f k l t) (isIn l t) := by
  simp only [spoorref19_in.f]
  exact rin_l l hl t l 0 rfl
def pH (how : Int) (a b : List Iv) (t : Int) : Bool := if how = 2 then isIn a t && !isIn b t else if how = 1 then isIn a t && isIn b t else isIn a t || isIn b t
def opn (e : Int) : Option Int → List Iv
  | none => []
  | some s => [⟨s, e⟩]
theorem rdZ {l : List Int} {i : Nat} {x : Int} {r : List Int} (h : l.drop i = x :: r) : rd l (i : Int) = x := by
  have e : l[i]? = some x := by rw [← List.head?_drop, h]; rfl
  simp [rd, List.getD_eq_getElem?_getD, e]
theorem row_j2 (how : Int) (a b out : List Iv) (op : Bool) (t : Int) (ts : List Int) (m i : Int) (R : List Iv)
    (h : Ev (fun k => spoorref19_row.j4 k how a b out op t (pH how a b t) ts m i) R) :
    Ev (fun k => if isIn a t = true then spoorref19_row.j2 k how a b out op t (isIn a t) (isIn b t) true ts m i else spoorref19_row.j2 k how a b out op t (isIn a t) (isIn b t) (isIn b t) ts m i) R := by
  unfold pH at h
  generalize isIn a t = x at *
  generalize isIn b t = y at *
  cases x with
  | true =>
    refine Ev.pos (by trivial) (Ev.succ ?_)
    simp only [spoorref19_row.j2]
    by_cases c : how = 1
    · subst c
      rw [if_neg (by decide), if_pos rfl, Bool.true_and] at h
      refine Ev.pos (by trivial) (Ev.pos (by trivial) (Ev.succ ?_))
      simp only [spoorref19_row.j3]
      exact Ev.neg (by decide) h
    · refine Ev.neg c (Ev.succ ?_)
      simp only [spoorref19_row.j3]
      by_cases d : how = 2
      · rw [if_pos d, Bool.true_and] at h
        exact Ev.pos d (Ev.pos (by trivial) h)
      · rw [if_neg d, if_neg c, Bool.true_or] at h
        exact Ev.neg d h
  | false =>
    refine Ev.neg (by decide) (Ev.succ ?_)
    simp only [spoorref19_row.j2]
    by_cases c : how = 1
    · subst c
      rw [if_neg (by decide), if_pos rfl, Bool.false_and] at h
      refine Ev.pos (by trivial) (Ev.neg (by decide) (Ev.succ ?_))
      simp only [spoorref19_row.j3]
      exact Ev.neg (by decide) h
    · refine Ev.neg c (Ev.succ ?_)
      simp only [spoorref19_row.j3]
      by_cases d : how = 2
      · rw [if_pos d, Bool.false_and] at h
        exact Ev.pos d (Ev.neg (by decide) h)
      · rw [if_neg d, if_neg c, Bool.false_or] at h
        exact Ev.neg d h
theorem rrow_b (how : Int) (a b : List Iv) (ha : a.length ≤ 4096) (hb : b.length ≤ 4096) (ts : List Int) (hts : ts.length ≤ 65536) (hbd : ∀ t ∈ ts, 0 ≤ t ∧ t ≤ 1099511627777) : ∀ (r : List Int) (i : Nat) (done : List Iv) (o : Option Int), ts.drop i = r → (done ++ opn 0 o).length ≤ i →
    Ev (fun k => spoorref19_row.l1 k how a b (done ++ opn 0 o) o.isSome ts (ts.length : Int) (i : Int)) (done ++ Turn.turn (pH how a b) 0 o r)
  | [], i, done, o, hd, hi => by
    have h1 : ts.length ≤ i := List.drop_eq_nil_iff.1 hd
    have e : Turn.turn (pH how a b) 0 o [] = opn 0 o := by cases o <;> rfl
    rw [e]
    refine Ev.succ ?_
    simp only [spoorref19_row.l1]
    exact Ev.neg (by omega) (Ev.const rfl)
  | t :: r, i, done, o, hd, hi => by
    have hlt := dlt hd
    obtain ⟨hb0, hb1⟩ := hbd t (List.mem_of_mem_drop (i := i) (by rw [hd]; simp))
    have e1 : wrap64 ((i : Int) + 1) = ((i + 1 : Nat) : Int) := by rw [w64 (by omega) (by omega)]; omega
    have ih := fun done o h => rrow_b how a b ha hb ts hts hbd r (i + 1) done o (dnext hd) h
    refine Ev.succ ?_
    simp only [spoorref19_row.l1, rdZ hd]
    refine Ev.pos (by omega) (Ev.pos (by omega) (Ev.pos (by omega) (Ev.bind (rin_ev a (by omega) t) (Ev.bind (rin_ev b (by omega) t) (row_j2 how a b _ _ t ts _ _ _ ?_)))))
    refine Ev.succ ?_
    simp only [spoorref19_row.j4]
    cases o with
    | none =>
      refine Ev.neg (by decide) (Ev.succ ?_)
      simp only [spoorref19_row.j5]
      rw [e1]
      refine Ev.neg (by decide) (Ev.neg (by decide) ?_)
      have eo : done ++ opn 0 none = done := List.append_nil _
      rw [eo] at hi ⊢
      by_cases c : pH how a b t = true
      · have e2 : Turn.turn (pH how a b) 0 none (t :: r) = Turn.turn (pH how a b) 0 (some t) r := if_pos c
        rw [e2, c]
        exact Ev.pos rfl (Ev.pos (by omega) (ih done (some t) (by simp [opn]; omega)))
      · have e2 : Turn.turn (pH how a b) 0 none (t :: r) = Turn.turn (pH how a b) 0 none r := if_neg c
        have h2 := ih done none (by rw [eo]; omega)
        rw [eo] at h2
        rw [e2, Bool.eq_false_iff.2 c]
        exact Ev.neg (by decide) h2
    | some s =>
      refine Ev.pos rfl (Ev.succ ?_)
      simp only [spoorref19_row.j5]
      rw [e1]
      have eo : (done ++ opn 0 (some s)).length = done.length + 1 := by simp [opn]
      by_cases c : pH how a b t = true
      · have e2 : Turn.turn (pH how a b) 0 (some s) (t :: r) = Turn.turn (pH how a b) 0 (some s) r := if_pos c
        rw [e2, c]
        exact Ev.neg (by decide) (Ev.pos rfl (ih done (some s) (by omega)))
      · have e2 : Turn.turn (pH how a b) 0 (some s) (t :: r) = ⟨s, t - 1⟩ :: Turn.turn (pH how a b) 0 none r := if_neg c
        have ew : wrap64 (((done ++ opn 0 (some s)).length : Int) - 1) = ((done.length : Nat) : Int) := by rw [eo, w64 (by omega) (by omega)]; omega
        have et : wrap64 (t - 1) = t - 1 := w64 (by omega) (by omega)
        have er : rd_T36 (done ++ opn 0 (some s)) ((done.length : Nat) : Int) = ⟨s, 0⟩ := by simp [rd_T36, opn]
        have es : (done ++ opn 0 (some s)).set done.length ⟨s, t - 1⟩ = done ++ [⟨s, t - 1⟩] := by
          rw [List.set_append_right _ _ (Nat.le_refl _), Nat.sub_self]
          rfl
        have h2 := ih (done ++ [⟨s, t - 1⟩]) none (by simp [opn]; omega)
        have eo2 : (done ++ [(⟨s, t - 1⟩ : Iv)]) ++ opn 0 none = done ++ [⟨s, t - 1⟩] := List.append_nil _
        rw [eo2] at h2
        rw [e2, Bool.eq_false_iff.2 c, ew, er, et, Int.toNat_natCast, es]
        refine Ev.pos rfl (Ev.pos (by omega) (Ev.pos (by omega) (Ev.bind (Ev.const rfl) (Ev.pos rfl ?_))))
        have e3 : done ++ (⟨s, t - 1⟩ :: Turn.turn (pH how a b) 0 none r) = (done ++ [⟨s, t - 1⟩]) ++ Turn.turn (pH how a b) 0 none r := by simp
        rw [e3]
        exact h2
def flatI (l : List Iv) : List Int := l.flatMap (fun x => [x.f0, x.f1 + 1])
theorem flat_len (l : List Iv) : (flatI l).length = 2 * l.length := by
  induction l with
  | nil => rfl
  | cons x xs ih =>
    have e : flatI (x :: xs) = [x.f0, x.f1 + 1] ++ flatI xs := rfl
    rw [e, List.length_append, ih, List.length_cons, List.length_cons, List.length_cons, List.length_nil]
    omega
theorem flat_mem (l : List Iv) (t : Int) : t ∈ flatI l ↔ ∃ x ∈ l, t = x.f0 ∨ t = x.f1 + 1 := by
  unfold flatI
  rw [List.mem_flatMap]
  simp only [List.mem_cons, List.not_mem_nil, or_false]
theorem rrow_a (how : Int) (a b all : List Iv) (hall : all.length ≤ 8192) (hb : ∀ x ∈ all, 0 ≤ x.f0 ∧ x.f0 ≤ x.f1 ∧ x.f1 ≤ 1099511627776) (F : List Iv) (hF : Ev (fun k => spoorref19_row.l1 k how a b [] false ((flatI all).foldl insS []) ((((flatI all).foldl insS []).length : Nat) : Int) 0) F) : ∀ (r : List Iv) (i : Nat) (acc : List Int), all.drop i = r → acc ++ flatI r = flatI all → acc.length = 2 * i → i ≤ all.length →
    Ev (fun k => spoorref19_row.l0 k how a b acc all (all.length : Int) (i : Int)) F
  | [], i, acc, hd, ha, hi, hle => by
    have h1 : all.length ≤ i := List.drop_eq_nil_iff.1 hd
    refine Ev.succ ?_
    simp only [spoorref19_row.l0]
    refine Ev.neg (by omega) ?_
    have ea : acc = flatI all := by
      have e : flatI ([] : List Iv) = [] := rfl
      rw [← ha, e, List.append_nil]
    have hlen : acc.length ≤ 16384 := by omega
    refine Ev.bind (a := acc.foldl insS []) ?_ ?_
    · simp only [spoorref19_Sorted.f]
      exact Ev.pos (by omega) (Ev.const rfl)
    · rw [ea]
      exact hF
  | x :: r, i, acc, hd, ha, hi, hle => by
    have hlt := dlt hd
    have hx : x ∈ all := List.mem_of_mem_drop (i := i) (by rw [hd]; simp)
    have hbx := hb x hx
    have e1 : wrap64 ((i : Int) + 1) = ((i + 1 : Nat) : Int) := by rw [w64 (by omega) (by omega)]; omega
    refine Ev.succ ?_
    simp only [spoorref19_row.l0, rdI hd]
    refine Ev.pos (by omega) (Ev.pos (by omega) (Ev.pos (by omega) (Ev.bind (Ev.const rfl) ?_)))
    rw [w64 (n := x.f1 + 1) (by omega) (by omega), e1]
    refine Ev.pos (by simp only [List.length_cons, List.length_nil]; omega) ?_
    refine rrow_a how a b all hall hb F hF r (i + 1) (acc ++ [x.f0, x.f1 + 1]) (dnext hd) ?_ (by simp [hi]; omega) (by omega)
    rw [List.append_assoc]
    exact ha
def rowV (how : Int) (a b : List Iv) : List Iv := Turn.turn (pH how a b) 0 none ((flatI (a ++ b)).foldl insS [])
theorem rrow_ev (how : Int) (a b : List Iv) (ha : a.length ≤ 1024) (hb : b.length ≤ 1024) (hx : ∀ x ∈ a ++ b, 0 ≤ x.f0 ∧ x.f0 ≤ x.f1 ∧ x.f1 ≤ 1099511627776) : Ev (fun k => spoorref19_row.f k how a b) (rowV how a b) := by
  obtain ⟨t1, t2⟩ := Turn.sorted_ok (flatI (a ++ b)) [] List.Pairwise.nil
  have t3 := Turn.sorted_len (flatI (a ++ b)) []
  rw [flat_len, List.length_append, List.length_nil] at t3
  simp only [spoorref19_row.f]
  refine Ev.bind (Ev.const rfl) (Ev.pos (by simp only [List.length_nil]; omega) (Ev.bind (Ev.const rfl) (Ev.pos (by simp only [List.nil_append]; omega) (Ev.bind (Ev.const rfl) ?_))))
  rw [List.nil_append]
  have h2 := rrow_b how a b (by omega) (by omega) ((flatI (a ++ b)).foldl insS []) (by omega) (fun t ht => by
    rcases (t2 t).1 ht with h | h
    · cases h
    · obtain ⟨x, hm, e⟩ := (flat_mem _ _).1 h
      have := hx x hm
      omega) _ 0 [] none rfl (Nat.le_refl _)
  exact rrow_a how a b (a ++ b) (by rw [List.length_append]; omega) hx _ h2 (a ++ b) 0 [] rfl rfl rfl (Nat.zero_le _)
theorem turn_end (P : Int → Bool) (T : Int) (hT : P T = false) : ∀ (ts : List Int) (o : Option Int), Turn.turn P 0 o (ts ++ [T]) = Turn.turn P (T - 1) o ts
  | [], none => by
    show (if P T = true then Turn.turn P 0 (some T) [] else Turn.turn P 0 none []) = []
    rw [hT]
    rfl
  | [], some s => by
    show (if P T = true then Turn.turn P 0 (some s) [] else ⟨s, T - 1⟩ :: Turn.turn P 0 none []) = [⟨s, T - 1⟩]
    rw [hT]
    rfl
  | t :: ts, none => by
    show (if P t = true then Turn.turn P 0 (some t) (ts ++ [T]) else Turn.turn P 0 none (ts ++ [T])) = if P t = true then Turn.turn P (T - 1) (some t) ts else Turn.turn P (T - 1) none ts
    rw [turn_end P T hT ts (some t), turn_end P T hT ts none]
  | t :: ts, some s => by
    show (if P t = true then Turn.turn P 0 (some s) (ts ++ [T]) else ⟨s, t - 1⟩ :: Turn.turn P 0 none (ts ++ [T])) = if P t = true then Turn.turn P (T - 1) (some s) ts else ⟨s, t - 1⟩ :: Turn.turn P (T - 1) none ts
    rw [turn_end P T hT ts (some s), turn_end P T hT ts none]
theorem inR_N (t : Int) (l : List Iv) : Turn.inR t l ↔ inN t (l.map runOf) := by
  unfold Turn.inR inN
  constructor
  · rintro ⟨y, hy, h⟩
    exact ⟨runOf y, List.mem_map_of_mem hy, h⟩
  · rintro ⟨y, hy, h⟩
    obtain ⟨x, hx, rfl⟩ := List.mem_map.1 hy
    exact ⟨x, hx, h⟩
theorem isIn_same {l : List Iv} {t x : Int} (htx : t ≤ x) (h : ∀ y ∈ l, ∀ u, (u = y.f0 ∨ u = y.f1 + 1) → t < u → x < u) : isIn l t = isIn l x := by
  unfold isIn
  rw [Bool.eq_iff_iff, List.any_eq_true, List.any_eq_true]
  refine exists_congr (fun y => and_congr_right (fun hy => ?_))
  have h1 := h y hy y.f0 (.inl rfl)
  have h2 := h y hy (y.f1 + 1) (.inr rfl)
  rw [decide_eq_true_eq, decide_eq_true_eq]
  exact ⟨fun ⟨a, b⟩ => ⟨by omega, by have := h2 (by omega); omega⟩, fun ⟨a, b⟩ => ⟨Int.not_lt.1 (fun hh => by have := h1 hh; omega), by omega⟩⟩
theorem isIn_no {l : List Iv} {t : Int} (h : ∀ y ∈ l, ¬ (y.f0 ≤ t ∧ t ≤ y.f1)) : isIn l t = false := by
  unfold isIn
  rw [List.any_eq_false]
  exact fun y hy => by rw [decide_eq_true_eq]; exact h y hy
theorem pH_no {how : Int} {a b : List Iv} {t : Int} (ha : isIn a t = false) (hb : isIn b t = false) : pH how a b t = false := by
  unfold pH
  rw [ha, hb]
  split
  · rfl
  · split <;> rfl
theorem rowV_ok (how : Int) (a b : List Iv) (hx : ∀ x ∈ a ++ b, 0 ≤ x.f0 ∧ x.f0 ≤ x.f1 ∧ x.f1 ≤ 1099511627776) : Snd ((rowV how a b).map runOf) ∧ ∀ t, inN t ((rowV how a b).map runOf) ↔ pH how a b t = true := by
  obtain ⟨t1, t2⟩ := Turn.sorted_ok (flatI (a ++ b)) [] List.Pairwise.nil
  unfold rowV
  generalize (flatI (a ++ b)).foldl insS [] = ts at t1 t2 ⊢
  have hmem : ∀ t, t ∈ ts ↔ ∃ x ∈ a ++ b, t = x.f0 ∨ t = x.f1 + 1 := fun t => by
    rw [t2 t, flat_mem]
    simp only [List.not_mem_nil, false_or]
  have ina : ∀ {y}, y ∈ a → y ∈ a ++ b := fun h => List.mem_append.2 (.inl h)
  have inb : ∀ {y}, y ∈ b → y ∈ a ++ b := fun h => List.mem_append.2 (.inr h)
  rcases List.eq_nil_or_concat ts with rfl | ⟨ts', T, rfl⟩
  · have hn : ∀ x ∈ a ++ b, False := fun x h => by
      have := (hmem x.f0).2 ⟨x, h, .inl rfl⟩
      cases this
    refine ⟨⟨fun y hy => (by cases hy), List.Pairwise.nil⟩, fun t => ⟨fun h => (inN_nil t h).elim, fun h => ?_⟩⟩
    rw [pH_no (isIn_no fun y hy => (hn y (ina hy)).elim) (isIn_no fun y hy => (hn y (inb hy)).elim)] at h
    cases h
  rw [List.concat_eq_append] at t1 hmem ⊢
  obtain ⟨p1, _, p3⟩ := List.pairwise_append.1 t1
  have hlt : ∀ t ∈ ts', t < T := fun t ht => p3 t ht T (by simp)
  have hTm : T ∈ ts' ++ [T] := by simp
  have hmax : ∀ t ∈ ts' ++ [T], t ≤ T := fun t ht => by
    rcases List.mem_append.1 ht with h | h
    · have := hlt t h; omega
    · rw [List.mem_singleton.1 h]; exact Int.le_refl _
  have hhi : ∀ y ∈ a ++ b, y.f1 < T := fun y hy => by
    have := hmax _ ((hmem (y.f1 + 1)).2 ⟨y, hy, .inr rfl⟩)
    omega
  have hPhi : ∀ t, T ≤ t → pH how a b t = false := fun t ht => pH_no (isIn_no fun y hy h => by have := hhi y (ina hy); omega) (isIn_no fun y hy h => by have := hhi y (inb hy); omega)
  have hTb : T ≤ 1099511627777 := by
    obtain ⟨x, hm, e⟩ := (hmem T).1 hTm
    have := hx x hm
    omega
  have hts' : ∀ t ∈ ts', 0 ≤ t ∧ t ≤ T - 1 := fun t ht => by
    obtain ⟨x, hm, e⟩ := (hmem t).1 (List.mem_append.2 (.inl ht))
    have := hx x hm
    have := hlt t ht
    omega
  rw [turn_end _ T (hPhi T (Int.le_refl _)) ts' none]
  have hs := Turn.turn_sound (pH how a b) (T - 1) (by omega) ts' none none p1 hts' (fun s hs => by cases hs) (fun u hu => by cases hu)
  refine ⟨(sound_none _).1 ((Turn.snd_iff _ none (fun u hu => by cases hu)).2 hs), fun t => ?_⟩
  rw [← inR_N, Turn.turn_has (pH how a b) (T - 1) t ts' none p1 (fun u hu => (hts' u hu).2) (fun s hs => by cases hs)]
  by_cases h1 : T ≤ t
  · rw [hPhi t h1]
    exact ⟨fun h => (by have := h.2.1; omega), fun h => (by cases h)⟩
  by_cases h2 : ∃ u ∈ ts', u ≤ t
  · have e := Turn.last_eq (pH how a b) t ts' (none : Option Int).isSome p1 h2 (fun u hu hut hno => by
      have key : ∀ y ∈ a ++ b, ∀ v, (v = y.f0 ∨ v = y.f1 + 1) → u < v → t < v := fun y hy v hv huv => by
        rcases List.mem_append.1 ((hmem v).2 ⟨y, hy, hv⟩) with h | h
        · exact hno v h huv
        · rw [List.mem_singleton.1 h]; omega
      have ea : isIn a u = isIn a t := isIn_same hut (fun y hy => key y (ina hy))
      have eb : isIn b u = isIn b t := isIn_same hut (fun y hy => key y (inb hy))
      unfold pH
      rw [ea, eb])
    rw [e]
    exact ⟨fun h => h.2.2, fun h => ⟨trivial, by omega, h⟩⟩
  · have e : Turn.lastP (pH how a b) (none : Option Int).isSome ts' t = false := Turn.last_lt _ _ t ts' (fun u hu => Int.not_le.1 (fun hh => h2 ⟨u, hu, hh⟩))
    have key : ∀ y ∈ a ++ b, ¬ (y.f0 ≤ t ∧ t ≤ y.f1) := fun y hy h => by
      rcases List.mem_append.1 ((hmem y.f0).2 ⟨y, hy, .inl rfl⟩) with g | g
      · exact h2 ⟨_, g, h.1⟩
      · rw [List.mem_singleton.1 g] at h; omega
    rw [e, pH_no (isIn_no fun y hy => key y (ina hy)) (isIn_no fun y hy => key y (inb hy))]
    exact ⟨fun h => (by cases h.2.2), fun h => (by cases h)⟩
theorem rowV_is {how : Int} {a b : List Iv} {N : List Rn} (hx : ∀ x ∈ a ++ b, 0 ≤ x.f0 ∧ x.f0 ≤ x.f1 ∧ x.f1 ≤ 1099511627776) (hN : Snd N) (h : ∀ t, inN t N ↔ pH how a b t = true) : rowV how a b = N.map ivOf := by
  obtain ⟨r1, r2⟩ := rowV_ok how a b hx
  have e := Snd.one _ _ r1 hN (fun t => (r2 t).trans (h t).symm)
  rw [← e, ivs_back]
theorem okI_bnd {a : List Iv} (ha : okI a) : ∀ x ∈ a, 0 ≤ x.f0 ∧ x.f0 ≤ x.f1 ∧ x.f1 ≤ 1099511627776 := fun x hx => ha.2.1 (runOf x) (List.mem_map_of_mem hx)
theorem okI_bnd2 {a b : List Iv} (ha : okI a) (hb : okI b) : ∀ x ∈ a ++ b, 0 ≤ x.f0 ∧ x.f0 ≤ x.f1 ∧ x.f1 ≤ 1099511627776 := fun x hx => (List.mem_append.1 hx).elim (okI_bnd ha x) (okI_bnd hb x)
def fin9 (o : List Iv) : List Iv × Int := if 1024 < o.length then ([], 11) else (o, 0)
theorem fin9_map (N : List Rn) : fin9 (N.map ivOf) = finR N := by
  unfold fin9 finR
  rw [List.length_map]
def setV (how : Int) (a b : List Iv) : List Iv × Int := if okI a ∧ okI b then fin9 (rowV how a b) else ([], 2)
theorem rset_ev (how : Int) (a b : List Iv) : Ev (fun k => spoorref19_set.f k how a b) (setV how a b) := by
  simp only [spoorref19_set.f]
  refine Ev.bind (rcheck_ev a) ?_
  have no : Ev (fun k => spoorref19_set.j0 k how a b true) ([], 2) := by
    refine Ev.succ ?_
    simp only [spoorref19_set.j0]
    exact Ev.pos trivial (Ev.const rfl)
  unfold setV
  by_cases ha : okI a
  case neg =>
    rw [if_neg ha, if_neg (fun h => ha h.1)]
    exact Ev.neg (by decide) no
  rw [if_pos ha]
  refine Ev.pos rfl (Ev.bind (rcheck_ev b) ?_)
  by_cases hb : okI b
  case neg =>
    rw [if_neg hb, if_neg (fun h => hb h.2)]
    exact no
  rw [if_pos hb, if_pos ⟨ha, hb⟩]
  refine Ev.succ ?_
  simp only [spoorref19_set.j0]
  refine Ev.neg (by decide) (Ev.bind (rrow_ev how a b ha.1 hb.1 (okI_bnd2 ha hb)) ?_)
  unfold fin9
  by_cases c : 1024 < (rowV how a b).length
  · rw [if_pos c]
    exact Ev.pos (by omega) (Ev.const rfl)
  · rw [if_neg c]
    exact Ev.neg (by omega) (Ev.const rfl)
def orV (a b : List Iv) : List Iv × Int := if okI a ∧ okI b then finR (joinR ((a ++ b).map runOf)) else ([], 2)
theorem orV_ev (a b : List Iv) : Ev (fun k => ivl_Or.f k a b) (orV a b) := by
  simp only [ivl_Or.f]
  refine Ev.bind (rows2_ev a b) ?_
  unfold orV
  by_cases h : okI a ∧ okI b
  · rw [if_pos h, if_pos h]
    have h1 := h.1.1
    have h2 := h.2.1
    refine Ev.neg (by decide) (Ev.bind (runs_ev (a ++ b) (by rw [List.length_append]; omega)) (Ev.pos ⟨by omega, by rw [List.length_map, List.length_append]; omega, List.all_eq_true.2 (fun y hy => decide_eq_true ?_)⟩ (toldR_ev _)))
    obtain ⟨x, hx, rfl⟩ := List.mem_map.1 hy
    exact okI_bnd2 h.1 h.2 x hx
  · rw [if_neg h, if_neg h]
    exact Ev.pos (by decide) (Ev.const rfl)
theorem or_same (a b : List Iv) : setV 0 a b = orV a b := by
  unfold setV orV
  by_cases h : okI a ∧ okI b
  case neg => rw [if_neg h, if_neg h]
  rw [if_pos h, if_pos h]
  have hx := okI_bnd2 h.1 h.2
  obtain ⟨j1, j2⟩ := joinR_ok (l := (a ++ b).map runOf) (fun y hy => by
    obtain ⟨x, hm, rfl⟩ := List.mem_map.1 hy
    exact hx x hm)
  rw [rowV_is (how := 0) hx j1 (fun t => by
    have e : pH 0 a b t = (isIn a t || isIn b t) := rfl
    rw [j2 t, e, Bool.or_eq_true, isIn_iff, isIn_iff, List.map_append, inN_app]), fin9_map]
theorem and_same (a b : List Iv) : setV 1 a b = andV a b := by
  unfold setV andV
  by_cases h : okI a ∧ okI b
  case neg => rw [if_neg h, if_neg h]
  rw [if_pos h, if_pos h]
  obtain ⟨m1, m2, _⟩ := meetN_ok (a.length + b.length) (a.map runOf) (b.map runOf) (by simp) h.1.2 h.2.2
  rw [rowV_is (how := 1) (okI_bnd2 h.1 h.2) m1 (fun t => by
    have e : pH 1 a b t = (isIn a t && isIn b t) := rfl
    rw [m2 t, e, Bool.and_eq_true, isIn_iff, isIn_iff]), fin9_map]
theorem not_same (a : List Iv) (x : Iv) : setV 2 [x] a = notV a x := by
  unfold setV notV
  by_cases h : okI a ∧ okI [x]
  case neg => rw [if_neg h, if_neg (fun hh => h ⟨hh.2, hh.1⟩)]
  rw [if_pos h, if_pos ⟨h.2, h.1⟩]
  have hsl : Snd (a.map runOf) := h.1.2
  have hsx : Snd [runOf x] := h.2.2
  obtain ⟨g1, g2, g3⟩ := gapsL_ok (a.map runOf) 0 (Int.le_refl _) (by decide) hsl (fun y hy => (hsl.1 y hy).1)
  obtain ⟨m1, m2, _⟩ := meetN_ok ((gapsL 0 (a.map runOf)).length + 1) (gapsL 0 (a.map runOf)) [runOf x] (by simp) g1 hsx
  have h4 := hsx.1 (runOf x) (by simp)
  unfold okR at h4
  rw [rowV_is (how := 2) (okI_bnd2 h.2 h.1) m1 (fun t => by
    have e : pH 2 [x] a t = (isIn [x] t && !isIn a t) := rfl
    have e2 : isIn [x] t = true ↔ inN t [runOf x] := isIn_iff [x] t
    rw [m2 t, g2 t, e, Bool.and_eq_true, e2, Bool.not_eq_true', ← Bool.not_eq_true, isIn_iff]
    have hw : inN t [runOf x] → 0 ≤ t ∧ t ≤ 1099511627776 := fun h => by
      have h3 := (inN_one t (runOf x)).1 h
      omega
    exact ⟨fun ⟨⟨_, _, h3⟩, h⟩ => ⟨h, h3⟩, fun ⟨h, h3⟩ => ⟨⟨(hw h).1, (hw h).2, h3⟩, h⟩⟩), fin9_map]
theorem rmake_l (l : List Iv) (hl : l.length ≤ 1024) : ∀ (r : List Iv) (i : Nat), l.drop i = r → (∀ x ∈ l.take i, 0 ≤ x.f0 ∧ x.f0 ≤ x.f1 ∧ x.f1 ≤ 1099511627776) →
    Ev (fun k => spoorref19_Make.l0 k l l (l.length : Int) (i : Int)) (if 0 ≤ badFrom i r then ([], 2) else (rowV 0 l [], 0))
  | [], i, hd, hp => by
    have h1 : l.length ≤ i := List.drop_eq_nil_iff.1 hd
    rw [List.take_of_length_le h1] at hp
    refine Ev.succ ?_
    simp only [spoorref19_Make.l0]
    refine Ev.neg (by omega) (Ev.bind (rrow_ev 0 l [] hl (Nat.zero_le _) (fun x hx => hp x (by simpa using hx))) (Ev.const ?_))
    rw [if_neg (by simp [badFrom])]
  | x :: r, i, hd, hp => by
    have hlt := dlt hd
    have e1 : wrap64 ((i : Int) + 1) = ((i + 1 : Nat) : Int) := by rw [w64 (by omega) (by omega)]; omega
    have hxi : l[i]? = some x := by rw [← List.head?_drop, hd]; rfl
    refine Ev.succ ?_
    simp only [spoorref19_Make.l0, rdI hd, one_ev]
    refine Ev.pos (by omega) (Ev.pos (by omega) (Ev.pos (by omega) (Ev.bind (Ev.const rfl) ?_)))
    by_cases c : 0 ≤ x.f0 ∧ x.f0 ≤ x.f1 ∧ x.f1 ≤ 1099511627776
    · have hb : ¬ badI x = true := fun h => (badI_iff x).1 h c
      have eb : badFrom i (x :: r) = badFrom (i + 1) r := by simp only [badFrom, if_neg hb]
      rw [decide_eq_true c, e1, eb]
      refine Ev.pos rfl (rmake_l l hl r (i + 1) (dnext hd) (fun y hy => ?_))
      rw [List.take_add_one, hxi] at hy
      rcases List.mem_append.1 hy with h | h
      · exact hp y h
      · have e : y = x := by simpa using h
        rw [e]
        exact c
    · have hb : badI x = true := (badI_iff x).2 c
      have eb : badFrom i (x :: r) = (i : Int) := by simp only [badFrom, if_pos hb]
      rw [decide_eq_false c, eb, if_pos (by omega)]
      exact Ev.neg (by decide) (Ev.const rfl)
theorem make_same (l : List Iv) : Ev (fun k => spoorref19_Make.f k l) (makeI l) := by
  simp only [spoorref19_Make.f]
  unfold makeI
  by_cases h : 1024 < l.length
  · rw [if_pos h]
    exact Ev.pos (by omega) (Ev.const rfl)
  · rw [if_neg h]
    refine Ev.neg (by omega) (Ev.to (rmake_l l (by omega) l 0 rfl (fun x hx => by simp at hx)) ?_)
    by_cases b : 0 ≤ badFrom 0 l
    · rw [if_pos b, if_pos b]
    · rw [if_neg b, if_neg b]
      have hx : ∀ x ∈ l, 0 ≤ x.f0 ∧ x.f0 ≤ x.f1 ∧ x.f1 ≤ 1099511627776 := fun x hx => by
        have hn : ¬ badI x = true := fun hb => b ((bad_iff l 0).2 ⟨x, hx, hb⟩)
        rw [badI_iff] at hn
        exact Decidable.not_not.1 hn
      obtain ⟨j1, j2⟩ := joinR_ok (l := l.map runOf) (fun y hy => by
        obtain ⟨x, hm, rfl⟩ := List.mem_map.1 hy
        exact hx x hm)
      have hlen := joinR_len (l.map runOf)
      rw [List.length_map] at hlen
      rw [rowV_is (how := 0) (fun x hm => hx x (by simpa using hm)) j1 (fun t => by
        have e : pH 0 l [] t = (isIn l t || isIn [] t) := rfl
        have e2 : isIn [] t = false := rfl
        rw [j2 t, e, e2, Bool.or_false, isIn_iff])]
      unfold finR
      rw [if_neg (by omega)]
theorem rhas_ev (l : List Iv) (t : Int) : Ev (fun k => spoorref19_Has.f k l t) (hasW l t) := by
  simp only [spoorref19_Has.f]
  refine Ev.bind (rcheck_ev l) ?_
  unfold hasW
  by_cases h : okI l
  · rw [if_pos h, if_pos h]
    refine Ev.pos rfl (Ev.bind (rin_ev l (by have := h.1; omega) t) (Ev.const ?_))
    have e : isIn l t = decide (0 ≤ hasFrom t 0 l) := by
      rw [Bool.eq_iff_iff, isIn_iff, decide_eq_true_eq, has_inN]
    rw [e]
  · rw [if_neg h, if_neg h]
    exact Ev.neg (by decide) (Ev.const rfl)
theorem rlong_l (l : List Iv) (hl : l.length ≤ 1024) (M : Int) (hM : M = 1099511627777) (hb : ∀ x ∈ l, 0 ≤ x.f0 ∧ x.f0 ≤ x.f1 ∧ x.f1 ≤ 1099511627776) (r : List Iv) : ∀ (i : Nat) (s : Int), l.drop i = r → 0 ≤ s → s ≤ (i : Int) * M → Ev (fun k => spoorref19_Long.l0 k s l (l.length : Int) (i : Int)) (s + sumI r, 0) := by
  induction r with
  | nil =>
    intro i s hd h0 h1
    have h1 : l.length ≤ i := List.drop_eq_nil_iff.1 hd
    refine Ev.succ ?_
    simp only [spoorref19_Long.l0]
    exact Ev.neg (by omega) (Ev.const (by simp [sumI]))
  | cons x r ih =>
    intro i s hd h0 h1
    have hlt := dlt hd
    have hx : x ∈ l := by
      have : x ∈ l.drop i := by rw [hd]; exact List.mem_cons_self ..
      exact List.mem_of_mem_drop this
    obtain ⟨b1, b2, b3⟩ := hb x hx
    refine Ev.succ ?_
    simp only [spoorref19_Long.l0, rdI hd]
    refine Ev.pos (by omega) (Ev.pos (by omega) (Ev.pos (by omega) ?_))
    have hi : (i : Int) ≤ 1024 := by omega
    have hs2 : s ≤ 1125899906843648 := by subst hM; omega
    rw [w64 (n := x.f1 - x.f0) (by omega) (by omega), w64 (n := x.f1 - x.f0 + 1) (by omega) (by omega), w64 (n := s + (x.f1 - x.f0 + 1)) (by omega) (by omega), w64 (n := (i : Int) + 1) (by omega) (by omega), show ((i : Int) + 1) = ((i + 1 : Nat) : Int) by omega]
    refine Ev.to (ih (i + 1) (s + (x.f1 - x.f0 + 1)) (dnext hd) (by omega) (by subst hM; omega)) ?_
    simp only [sumI, List.map_cons, List.sum_cons, lenI]
    rw [Int.add_assoc]
theorem rlong_ev (l : List Iv) : Ev (fun k => spoorref19_Long.f k l) (longV l) := by
  simp only [spoorref19_Long.f]
  refine Ev.bind (rcheck_ev l) ?_
  unfold longV
  by_cases h : okI l
  · rw [if_pos h, if_pos h]
    refine Ev.pos rfl (Ev.to (rlong_l l h.1 _ rfl (okI_bnd h) l 0 0 rfl (Int.le_refl _) (by omega)) ?_)
    rw [Int.zero_add]
  · rw [if_neg h, if_neg h]
    exact Ev.neg (by decide) (Ev.const rfl)
theorem finR_len (N : List Rn) : (finR N).1.length ≤ 1024 := by
  unfold finR
  by_cases c : 1024 < N.length
  · rw [if_pos c]
    exact Nat.zero_le _
  · rw [if_neg c, List.length_map]
    omega
theorem makeI_len (l : List Iv) : (makeI l).1.length ≤ 1024 := by
  unfold makeI
  split
  · exact Nat.zero_le _
  · split
    · exact Nat.zero_le _
    · exact finR_len _
theorem orV_len (a b : List Iv) : (orV a b).1.length ≤ 1024 := by
  unfold orV
  split
  · exact finR_len _
  · exact Nat.zero_le _
theorem andV_len (a b : List Iv) : (andV a b).1.length ≤ 1024 := by
  unfold andV
  split
  · exact finR_len _
  · exact Nat.zero_le _
theorem notV_len (a : List Iv) (x : Iv) : (notV a x).1.length ≤ 1024 := by
  unfold notV
  split
  · exact finR_len _
  · exact Nat.zero_le _
theorem ror_ev (a b : List Iv) : Ev (fun k => spoorref19_Or.f k a b) (orV a b) := by
  simp only [spoorref19_Or.f]
  exact Ev.bind (rset_ev 0 a b) (Ev.const (by rw [or_same]))
theorem rand_ev (a b : List Iv) : Ev (fun k => spoorref19_And.f k a b) (andV a b) := by
  simp only [spoorref19_And.f]
  exact Ev.bind (rset_ev 1 a b) (Ev.const (by rw [and_same]))
theorem rnot_ev (a : List Iv) (x0 x1 : Int) : Ev (fun k => spoorref19_Not.f k a x0 x1) (notV a ⟨x0, x1⟩) := by
  simp only [spoorref19_Not.f]
  exact Ev.bind (rset_ev 2 [⟨x0, x1⟩] a) (Ev.const (by rw [not_same]))
end Go.Proofs.Ytkjjidanakmkeaa.Ivl
end
section
namespace Go.Proofs.Ytkjjidanakmkeaa.Pure
set_option linter.unusedVariables false
open Go.RowKit Go.Proofs.Ytkjjidanakmkeaa.Q Go.Proofs.YtkjjidanakmkeaaW.PrintWords Go.Proofs.YtkjjidanakmkeaaW.PrintLast Go.Proofs.Ytkjjidanakmkeaa.Base Go.Proofs.Ytkjjidanakmkeaa.Ivl
theorem lives19_ev4 : Ev spoorlaw19_lives.f true := Ev.of spoorlaw19_lives.mono (k := 200) (by decide +kernel)
theorem IvlMakes : spoorlaw19_IvlMakes.Pure := by
  intro l t h0 h1 hB
  clear h0 h1 hB
  refine Ev.rounds (g := fun k => spoorlaw19_IvlMakes.f k l t) (r := true) ?_
  simp only [spoorlaw19_IvlMakes.f]
  refine Ev.bind (a := !(bigF l || bigF l)) (Ev.const rfl) ?_
  cases bigF l
  case true => exact Ev.neg (by decide) (Ev.bind lives19_ev4 (Ev.const rfl))
  refine Ev.pos rfl (Ev.bind (makeI_ev l) (Ev.bind (make_same l) (Ev.bind (hasW_ev l t) (Ev.bind (rhas_ev l t) (Ev.bind (longV_ev l) (Ev.bind (rlong_ev l) (Ev.bind lives19_ev4 (Ev.pos rfl ?_))))))))
  exact Ev.bind (same19_ev _ (by have := makeI_len l; omega)) (Ev.pos rfl (Ev.pos rfl (Ev.bind (chk_ev l) (Ev.bind (rcheck_ev l) (Ev.pos rfl (Ev.pos (by simp) (Ev.pos rfl (Ev.pos rfl (Ev.const (by simp))))))))))
end Go.Proofs.Ytkjjidanakmkeaa.Pure
end
section
namespace Go.Proofs.Ytkjjidanakmkeaa.ivlMakes
open Go.ChangeShapes Go.WideShapes Go.ChangeAt Go.RowKit Go.Proofs.Ytkjjidanakmkeaa.Open Go.Proofs.Ytkjjidanakmkeaa.Q
open Go.ChangeMaps (open_string shut_string)
set_option linter.unusedVariables false
theorem own : ownKnob Try.prog.godebug = none := by kernel_rfl
theorem laidOut : laidOutB Try.prog = true := by kernel_rfl
set_option maxRecDepth 100000 in
theorem contract (H : Type) (enc : TypeId × Value → H) (W : World) (base : Nat) (args : Array Value) (ds gs : List (DataW H)) (before : List MemPlace)
    (hval : ∀ (j : Nat) t v, Try.f3.params[j]? = some t → args[j]? = some v → Value.okWide Try.prog W .any base t v)
    (hW : DataW.Whole enc Try.prog Try.f3.params.toList Rows.ivlMakesSpec.vars false W args.toList ds gs before) (hsz0 : (DataW.weightsEach Try.prog (Try.f3.params.toList ++ Rows.ivlMakesSpec.plain.varTypes Try.prog) (ds ++ gs)).all (· ≤ reachBytes) = true) :
    Calls Try.prog 3 args W fun e W' => ∃ v, e = .returned v ∧ Rows.ivlMakesSpec.post enc Try.prog Try.f3 false true false false W args v W' := by
  have hW' := hW
  obtain ⟨p, q, hA0, hV, rfl, hfz, hnd⟩ := hW
  have hA : DataW.TrodAll enc Try.prog W 0 (fun _ => true) true Try.f3.params.toList args.toList ds p := hA0
  have hsz : (DataW.weightsEach Try.prog (Try.f3.params.toList ++ Rows.ivlMakesSpec.plain.varTypes Try.prog) (ds ++ gs)).all (· ≤ reachBytes) = true := hsz0
  rw [Try.params3] at hA hval hsz
  obtain ⟨v0, vs0, d0, ds0, p0, q0, hargs, rfl, rfl, h0, r0⟩ := trodAll_cons hA
  obtain ⟨v1, vs1, d1, ds1, p1, q1, rfl, rfl, rfl, h1, r1⟩ := trodAll_cons r0
  obtain ⟨rfl, rfl, rfl⟩ := trodAll_nil r1
  obtain rfl : args = #[v0, v1] := by cases args; simp_all
  obtain ⟨rfl, rfl⟩ := trodVars_none hV
  have k0 := h0
  have lt0 : ∀ x ∈ p0, x.block < W.heap.size := by obtain ⟨m, hm⟩ := k0; exact DataW.trod_lt m _ _ _ hm
  obtain ⟨fu0, hf0⟩ := h0
  obtain ⟨b0, K0, o0, u0⟩ := (opens_slice opn36 Try.underlying22 (by kernel_rfl) 36) enc W _ _ _ _ _ hf0
  obtain ⟨A0, c0, z0, lc0, C0⟩ := K0
  obtain rfl : v0 = .slice A0 b0.length c0 := by obtain ⟨x, y, z, rfl⟩ := okWide_slice Try.underlying22 (hval 0 22 v0 rfl rfl); exact (List.cons.inj (show [Value.slice x y z] = [Value.slice A0 b0.length c0] from z0)).1
  have k1 := h1
  have lt1 : ∀ x ∈ p1, x.block < W.heap.size := by obtain ⟨m, hm⟩ := k1; exact DataW.trod_lt m _ _ _ hm
  obtain ⟨fu1, hf1⟩ := h1
  obtain ⟨b1, K1, o1, u1⟩ := (opens_int Try.underlying2) enc W _ _ _ _ _ hf1
  obtain rfl : v1 = .int .i64 b1 := by obtain ⟨x, rfl⟩ := okWide_int Try.underlying2 (hval 1 2 v1 rfl rfl); exact (List.cons.inj (show [Value.int .i64 x] = [Value.int .i64 b1] from K1)).1
  have sz0 : b0.length * 16 ≤ 140737488351232 := sized_row hsz (j := 0) (t := 22) rfl rfl Try.underlying22 (by kernel_rfl) k0
  obtain ⟨k, h⟩ := Pure.IvlMakes b0 b1 o0 o1 sz0
  refine (spoorlaw19_IvlMakes.calls k A0 c0 b0 b1 true W C0 lc0 h).mono fun e W' ⟨he, hd⟩ => ?_
  have bel := hd
  subst he
  exact ⟨_, rfl, _, _, _, [], _, [], hW', trodAll_mk1 (shut_bool Try.underlying4 _), (trodAll_cons_mk (Below.trod laidOut (by kernel_rfl) (of_decide_eq_true (by kernel_rfl)) k0 bel lt0) (trodAll_cons_mk (Below.trod laidOut (by kernel_rfl) (of_decide_eq_true (by kernel_rfl)) k1 bel lt1) trodAll_mk0)), rfl, bel.frame _, fun h => by cases h⟩
set_option maxRecDepth 100000 in
theorem lifted (os : Os) (started : os.Started) (H : Type) (enc : TypeId × Value → H) :
    ReturnsInHanded {} Try.checked os 3 .any (Rows.ivlMakesSpec.pre6 enc Try.prog Try.f3 Rows.ivlMakesRow.domain false) (Rows.ivlMakesSpec.post enc Try.prog Try.f3 false true false false) := by
  refine returnsInHanded_of_change_sized (C := Try.checked) own started (by kernel_rfl) Try.func3
    (ChangeSpec.witness6 (enc := enc) (C := Try.checked) false ⟨#[], #[.slice none 0 0, .int .i64 0], []⟩ 8 (by kernel_rfl) (by kernel_rfl) (by kernel_rfl) (by kernel_rfl)) ?_
  intro W base args ds gs before hval hW _ hsz _
  exact contract H enc W base args ds gs before hval hW hsz
theorem over : Rows.ivlMakesRow.holds Try.pinned (OpenSpec.ofChange Rows.ivlMakesSpec) :=
  OpenClaim.holds_of_wide 3 Try.f3 rfl rfl rfl rfl rfl rfl rfl ⟨rfl, rfl, rfl, rfl, rfl⟩ rfl rfl rfl rfl rfl (by kernel_rfl) Try.func3 (by kernel_rfl)
    (of_decide_eq_true (by kernel_rfl)) (by unfold Func.isWrapper; first | (rw [if_pos (by decide +kernel)]; kernel_rfl) | (rw [if_neg (by decide +kernel)]; exact ⟨rfl, rfl⟩))
    (fun os started H enc _ => lifted os started H enc)
theorem proved : Rows.IvlMakesSaid := over
#print axioms proved
end Go.Proofs.Ytkjjidanakmkeaa.ivlMakes
namespace Go.Proofs.Ytkjjidanakmkeaa
theorem ivlMakes_holds : Rows.IvlMakesSaid := ivlMakes.proved
end Go.Proofs.Ytkjjidanakmkeaa
end
