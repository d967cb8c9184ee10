-- Printed by this session's program wip/tools/mp.sh out of the translation.
import Derived.Test.YtafclgjnomocdaaQx0
import Derived.Test.YtafclgjnomocdaaQx4
import Derived.Test.YtafclgjnomocdaaQx5
import Derived.Test.YtafclgjnomocdaaQx16
import Derived.Test.YtafclgjnomocdaaQx17
import Derived.Test.YtafclgjnomocdaaQx20
namespace Go.Proofs.Ytafclgjnomocdaa.Q
open Go.RowKit Go.Proofs.YtafclgjnomocdaaW.PrintWords Go.Proofs.YtafclgjnomocdaaW.PrintLast Go.Proofs.YtafclgjnomocdaaW.PrintMore
attribute [local go_sem] max2_int min2_int max_two min_two max_three min_three max_four min_four   -- for this text's walks alone
set_option linter.unusedVariables false
set_option linter.unusedSimpArgs false

/-! ### spoorref09_Has: function 23 -/
set_option maxHeartbeats 8000000 in
set_option maxRecDepth 100000 in
theorem spoorref09_Has.calls (k : Nat) (a0_0 : Bool) (a0_1 : Int) (a0_2 : Int) (a0_3 : Int) (a1 : Bool) (a2_0 : Int) (a2_1 : Int) (r : Bool) (w : World) (h : spoorref09_Has.f k a0_0 a0_1 a0_2 a0_3 a1 a2_0 a2_1 = some r) :
  Calls Try.prog 23 #[.agg #[.bool a0_0, .int .u64 a0_1, .int .u64 a0_2, .int .i64 a0_3], .bool a1, .agg #[.int .u64 a2_0, .int .u64 a2_1]] w fun e w' => e = .returned (.bool r) ∧ Below w.heap.size w w' := by
 have hu33 := Try.underlying33
 have hu24 := Try.underlying24
 have HB := Ax (Below.refl w.heap.size w)
 have H : ((spoorref09_Check.f k a0_0 a0_1 a0_2 a0_3).bind fun t295 => (if t295 = 0 then (if (a0_0 != a1) = true then (spoorref09_Has.j0 k a1 true a0_0 a0_1 a0_2 a0_3 a2_0 a2_1) else ((spoorref09_Right.f a1 a2_0 a2_1).bind fun t296 => (spoorref09_Has.j0 k a1 (!t296) a0_0 a0_1 a0_2 a0_3 a2_0 a2_1))) else (spoorref09_Has.j0 k a1 true a0_0 a0_1 a0_2 a0_3 a2_0 a2_1))) = some r := h
 clear h
 have HC4 := Ax H
 clear H
 go_enter Try.func23, Try.ntmps23
 go_upto_region 1 with (first | ((with_reducible refine gate_dst (N := 3) rfl ?_); refine box_event ?hg (N := 3) ?hd (cs := #[.bool a0_0, .int .u64 a0_1, .int .u64 a0_2, .int .i64 a0_3]) (t := 33) ?hr ?_; (case hd => rfl); (case hg => rfl); (case hr => first | (go_simp; done) | (go_simp; rfl)); intro gb293 hg w5 hbox hb; have n0_ := Ax (below_step (bw0 HB.out) hb); have n1_ := Ax (hbox); have n2_ := Ax ((by rw [hg]; exact (below_size (bw0 HB.out)) : w.heap.size ≤ gb293)); have n3_ := Ax ((by rw [hg]; exact (below_size (bw0 HB.out)) : w.heap.size ≤ gb293)); clear HB; have HB := n0_; have BK293 := n1_; have GW293 := n2_; have GE293 := n3_; clear n0_ n1_ n2_ n3_; clear hb hbox hg) | ((with_reducible refine gate_dst (N := 5) rfl ?_); refine box_event ?hg (N := 5) ?hd (cs := #[.int .u64 a2_0, .int .u64 a2_1]) (t := 24) ?hr ?_; (case hd => rfl); (case hg => rfl); (case hr => first | (go_simp; done) | (go_simp; rfl)); intro gb294 hg w6 hbox hb; have n0_ := Ax (blk_below (g := gb293) (o := .cells #[.bool a0_0, .int .u64 a0_1, .int .u64 a0_2, .int .i64 a0_3] 33 (0, 0)) (bf0 BK293.out) hb); have n1_ := Ax (below_step (bw1 HB.out GE293.out) hb); have n2_ := Ax (hbox); have n3_ := Ax ((by rw [hg]; exact (below_size (bw1 HB.out GE293.out)) : w.heap.size ≤ gb294)); have n4_ := Ax ((by rw [hg]; exact (below_size (bw1 HB.out GE293.out)) : w.heap.size ≤ gb294)); have n5_ := Ax ((by rw [hg]; exact Nat.ne_of_lt (blk_lt (g := gb293) (o := .cells #[.bool a0_0, .int .u64 a0_1, .int .u64 a0_2, .int .i64 a0_3] 33 (0, 0)) (bf0 BK293.out)) : gb293 ≠ gb294)); have n6_ := Ax ((by rw [hg]; exact Nat.ne_of_gt (blk_lt (g := gb293) (o := .cells #[.bool a0_0, .int .u64 a0_1, .int .u64 a0_2, .int .i64 a0_3] 33 (0, 0)) (bf0 BK293.out)) : gb294 ≠ gb293)); clear BK293; clear HB; have BK293 := n0_; have HB := n1_; have BK294 := n2_; have GW294 := n3_; have GE294 := n4_; have NB293_294 := n5_; have NB294_293 := n6_; clear n0_ n1_ n2_ n3_ n4_ n5_ n6_; clear hb hbox hg))
 (try simp only [Act.put, List.setIfInBounds_toArray, List.set_cons_zero, List.set_cons_succ])
 go_cut [24] (fun v24 wc => ∃ (kq : Nat) (x24_3 : Bool), v24 = .bool x24_3 ∧ Aside0 (spoorref09_Has.j0 kq a1 x24_3 a0_0 a0_1 a0_2 a0_3 a2_0 a2_1 = some r) ∧ Aside0 (kq ≤ k) ∧ Aside0 (wc.heap[gb293]? = some (.cells #[.bool a0_0, .int .u64 a0_1, .int .u64 a0_2, .int .i64 a0_3] 33 (0, 0))) ∧ Aside0 (wc.heap[gb294]? = some (.cells #[.int .u64 a2_0, .int .u64 a2_1] 24 (0, 0))) ∧ Aside0 (Below w.heap.size w wc))
 case first =>
  have H := HC4.out
  clear HC4
  replace H := Option.bind_eq_some_iff.mp H
  obtain ⟨t295, A70, H⟩ := H
  replace H : (if t295 = 0 then (if (a0_0 != a1) = true then (spoorref09_Has.j0 k a1 true a0_0 a0_1 a0_2 a0_3 a2_0 a2_1) else ((spoorref09_Right.f a1 a2_0 a2_1).bind fun t296 => (spoorref09_Has.j0 k a1 (!t296) a0_0 a0_1 a0_2 a0_3 a2_0 a2_1))) else (spoorref09_Has.j0 k a1 true a0_0 a0_1 a0_2 a0_3 a2_0 a2_1)) = some r := H
  have A7 := Ax A70
  clear A70
  by_cases c8 : t295 = 0
  ·rw [if_pos c8] at H
   have c8b0 : (t295 == 0) = true := beq_iff_eq.mpr c8
   have c8b1 : (t295 != 0) = false := bne_eq_false_iff_eq.mpr c8
   clear c8
   (first | rw [c8b0] | (simp only [i64_w, i32_w]; rw [c8b0]) | skip)
   by_cases c9 : (a0_0 != a1) = true
   ·rw [if_pos c9] at H
    have c9b0 : (a0_0 != a1) = true := c9
    (try (have c9b1 : decide (a0_0 = a1) = false := by simpa using c9))
    (try (have c9b2 : (a0_0 == a1) = false := by simpa using c9))
    (try (have c9b3 : ¬ (a0_0 = a1) := by simpa using c9))
    clear c9
    have H' := Ax H
    clear H
    have hnb10 := NB293_294.out
    have hnc10 := NB294_293.out
    have hcz11_0 : w6.cell? ⟨gb293, 0, none⟩ = some (.bool a0_0) := (blk_cell BK293.out 0).trans rfl
    have hcz11_1 : w6.cell? ⟨gb293, 1, none⟩ = some (.int .u64 a0_1) := (blk_cell BK293.out 1).trans rfl
    have hcz11_2 : w6.cell? ⟨gb293, 2, none⟩ = some (.int .u64 a0_2) := (blk_cell BK293.out 2).trans rfl
    have hcz11_3 : w6.cell? ⟨gb293, 3, none⟩ = some (.int .i64 a0_3) := (blk_cell BK293.out 3).trans rfl
    have hfz11_0 := blk_frozen BK293.out 0
    have hfz11_1 := blk_frozen BK293.out 1
    have hfz11_2 := blk_frozen BK293.out 2
    have hfz11_3 := blk_frozen BK293.out 3
    go_wp2_with (first | ((with_reducible refine gate_callee (f := 21) rfl ?_); refine goesL_ (some 11) rfl rfl Try.func21 (by kernel_rfl) rfl #[.agg #[.bool a0_0, .int .u64 a0_1, .int .u64 a0_2, .int .i64 a0_3]] rfl gS ?_; (with_reducible refine (spoorref09_Check.calls k a0_0 a0_1 a0_2 a0_3 t295 _ A7.out).mono ?_); rintro e w12 ⟨rfl, hb⟩; refine ⟨_, rfl, ?_⟩; have n0_ := Ax (blk_below (g := gb293) (o := .cells #[.bool a0_0, .int .u64 a0_1, .int .u64 a0_2, .int .i64 a0_3] 33 (0, 0)) (bf0 BK293.out) hb); have n1_ := Ax (blk_below (g := gb294) (o := .cells #[.int .u64 a2_0, .int .u64 a2_1] 24 (0, 0)) (bf0 BK294.out) hb); have n2_ := Ax (below_step (bw2 HB.out GE293.out GE294.out) hb); clear BK293; clear BK294; clear HB; have BK293 := n0_; have BK294 := n1_; have HB := n2_; clear n0_ n1_ n2_; (try clear hb); (try clear hb2); (try clear hk); (try clear hi); have hcz13_0 : w12.cell? ⟨gb293, 0, none⟩ = some (.bool a0_0) := (blk_cell BK293.out 0).trans rfl; have hcz13_1 : w12.cell? ⟨gb293, 1, none⟩ = some (.int .u64 a0_1) := (blk_cell BK293.out 1).trans rfl; have hcz13_2 : w12.cell? ⟨gb293, 2, none⟩ = some (.int .u64 a0_2) := (blk_cell BK293.out 2).trans rfl; have hcz13_3 : w12.cell? ⟨gb293, 3, none⟩ = some (.int .i64 a0_3) := (blk_cell BK293.out 3).trans rfl; have hfz13_0 := blk_frozen BK293.out 0; have hfz13_1 := blk_frozen BK293.out 1; have hfz13_2 := blk_frozen BK293.out 2; have hfz13_3 := blk_frozen BK293.out 3))
    go_meet
    case rel => exact ⟨_, (true), rS, H', ⟨by first | omega | exact Nat.le_refl _⟩, ⟨bf0 BK293.out⟩, ⟨bf0 BK294.out⟩, ⟨bw2 HB.out GE293.out GE294.out⟩⟩
   ·rw [if_neg c9] at H
    have c9b0 : (a0_0 != a1) = false := by simpa using c9
    (try (have c9b1 : decide (a0_0 = a1) = true := by simpa using c9))
    (try (have c9b2 : (a0_0 == a1) = true := by simpa using c9))
    clear c9
    replace H := Option.bind_eq_some_iff.mp H
    obtain ⟨t296, A140, H⟩ := H
    replace H : (spoorref09_Has.j0 k a1 (!t296) a0_0 a0_1 a0_2 a0_3 a2_0 a2_1) = some r := H
    have A14 := Ax A140
    clear A140
    have H' := Ax H
    clear H
    have hnb15 := NB293_294.out
    have hnc15 := NB294_293.out
    have hcz16_0 : w6.cell? ⟨gb293, 0, none⟩ = some (.bool a0_0) := (blk_cell BK293.out 0).trans rfl
    have hcz16_1 : w6.cell? ⟨gb293, 1, none⟩ = some (.int .u64 a0_1) := (blk_cell BK293.out 1).trans rfl
    have hcz16_2 : w6.cell? ⟨gb293, 2, none⟩ = some (.int .u64 a0_2) := (blk_cell BK293.out 2).trans rfl
    have hcz16_3 : w6.cell? ⟨gb293, 3, none⟩ = some (.int .i64 a0_3) := (blk_cell BK293.out 3).trans rfl
    have hfz16_0 := blk_frozen BK293.out 0
    have hfz16_1 := blk_frozen BK293.out 1
    have hfz16_2 := blk_frozen BK293.out 2
    have hfz16_3 := blk_frozen BK293.out 3
    go_wp2_with (first | ((with_reducible refine gate_callee (f := 21) rfl ?_); refine goesL_ (some 11) rfl rfl Try.func21 (by kernel_rfl) rfl #[.agg #[.bool a0_0, .int .u64 a0_1, .int .u64 a0_2, .int .i64 a0_3]] rfl gS ?_; (with_reducible refine (spoorref09_Check.calls k a0_0 a0_1 a0_2 a0_3 t295 _ A7.out).mono ?_); rintro e w17 ⟨rfl, hb⟩; refine ⟨_, rfl, ?_⟩; have n0_ := Ax (blk_below (g := gb293) (o := .cells #[.bool a0_0, .int .u64 a0_1, .int .u64 a0_2, .int .i64 a0_3] 33 (0, 0)) (bf0 BK293.out) hb); have n1_ := Ax (blk_below (g := gb294) (o := .cells #[.int .u64 a2_0, .int .u64 a2_1] 24 (0, 0)) (bf0 BK294.out) hb); have n2_ := Ax (below_step (bw2 HB.out GE293.out GE294.out) hb); clear BK293; clear BK294; clear HB; have BK293 := n0_; have BK294 := n1_; have HB := n2_; clear n0_ n1_ n2_; (try clear hb); (try clear hb2); (try clear hk); (try clear hi); have hcz18_0 : w17.cell? ⟨gb293, 0, none⟩ = some (.bool a0_0) := (blk_cell BK293.out 0).trans rfl; have hcz18_1 : w17.cell? ⟨gb293, 1, none⟩ = some (.int .u64 a0_1) := (blk_cell BK293.out 1).trans rfl; have hcz18_2 : w17.cell? ⟨gb293, 2, none⟩ = some (.int .u64 a0_2) := (blk_cell BK293.out 2).trans rfl; have hcz18_3 : w17.cell? ⟨gb293, 3, none⟩ = some (.int .i64 a0_3) := (blk_cell BK293.out 3).trans rfl; have hfz18_0 := blk_frozen BK293.out 0; have hfz18_1 := blk_frozen BK293.out 1; have hfz18_2 := blk_frozen BK293.out 2; have hfz18_3 := blk_frozen BK293.out 3; have hcz19_0 : w17.cell? ⟨gb294, 0, none⟩ = some (.int .u64 a2_0) := (blk_cell BK294.out 0).trans rfl; have hcz19_1 : w17.cell? ⟨gb294, 1, none⟩ = some (.int .u64 a2_1) := (blk_cell BK294.out 1).trans rfl; have hfz19_0 := blk_frozen BK294.out 0; have hfz19_1 := blk_frozen BK294.out 1) | (go_at_call 13; (with_reducible refine (spoorref09_Right.calls a1 a2_0 a2_1 t296 _ A14.out).mono ?_); rintro e w20 ⟨rfl, hb⟩; have n0_ := Ax (blk_below (g := gb293) (o := .cells #[.bool a0_0, .int .u64 a0_1, .int .u64 a0_2, .int .i64 a0_3] 33 (0, 0)) (bf0 BK293.out) hb); have n1_ := Ax (blk_below (g := gb294) (o := .cells #[.int .u64 a2_0, .int .u64 a2_1] 24 (0, 0)) (bf0 BK294.out) hb); have n2_ := Ax (below_step (bw2 HB.out GE293.out GE294.out) hb); clear BK293; clear BK294; clear HB; have BK293 := n0_; have BK294 := n1_; have HB := n2_; clear n0_ n1_ n2_; (try clear hb); (try clear hb2); (try clear hk); (try clear hi)))
    go_meet
    case rel => exact ⟨_, (!t296), rS, H', ⟨by first | omega | exact Nat.le_refl _⟩, ⟨bf0 BK293.out⟩, ⟨bf0 BK294.out⟩, ⟨bw2 HB.out GE293.out GE294.out⟩⟩
  ·rw [if_neg c8] at H
   have c8b0 : (t295 == 0) = false := beq_eq_false_iff_ne.mpr c8
   have c8b1 : (t295 != 0) = true := bne_iff_ne.mpr c8
   (first | rw [c8b0] | (simp only [i64_w, i32_w]; rw [c8b0]) | skip)
   have H' := Ax H
   clear H
   have hnb21 := NB293_294.out
   have hnc21 := NB294_293.out
   have hcz22_0 : w6.cell? ⟨gb293, 0, none⟩ = some (.bool a0_0) := (blk_cell BK293.out 0).trans rfl
   have hcz22_1 : w6.cell? ⟨gb293, 1, none⟩ = some (.int .u64 a0_1) := (blk_cell BK293.out 1).trans rfl
   have hcz22_2 : w6.cell? ⟨gb293, 2, none⟩ = some (.int .u64 a0_2) := (blk_cell BK293.out 2).trans rfl
   have hcz22_3 : w6.cell? ⟨gb293, 3, none⟩ = some (.int .i64 a0_3) := (blk_cell BK293.out 3).trans rfl
   have hfz22_0 := blk_frozen BK293.out 0
   have hfz22_1 := blk_frozen BK293.out 1
   have hfz22_2 := blk_frozen BK293.out 2
   have hfz22_3 := blk_frozen BK293.out 3
   go_wp2_with (first | ((with_reducible refine gate_callee (f := 21) rfl ?_); refine goesL_ (some 11) rfl rfl Try.func21 (by kernel_rfl) rfl #[.agg #[.bool a0_0, .int .u64 a0_1, .int .u64 a0_2, .int .i64 a0_3]] rfl gS ?_; (with_reducible refine (spoorref09_Check.calls k a0_0 a0_1 a0_2 a0_3 t295 _ A7.out).mono ?_); rintro e w23 ⟨rfl, hb⟩; refine ⟨_, rfl, ?_⟩; have n0_ := Ax (blk_below (g := gb293) (o := .cells #[.bool a0_0, .int .u64 a0_1, .int .u64 a0_2, .int .i64 a0_3] 33 (0, 0)) (bf0 BK293.out) hb); have n1_ := Ax (blk_below (g := gb294) (o := .cells #[.int .u64 a2_0, .int .u64 a2_1] 24 (0, 0)) (bf0 BK294.out) hb); have n2_ := Ax (below_step (bw2 HB.out GE293.out GE294.out) hb); clear BK293; clear BK294; clear HB; have BK293 := n0_; have BK294 := n1_; have HB := n2_; clear n0_ n1_ n2_; (try clear hb); (try clear hb2); (try clear hk); (try clear hi)))
   go_meet
   case rel => exact ⟨_, (true), rS, H', ⟨by first | omega | exact Nat.le_refl _⟩, ⟨bf0 BK293.out⟩, ⟨bf0 BK294.out⟩, ⟨bw2 HB.out GE293.out GE294.out⟩⟩
 case rest =>
  clear HC4
  try clear c1
  try clear c2
  try clear p2
  try clear c8
  try clear c8b0
  try clear c8b1
  try clear c9
  try clear c9b0
  try clear c9b1
  try clear c9b2
  try clear c10
  try clear c15
  try clear c21
  try clear c23
  try clear hcz11_0
  try clear hcz11_1
  try clear hcz11_2
  try clear hcz11_3
  try clear hcz13_0
  try clear hcz13_1
  try clear hcz13_2
  try clear hcz13_3
  try clear hcz16_0
  try clear hcz16_1
  try clear hcz16_2
  try clear hcz16_3
  try clear hcz18_0
  try clear hcz18_1
  try clear hcz18_2
  try clear hcz18_3
  try clear hcz19_0
  try clear hcz19_1
  try clear hcz22_0
  try clear hcz22_1
  try clear hcz22_2
  try clear hcz22_3
  try clear hfz11_0
  try clear hfz11_1
  try clear hfz11_2
  try clear hfz11_3
  try clear hfz13_0
  try clear hfz13_1
  try clear hfz13_2
  try clear hfz13_3
  try clear hfz16_0
  try clear hfz16_1
  try clear hfz16_2
  try clear hfz16_3
  try clear hfz18_0
  try clear hfz18_1
  try clear hfz18_2
  try clear hfz18_3
  try clear hfz19_0
  try clear hfz19_1
  try clear hfz22_0
  try clear hfz22_1
  try clear hfz22_2
  try clear hfz22_3
  obtain ⟨kq, x24_3, rfl, HA, HJ3, BK293, BK294, HB⟩ := hcut
  cases kq with
  | zero => exact absurd HA.out (by simp [spoorref09_Has.j0])
  | succ kj3 =>
   have H := HA.out
   clear HA
   simp only [spoorref09_Has.j0] at H
   by_cases c24 : x24_3 = true
   ·subst c24
    have H1 : (some false) = some r := by rw [if_pos rfl] at H; exact H
    clear H
    have H := H1
    clear H1
    obtain rfl := Option.some.inj H
    go_wp2
    go_ret
    exact ⟨eS, bw2 HB.out GE293.out GE294.out⟩
   ·replace c24 := Bool.eq_false_iff.mpr c24
    subst c24
    have H1 : ((spoorref09_bits.f kj3 a1 a0_1 a0_2).bind fun t297 => ((spoorref09_bits.f kj3 a1 a2_0 a2_1).bind fun t300 => (spoorref09_Has.l0 kj3 t297 t300 0 a0_0 a0_1 a0_2 a0_3))) = some r := by rw [if_neg (show ¬ (false = true) by decide)] at H; exact H
    clear H
    have H := H1
    clear H1
    replace H := Option.bind_eq_some_iff.mp H
    obtain ⟨t297, A250, H⟩ := H
    replace H : ((spoorref09_bits.f kj3 a1 a2_0 a2_1).bind fun t300 => (spoorref09_Has.l0 kj3 t297 t300 0 a0_0 a0_1 a0_2 a0_3)) = some r := H
    have A25 := Ax A250
    clear A250
    replace H := Option.bind_eq_some_iff.mp H
    obtain ⟨t300, A260, H⟩ := H
    replace H : (spoorref09_Has.l0 kj3 t297 t300 0 a0_0 a0_1 a0_2 a0_3) = some r := H
    have A26 := Ax A260
    clear A260
    have H' := Ax H
    clear H
    try go_wp2
    have n0_ := Ax (blk_drew BK293.out)
    have n1_ := Ax (blk_drew BK294.out)
    have n2_ := Ax (below_drew1 HB.out)
    clear BK293
    clear BK294
    clear HB
    have BK293 := n0_
    have BK294 := n1_
    have HB := n2_
    clear n0_ n1_ n2_
    refine start_ (n := 9) (S := fun w' => w'.cell? ⟨gb293, 0, none⟩ = some (.bool a0_0) ∧ w'.cell? ⟨gb293, 1, none⟩ = some (.int .u64 a0_1) ∧ w'.cell? ⟨gb293, 2, none⟩ = some (.int .u64 a0_2) ∧ w'.cell? ⟨gb293, 3, none⟩ = some (.int .i64 a0_3) ∧ w'.cell? ⟨gb294, 0, none⟩ = some (.int .u64 a2_0) ∧ w'.cell? ⟨gb294, 1, none⟩ = some (.int .u64 a2_1)) (ds := []) #[fa,fa,fa,fa,fa,fa,fa,fa,fa] (by kernel_rfl) rfl rfl ⟨(blk_cell BK293.out 0).trans rfl, (blk_cell BK293.out 1).trans rfl, (blk_cell BK293.out 2).trans rfl, (blk_cell BK293.out 3).trans rfl, (blk_cell BK294.out 0).trans rfl, (blk_cell BK294.out 1).trans rfl⟩ (fun hHeld => ?_); refine with_tabW spoorref09_Has.tab3 spoorref09_Has.bits3 (fun HT_ HW_ => ?_)
    generalize wc.drew = w27 at BK293 BK294 HB hHeld ⊢
    refine pure_ (i := 0) (N := some 25) (v := ?_) (a' := ?_) #[tr,fa,fa,fa,fa,fa,fa,fa,fa] rfl rfl (any_of HT_.out (by kernel_rfl)) (fun _ _ _ h => h) (Or.inl ⟨by rfl, ?_⟩) ?_ ?_
    rotate_left
    ·intro w'
     go_simp
     with_reducible rfl
    rotate_left
    ·simp only [sP]
     rfl
    refine pure_ (i := 1) (N := some 26) (v := ?_) (a' := ?_) #[tr,tr,fa,fa,fa,fa,fa,fa,fa] rfl rfl (any_of HT_.out (by kernel_rfl)) (fun _ _ _ h => h) (Or.inl ⟨by rfl, ?_⟩) ?_ ?_
    rotate_left
    ·intro w'
     go_simp
     with_reducible rfl
    rotate_left
    ·simp only [sP]
     rfl
    refine pure_ (i := 4) (N := some 29) (v := ?_) (a' := ?_) #[tr,tr,fa,fa,tr,fa,fa,fa,fa] rfl rfl (any_of HT_.out (by kernel_rfl)) (fun _ _ _ h => h) (Or.inl ⟨by rfl, ?_⟩) ?_ ?_
    rotate_left
    ·intro w'
     go_simp
     with_reducible rfl
    rotate_left
    ·simp only [sP]
     rfl
    refine take_ (i := 2) (N := some 27) (v := ?_) (a' := ?_) #[tr,tr,tr,fa,tr,fa,fa,fa,fa] rfl rfl (take_ofW HT_.out HW_.out (by kernel_rfl)) (fun _ _ _ h => h) (Or.inl ⟨by rfl, ?_⟩) hHeld ?_ ?_
    rotate_left
    ·rintro w' ⟨s0, s1, s2, s3, s4, s5⟩
     go_simp
     with_reducible rfl
    rotate_left
    ·simp only [sP]
     rfl
    refine take_ (i := 5) (N := some 30) (v := ?_) (a' := ?_) #[tr,tr,tr,fa,tr,tr,fa,fa,fa] rfl rfl (take_ofW HT_.out HW_.out (by kernel_rfl)) (fun _ _ _ h => h) (Or.inl ⟨by rfl, ?_⟩) hHeld ?_ ?_
    rotate_left
    ·rintro w' ⟨s0, s1, s2, s3, s4, s5⟩
     go_simp
     with_reducible rfl
    rotate_left
    ·simp only [sP]
     rfl
    refine one_ (i := 3) (N := some 28) #[tr,tr,tr,tr,tr,tr,fa,fa,fa] rfl rfl (one_of HT_.out (by kernel_rfl)) (by decide) (fun K hK => ?_)
    refine goes_ Try.func35 (by kernel_rfl) rfl #[.bool a1, .agg #[.int .u64 a0_1, .int .u64 a0_2]] (by rfl) rfl rfl gS ?_
    with_reducible refine (spoorref09_bits.calls kj3 a1 a0_1 a0_2 t297 _ A25.out).mono ?_
    rintro e w28 ⟨v298, rfl, ho0, hb⟩
    refine ⟨_, rfl, ?_⟩
    have n0_ := Ax (Kd.R_lower ho0 (below_size (bw2 HB.out GE293.out GE294.out)))
    have n1_ := Ax (blk_below (g := gb293) (o := .cells #[.bool a0_0, .int .u64 a0_1, .int .u64 a0_2, .int .i64 a0_3] 33 (0, 0)) (bf0 BK293.out) hb)
    have n2_ := Ax (blk_below (g := gb294) (o := .cells #[.int .u64 a2_0, .int .u64 a2_1] 24 (0, 0)) (bf0 BK294.out) hb)
    have n3_ := Ax (below_step (bw2 HB.out GE293.out GE294.out) hb)
    clear BK293
    clear BK294
    clear HB
    have HO299 := n0_
    have BK293 := n1_
    have BK294 := n2_
    have HB := n3_
    clear n0_ n1_ n2_ n3_
    (try clear hb)
    (try clear hb2)
    (try clear hk)
    (try clear hi)
    (try clear ho0)
    refine hK.out _ _ ⟨(blk_cell BK293.out 0).trans rfl, (blk_cell BK293.out 1).trans rfl, (blk_cell BK293.out 2).trans rfl, (blk_cell BK293.out 3).trans rfl, (blk_cell BK294.out 0).trans rfl, (blk_cell BK294.out 1).trans rfl⟩ (fun hHeld => ?_)
    clear hK K
    refine norm_ (a' := ?_) ?_ ?_
    rotate_left
    ·show Act.put _ (some 28) _ = _
     simp only [sP]
     rfl
    refine one_ (i := 6) (N := some 31) #[tr,tr,tr,tr,tr,tr,tr,fa,fa] rfl rfl (one_of HT_.out (by kernel_rfl)) (by decide) (fun K hK => ?_)
    refine goes_ Try.func35 (by kernel_rfl) rfl #[.bool a1, .agg #[.int .u64 a2_0, .int .u64 a2_1]] (by rfl) rfl rfl gS ?_
    with_reducible refine (spoorref09_bits.calls kj3 a1 a2_0 a2_1 t300 _ A26.out).mono ?_
    rintro e w29 ⟨v301, rfl, ho0, hb⟩
    refine ⟨_, rfl, ?_⟩
    have n0_ := Ax (Kd.R_elder' (by (with_reducible repeat (first | apply Kd.R_alloc | apply Kd.R_drewN | apply Kd.R_drew)); exact HO299.out) (Kd.R_base ho0) hb)
    have n1_ := Ax (Kd.R_lower (Kd.R_new' ho0 (Kd.R_lt (by (with_reducible repeat (first | apply Kd.R_alloc | apply Kd.R_drewN | apply Kd.R_drew)); exact HO299.out))) (below_size (bw2 HB.out GE293.out GE294.out)))
    have n2_ := Ax (blk_below (g := gb293) (o := .cells #[.bool a0_0, .int .u64 a0_1, .int .u64 a0_2, .int .i64 a0_3] 33 (0, 0)) (bf0 BK293.out) hb)
    have n3_ := Ax (blk_below (g := gb294) (o := .cells #[.int .u64 a2_0, .int .u64 a2_1] 24 (0, 0)) (bf0 BK294.out) hb)
    have n4_ := Ax (below_step (bw2 HB.out GE293.out GE294.out) hb)
    clear HO299
    clear BK293
    clear BK294
    clear HB
    have HO299 := n0_
    have HO302 := n1_
    have BK293 := n2_
    have BK294 := n3_
    have HB := n4_
    clear n0_ n1_ n2_ n3_ n4_
    (try clear hb)
    (try clear hb2)
    (try clear hk)
    (try clear hi)
    (try clear ho0)
    refine hK.out _ _ ⟨(blk_cell BK293.out 0).trans rfl, (blk_cell BK293.out 1).trans rfl, (blk_cell BK293.out 2).trans rfl, (blk_cell BK293.out 3).trans rfl, (blk_cell BK294.out 0).trans rfl, (blk_cell BK294.out 1).trans rfl⟩ (fun hHeld => ?_)
    clear hK K
    refine norm_ (a' := ?_) ?_ ?_
    rotate_left
    ·show Act.put _ (some 31) _ = _
     simp only [sP]
     rfl
    refine pure_ (i := 7) (N := some 7) (v := ?_) (a' := ?_) #[tr,tr,tr,tr,tr,tr,tr,tr,fa] rfl rfl (any_of HT_.out (by kernel_rfl)) (fun _ _ _ h => h) (Or.inl ⟨by rfl, ?_⟩) ?_ ?_
    rotate_left
    ·intro w'
     go_simp
     with_reducible rfl
    rotate_left
    ·simp only [sP]
     rfl
    refine pure_ (i := 8) (N := some 8) (v := ?_) (a' := ?_) #[tr,tr,tr,tr,tr,tr,tr,tr,tr] rfl rfl (any_of HT_.out (by kernel_rfl)) (fun _ _ _ h => h) (Or.inl ⟨by rfl, ?_⟩) ?_ ?_
    rotate_left
    ·intro w'
     go_simp
     with_reducible rfl
    rotate_left
    ·simp only [sP]
     rfl
    refine done_ (done_of HT_.out (by kernel_rfl)) ?_
    try go_wp2
    go_loopg [9] kj3 (fun kq v9 w' => ∃ (x9_2 : Int), v9 = .int .i64 x9_2 ∧ Aside0 (spoorref09_Has.l0 kq t297 t300 x9_2 a0_0 a0_1 a0_2 a0_3 = some r) ∧ Aside0 (kq ≤ kj3) ∧ Aside0 (Kd.R (Kd.int .i64) 3 w' w.heap.size (fun k_ => some k_ ≠ (v301 : Value).ownBlock) v298 t297) ∧ Aside0 (Kd.R (Kd.int .i64) 3 w' w.heap.size (fun k_ => some k_ ≠ (v298 : Value).ownBlock) v301 t300) ∧ Aside0 (w'.heap[gb293]? = some (.cells #[.bool a0_0, .int .u64 a0_1, .int .u64 a0_2, .int .i64 a0_3] 33 (0, 0))) ∧ Aside0 (w'.heap[gb294]? = some (.cells #[.int .u64 a2_0, .int .u64 a2_1] 24 (0, 0))) ∧ Aside0 (Below w.heap.size w w'))
    case atStart => exact ⟨(0), rS, H', ⟨Nat.le_refl _⟩, ⟨by (with_reducible repeat (first | apply Kd.R_alloc | apply Kd.R_drewN | apply Kd.R_drew)); exact Kd.R_mono HO299.out (fun _ hk => hk.2)⟩, ⟨by (with_reducible repeat (first | apply Kd.R_alloc | apply Kd.R_drewN | apply Kd.R_drew)); exact Kd.R_mono HO302.out (fun _ hk => hk.2)⟩, ⟨bf0 BK293.out⟩, ⟨bf0 BK294.out⟩, ⟨bw2 HB.out GE293.out GE294.out⟩⟩
    case round =>
     clear H'
     try clear c1
     try clear c2
     try clear p2
     try clear c3
     try clear c8
     try clear c8b0
     try clear c8b1
     try clear c9
     try clear c9b0
     try clear c9b1
     try clear c9b2
     try clear c10
     try clear c15
     try clear c21
     try clear c23
     try clear c24
     try clear hcz11_0
     try clear hcz11_1
     try clear hcz11_2
     try clear hcz11_3
     try clear hcz13_0
     try clear hcz13_1
     try clear hcz13_2
     try clear hcz13_3
     try clear hcz16_0
     try clear hcz16_1
     try clear hcz16_2
     try clear hcz16_3
     try clear hcz18_0
     try clear hcz18_1
     try clear hcz18_2
     try clear hcz18_3
     try clear hcz19_0
     try clear hcz19_1
     try clear hcz22_0
     try clear hcz22_1
     try clear hcz22_2
     try clear hcz22_3
     try clear hfz11_0
     try clear hfz11_1
     try clear hfz11_2
     try clear hfz11_3
     try clear hfz13_0
     try clear hfz13_1
     try clear hfz13_2
     try clear hfz13_3
     try clear hfz16_0
     try clear hfz16_1
     try clear hfz16_2
     try clear hfz16_3
     try clear hfz18_0
     try clear hfz18_1
     try clear hfz18_2
     try clear hfz18_3
     try clear hfz19_0
     try clear hfz19_1
     try clear hfz22_0
     try clear hfz22_1
     try clear hfz22_2
     try clear hfz22_3
     try clear p2
     obtain ⟨x9_2, rfl, HA, HK2, HO_7, HO_8, BK293, BK294, HB⟩ := hrel
     cases gk with
     | zero => exact absurd HA.out (by simp [spoorref09_Has.l0])
     | succ k2 =>
      have H := HA.out
      clear HA
      simp only [spoorref09_Has.l0] at H
      by_cases c30 : x9_2 < a0_3
      ·rw [if_pos c30] at H
       have c30b0 : decide (x9_2 < a0_3) = true := decide_eq_true c30
       clear c30
       by_cases c31 : 0 ≤ x9_2
       ·rw [if_pos c31] at H
        have c31b0 : decide (0 ≤ x9_2) = true := decide_eq_true c31
        clear c31
        by_cases c32 : x9_2 < (t297.length : Int)
        ·rw [if_pos c32] at H
         have c32b0 : decide (x9_2 < (t297.length : Int)) = true := decide_eq_true c32
         clear c32
         by_cases c33 : x9_2 < (t300.length : Int)
         ·rw [if_pos c33] at H
          have c33b0 : decide (x9_2 < (t300.length : Int)) = true := decide_eq_true c33
          clear c33
          by_cases c34 : (rd t297 x9_2) = (rd t300 x9_2)
          ·rw [if_pos c34] at H
           have c34b0 : ((rd t297 x9_2) == (rd t300 x9_2)) = true := beq_iff_eq.mpr c34
           have c34b1 : ((rd t297 x9_2) != (rd t300 x9_2)) = false := bne_eq_false_iff_eq.mpr c34
           clear c34
           have H' := Ax H
           clear H
           have hnb35 := NB293_294.out
           have hnc35 := NB294_293.out
           have hcz36_0 : wr.cell? ⟨gb293, 0, none⟩ = some (.bool a0_0) := (blk_cell BK293.out 0).trans rfl
           have hcz36_1 : wr.cell? ⟨gb293, 1, none⟩ = some (.int .u64 a0_1) := (blk_cell BK293.out 1).trans rfl
           have hcz36_2 : wr.cell? ⟨gb293, 2, none⟩ = some (.int .u64 a0_2) := (blk_cell BK293.out 2).trans rfl
           have hcz36_3 : wr.cell? ⟨gb293, 3, none⟩ = some (.int .i64 a0_3) := (blk_cell BK293.out 3).trans rfl
           have hfz36_0 := blk_frozen BK293.out 0
           have hfz36_1 := blk_frozen BK293.out 1
           have hfz36_2 := blk_frozen BK293.out 2
           have hfz36_3 := blk_frozen BK293.out 3
           try go_wp2
           have n0_ := Ax (Kd.R_drew HO_7.out)
           have n1_ := Ax (Kd.R_drew HO_8.out)
           have n2_ := Ax (blk_drew BK293.out)
           have n3_ := Ax (blk_drew BK294.out)
           have n4_ := Ax (below_drew1 HB.out)
           clear HO_7
           clear HO_8
           clear BK293
           clear BK294
           clear HB
           have HO_7 := n0_
           have HO_8 := n1_
           have BK293 := n2_
           have BK294 := n3_
           have HB := n4_
           clear n0_ n1_ n2_ n3_ n4_
           obtain ⟨Ao38, co38, eo38⟩ := Kd.R_slice HO_7.out
           (first | subst eo38 | (injection eo38 with f1_ f2_ f3_; have f4_ := f1_.symm; have f5_ := f3_.symm; clear f1_ f2_ f3_; subst f4_; subst f5_))
           have p303 : 0 ≤ (x9_2 : Int) := of_decide_eq_true (by first | (with_reducible assumption) | assumption)
           have q303 : x9_2 < (t297.length : Int) := of_decide_eq_true (by first | (with_reducible assumption) | assumption)
           obtain ⟨ad303, e303, hx303_0⟩ := Kd.at_int (Kd.R_reads' HO_7.out).2.2 x9_2 p303 q303
           cases e303
           replace p303 := eq_true p303
           replace q303 := eq_true q303
           obtain ⟨Ao39, co39, eo39⟩ := Kd.R_slice HO_8.out
           (first | subst eo39 | (injection eo39 with f1_ f2_ f3_; have f4_ := f1_.symm; have f5_ := f3_.symm; clear f1_ f2_ f3_; subst f4_; subst f5_))
           have p304 : 0 ≤ (x9_2 : Int) := of_decide_eq_true (by first | (with_reducible assumption) | assumption)
           have q304 : x9_2 < (t300.length : Int) := of_decide_eq_true (by first | (with_reducible assumption) | assumption)
           obtain ⟨ad304, e304, hx304_0⟩ := Kd.at_int (Kd.R_reads' HO_8.out).2.2 x9_2 p304 q304
           cases e304
           replace p304 := eq_true p304
           replace q304 := eq_true q304
           refine start_ (n := 9) (S := fun w' => w'.cell? (ad303.add (x9_2).toNat) = some (.int .i64 (rd t297 x9_2)) ∧ w'.cell? (ad304.add (x9_2).toNat) = some (.int .i64 (rd t300 x9_2))) (ds := []) #[fa,fa,fa,fa,fa,fa,fa,fa,fa] (by kernel_rfl) rfl rfl ⟨hx303_0, hx304_0⟩ (fun hHeld => ?_); refine with_tabW spoorref09_Has.tab7 spoorref09_Has.bits7 (fun HT_ HW_ => ?_)
           generalize wr.drew = w37 at HO_7 HO_8 BK293 BK294 HB hx303_0 hx304_0 hHeld ⊢
           refine pure_ (i := 0) (N := some 38) (v := ?_) (a' := ?_) #[tr,fa,fa,fa,fa,fa,fa,fa,fa] rfl rfl (any_of HT_.out (by kernel_rfl)) (fun _ _ _ h => h) (Or.inl ⟨by rfl, ?_⟩) ?_ ?_
           rotate_left
           ·intro w'
            go_simp
            with_reducible rfl
           rotate_left
           ·simp only [sP]
            rfl
           refine pure_ (i := 1) (N := some 39) (v := ?_) (a' := ?_) #[tr,tr,fa,fa,fa,fa,fa,fa,fa] rfl rfl (any_of HT_.out (by kernel_rfl)) (fun _ _ _ h => h) (Or.inl ⟨by rfl, ?_⟩) ?_ ?_
           rotate_left
           ·intro w'
            go_simp
            with_reducible rfl
           rotate_left
           ·simp only [sP]
            rfl
           refine pure_ (i := 2) (N := some 40) (v := ?_) (a' := ?_) #[tr,tr,tr,fa,fa,fa,fa,fa,fa] rfl rfl (any_of HT_.out (by kernel_rfl)) (fun _ _ _ h => h) (Or.inl ⟨by rfl, ?_⟩) ?_ ?_
           rotate_left
           ·intro w'
            go_simp
            with_reducible rfl
           rotate_left
           ·simp only [sP]
            rfl
           refine pure_ (i := 4) (N := some 42) (v := ?_) (a' := ?_) #[tr,tr,tr,fa,tr,fa,fa,fa,fa] rfl rfl (any_of HT_.out (by kernel_rfl)) (fun _ _ _ h => h) (Or.inl ⟨by rfl, ?_⟩) ?_ ?_
           rotate_left
           ·intro w'
            go_simp
            with_reducible rfl
           rotate_left
           ·simp only [sP]
            rfl
           refine pure_ (i := 5) (N := some 43) (v := ?_) (a' := ?_) #[tr,tr,tr,fa,tr,tr,fa,fa,fa] rfl rfl (any_of HT_.out (by kernel_rfl)) (fun _ _ _ h => h) (Or.inl ⟨by rfl, ?_⟩) ?_ ?_
           rotate_left
           ·intro w'
            go_simp
            with_reducible rfl
           rotate_left
           ·simp only [sP]
            rfl
           refine pure_ (i := 6) (N := some 44) (v := ?_) (a' := ?_) #[tr,tr,tr,fa,tr,tr,tr,fa,fa] rfl rfl (any_of HT_.out (by kernel_rfl)) (fun _ _ _ h => h) (Or.inl ⟨by rfl, ?_⟩) ?_ ?_
           rotate_left
           ·intro w'
            go_simp
            with_reducible rfl
           rotate_left
           ·simp only [sP]
            rfl
           refine take_ (i := 3) (N := some 41) (v := ?_) (a' := ?_) #[tr,tr,tr,tr,tr,tr,tr,fa,fa] rfl rfl (take_ofW HT_.out HW_.out (by kernel_rfl)) (fun _ _ _ h => h) (Or.inl ⟨by rfl, ?_⟩) hHeld ?_ ?_
           rotate_left
           ·rintro w' ⟨s0, s1⟩
            go_simp
            with_reducible rfl
           rotate_left
           ·simp only [sP]
            rfl
           refine take_ (i := 7) (N := some 45) (v := ?_) (a' := ?_) #[tr,tr,tr,tr,tr,tr,tr,tr,fa] rfl rfl (take_ofW HT_.out HW_.out (by kernel_rfl)) (fun _ _ _ h => h) (Or.inl ⟨by rfl, ?_⟩) hHeld ?_ ?_
           rotate_left
           ·rintro w' ⟨s0, s1⟩
            go_simp
            with_reducible rfl
           rotate_left
           ·simp only [sP]
            rfl
           refine pure_ (i := 8) (N := some 46) (v := ?_) (a' := ?_) #[tr,tr,tr,tr,tr,tr,tr,tr,tr] rfl rfl (any_of HT_.out (by kernel_rfl)) (fun _ _ _ h => h) (Or.inl ⟨by rfl, ?_⟩) ?_ ?_
           rotate_left
           ·intro w'
            go_simp
            with_reducible rfl
           rotate_left
           ·simp only [sP]
            rfl
           refine done_ (done_of HT_.out (by kernel_rfl)) ?_
           try go_wp2
           go_roundg k2
           case measure => have := HJ3.out; have := HK2.out; omega
           case rel => exact ⟨(wrap64 (x9_2 + 1)), rS, H', ⟨by have := HJ3.out; have := HK2.out; omega⟩, ⟨by (with_reducible repeat (first | apply Kd.R_alloc | apply Kd.R_drewN | apply Kd.R_drew)); exact HO_7.out⟩, ⟨by (with_reducible repeat (first | apply Kd.R_alloc | apply Kd.R_drewN | apply Kd.R_drew)); exact HO_8.out⟩, ⟨bf0 BK293.out⟩, ⟨bf0 BK294.out⟩, ⟨bw2 HB.out GE293.out GE294.out⟩⟩
          ·rw [if_neg c34] at H
           have c34b0 : ((rd t297 x9_2) == (rd t300 x9_2)) = false := beq_eq_false_iff_ne.mpr c34
           have c34b1 : ((rd t297 x9_2) != (rd t300 x9_2)) = true := bne_iff_ne.mpr c34
           obtain rfl := Option.some.inj H
           have hnb40 := NB293_294.out
           have hnc40 := NB294_293.out
           have hcz41_0 : wr.cell? ⟨gb293, 0, none⟩ = some (.bool a0_0) := (blk_cell BK293.out 0).trans rfl
           have hcz41_1 : wr.cell? ⟨gb293, 1, none⟩ = some (.int .u64 a0_1) := (blk_cell BK293.out 1).trans rfl
           have hcz41_2 : wr.cell? ⟨gb293, 2, none⟩ = some (.int .u64 a0_2) := (blk_cell BK293.out 2).trans rfl
           have hcz41_3 : wr.cell? ⟨gb293, 3, none⟩ = some (.int .i64 a0_3) := (blk_cell BK293.out 3).trans rfl
           have hfz41_0 := blk_frozen BK293.out 0
           have hfz41_1 := blk_frozen BK293.out 1
           have hfz41_2 := blk_frozen BK293.out 2
           have hfz41_3 := blk_frozen BK293.out 3
           try go_wp2
           have n0_ := Ax (Kd.R_drew HO_7.out)
           have n1_ := Ax (Kd.R_drew HO_8.out)
           have n2_ := Ax (blk_drew BK293.out)
           have n3_ := Ax (blk_drew BK294.out)
           have n4_ := Ax (below_drew1 HB.out)
           clear HO_7
           clear HO_8
           clear BK293
           clear BK294
           clear HB
           have HO_7 := n0_
           have HO_8 := n1_
           have BK293 := n2_
           have BK294 := n3_
           have HB := n4_
           clear n0_ n1_ n2_ n3_ n4_
           obtain ⟨Ao43, co43, eo43⟩ := Kd.R_slice HO_7.out
           (first | subst eo43 | (injection eo43 with f1_ f2_ f3_; have f4_ := f1_.symm; have f5_ := f3_.symm; clear f1_ f2_ f3_; subst f4_; subst f5_))
           have p303 : 0 ≤ (x9_2 : Int) := of_decide_eq_true (by first | (with_reducible assumption) | assumption)
           have q303 : x9_2 < (t297.length : Int) := of_decide_eq_true (by first | (with_reducible assumption) | assumption)
           obtain ⟨ad303, e303, hx303_0⟩ := Kd.at_int (Kd.R_reads' HO_7.out).2.2 x9_2 p303 q303
           cases e303
           replace p303 := eq_true p303
           replace q303 := eq_true q303
           obtain ⟨Ao44, co44, eo44⟩ := Kd.R_slice HO_8.out
           (first | subst eo44 | (injection eo44 with f1_ f2_ f3_; have f4_ := f1_.symm; have f5_ := f3_.symm; clear f1_ f2_ f3_; subst f4_; subst f5_))
           have p304 : 0 ≤ (x9_2 : Int) := of_decide_eq_true (by first | (with_reducible assumption) | assumption)
           have q304 : x9_2 < (t300.length : Int) := of_decide_eq_true (by first | (with_reducible assumption) | assumption)
           obtain ⟨ad304, e304, hx304_0⟩ := Kd.at_int (Kd.R_reads' HO_8.out).2.2 x9_2 p304 q304
           cases e304
           replace p304 := eq_true p304
           replace q304 := eq_true q304
           refine start_ (n := 9) (S := fun w' => w'.cell? (ad303.add (x9_2).toNat) = some (.int .i64 (rd t297 x9_2)) ∧ w'.cell? (ad304.add (x9_2).toNat) = some (.int .i64 (rd t300 x9_2))) (ds := []) #[fa,fa,fa,fa,fa,fa,fa,fa,fa] (by kernel_rfl) rfl rfl ⟨hx303_0, hx304_0⟩ (fun hHeld => ?_); refine with_tabW spoorref09_Has.tab7 spoorref09_Has.bits7 (fun HT_ HW_ => ?_)
           generalize wr.drew = w42 at HO_7 HO_8 BK293 BK294 HB hx303_0 hx304_0 hHeld ⊢
           refine pure_ (i := 0) (N := some 38) (v := ?_) (a' := ?_) #[tr,fa,fa,fa,fa,fa,fa,fa,fa] rfl rfl (any_of HT_.out (by kernel_rfl)) (fun _ _ _ h => h) (Or.inl ⟨by rfl, ?_⟩) ?_ ?_
           rotate_left
           ·intro w'
            go_simp
            with_reducible rfl
           rotate_left
           ·simp only [sP]
            rfl
           refine pure_ (i := 1) (N := some 39) (v := ?_) (a' := ?_) #[tr,tr,fa,fa,fa,fa,fa,fa,fa] rfl rfl (any_of HT_.out (by kernel_rfl)) (fun _ _ _ h => h) (Or.inl ⟨by rfl, ?_⟩) ?_ ?_
           rotate_left
           ·intro w'
            go_simp
            with_reducible rfl
           rotate_left
           ·simp only [sP]
            rfl
           refine pure_ (i := 2) (N := some 40) (v := ?_) (a' := ?_) #[tr,tr,tr,fa,fa,fa,fa,fa,fa] rfl rfl (any_of HT_.out (by kernel_rfl)) (fun _ _ _ h => h) (Or.inl ⟨by rfl, ?_⟩) ?_ ?_
           rotate_left
           ·intro w'
            go_simp
            with_reducible rfl
           rotate_left
           ·simp only [sP]
            rfl
           refine pure_ (i := 4) (N := some 42) (v := ?_) (a' := ?_) #[tr,tr,tr,fa,tr,fa,fa,fa,fa] rfl rfl (any_of HT_.out (by kernel_rfl)) (fun _ _ _ h => h) (Or.inl ⟨by rfl, ?_⟩) ?_ ?_
           rotate_left
           ·intro w'
            go_simp
            with_reducible rfl
           rotate_left
           ·simp only [sP]
            rfl
           refine pure_ (i := 5) (N := some 43) (v := ?_) (a' := ?_) #[tr,tr,tr,fa,tr,tr,fa,fa,fa] rfl rfl (any_of HT_.out (by kernel_rfl)) (fun _ _ _ h => h) (Or.inl ⟨by rfl, ?_⟩) ?_ ?_
           rotate_left
           ·intro w'
            go_simp
            with_reducible rfl
           rotate_left
           ·simp only [sP]
            rfl
           refine pure_ (i := 6) (N := some 44) (v := ?_) (a' := ?_) #[tr,tr,tr,fa,tr,tr,tr,fa,fa] rfl rfl (any_of HT_.out (by kernel_rfl)) (fun _ _ _ h => h) (Or.inl ⟨by rfl, ?_⟩) ?_ ?_
           rotate_left
           ·intro w'
            go_simp
            with_reducible rfl
           rotate_left
           ·simp only [sP]
            rfl
           refine take_ (i := 3) (N := some 41) (v := ?_) (a' := ?_) #[tr,tr,tr,tr,tr,tr,tr,fa,fa] rfl rfl (take_ofW HT_.out HW_.out (by kernel_rfl)) (fun _ _ _ h => h) (Or.inl ⟨by rfl, ?_⟩) hHeld ?_ ?_
           rotate_left
           ·rintro w' ⟨s0, s1⟩
            go_simp
            with_reducible rfl
           rotate_left
           ·simp only [sP]
            rfl
           refine take_ (i := 7) (N := some 45) (v := ?_) (a' := ?_) #[tr,tr,tr,tr,tr,tr,tr,tr,fa] rfl rfl (take_ofW HT_.out HW_.out (by kernel_rfl)) (fun _ _ _ h => h) (Or.inl ⟨by rfl, ?_⟩) hHeld ?_ ?_
           rotate_left
           ·rintro w' ⟨s0, s1⟩
            go_simp
            with_reducible rfl
           rotate_left
           ·simp only [sP]
            rfl
           refine pure_ (i := 8) (N := some 46) (v := ?_) (a' := ?_) #[tr,tr,tr,tr,tr,tr,tr,tr,tr] rfl rfl (any_of HT_.out (by kernel_rfl)) (fun _ _ _ h => h) (Or.inl ⟨by rfl, ?_⟩) ?_ ?_
           rotate_left
           ·intro w'
            go_simp
            with_reducible rfl
           rotate_left
           ·simp only [sP]
            rfl
           refine done_ (done_of HT_.out (by kernel_rfl)) ?_
           try go_wp2
           go_ret
           exact ⟨eS, bw2 HB.out GE293.out GE294.out⟩
         ·rw [if_neg c33] at H
          exact absurd H (by simp)
        ·rw [if_neg c32] at H
         exact absurd H (by simp)
       ·rw [if_neg c31] at H
        exact absurd H (by simp)
      ·rw [if_neg c30] at H
       have c30b0 : decide (x9_2 < a0_3) = false := decide_eq_false c30
       clear c30
       obtain rfl := Option.some.inj H
       have hnb45 := NB293_294.out
       have hnc45 := NB294_293.out
       have hcz46_0 : wr.cell? ⟨gb293, 0, none⟩ = some (.bool a0_0) := (blk_cell BK293.out 0).trans rfl
       have hcz46_1 : wr.cell? ⟨gb293, 1, none⟩ = some (.int .u64 a0_1) := (blk_cell BK293.out 1).trans rfl
       have hcz46_2 : wr.cell? ⟨gb293, 2, none⟩ = some (.int .u64 a0_2) := (blk_cell BK293.out 2).trans rfl
       have hcz46_3 : wr.cell? ⟨gb293, 3, none⟩ = some (.int .i64 a0_3) := (blk_cell BK293.out 3).trans rfl
       have hfz46_0 := blk_frozen BK293.out 0
       have hfz46_1 := blk_frozen BK293.out 1
       have hfz46_2 := blk_frozen BK293.out 2
       have hfz46_3 := blk_frozen BK293.out 3
       go_wp2
       go_ret
       exact ⟨eS, bw2 HB.out GE293.out GE294.out⟩

end Go.Proofs.Ytafclgjnomocdaa.Q
