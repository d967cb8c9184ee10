-- Printed by this session's program wip/tools/mp.sh out of the translation.
import Derived.Test.YtafclgjnomocdaaQx0
import Derived.Test.YtafclgjnomocdaaQx3
import Derived.Test.YtafclgjnomocdaaQx7
import Derived.Test.YtafclgjnomocdaaQx10
import Derived.Test.YtafclgjnomocdaaQx12
import Derived.Test.YtafclgjnomocdaaQx13
import Derived.Test.YtafclgjnomocdaaQx24
namespace Go.Proofs.Ytafclgjnomocdaa.Q
open Go.RowKit Go.Proofs.YtafclgjnomocdaaW.PrintWords Go.Proofs.YtafclgjnomocdaaW.PrintLast Go.Proofs.YtafclgjnomocdaaW.PrintMore
attribute [local go_sem] max2_int min2_int max_two min_two max_three min_three max_four min_four   -- for this text's walks alone
set_option linter.unusedVariables false
set_option linter.unusedSimpArgs false

/-! ### spoorlaw09_AddrBetween: function 5 -/
set_option maxHeartbeats 8000000 in
set_option maxRecDepth 100000 in
theorem spoorlaw09_AddrBetween.calls (k : Nat) (a0_0 : Bool) (a0_1 : Int) (a0_2 : Int) (a0_3 : Int) (a1_0 : Bool) (a1_1 : Int) (a1_2 : Int) (a1_3 : Int) (a2_0 : Int) (a2_1 : Int) (r : Bool) (w : World) (h : spoorlaw09_AddrBetween.f k a0_0 a0_1 a0_2 a0_3 a1_0 a1_1 a1_2 a1_3 a2_0 a2_1 = some r) :
  Calls Try.prog 5 #[.agg #[.bool a0_0, .int .u64 a0_1, .int .u64 a0_2, .int .i64 a0_3], .agg #[.bool a1_0, .int .u64 a1_1, .int .u64 a1_2, .int .i64 a1_3], .agg #[.int .u64 a2_0, .int .u64 a2_1]] w fun e w' => e = .returned (.bool r) ∧ Below w.heap.size w w' := by
 have hu33 := Try.underlying33
 have hu24 := Try.underlying24
 have HB := Ax (Below.refl w.heap.size w)
 have H : ((spoorlaw09_steps.f k).bind fun t352 => (if t352 = true then ((addr_Last.f k a0_0 a0_1 a0_2 a0_3).bind fun bt353 => (if bt353.2.2 = 0 then ((addr_Right.f a0_0 a2_0 a2_1).bind fun t357 => (spoorlaw09_AddrBetween.j0 k (!t357) a0_0 a0_1 a0_2 a0_3 a1_0 a1_1 a1_2 a1_3 a2_0 a2_1 bt353.1 bt353.2.1)) else (spoorlaw09_AddrBetween.j0 k true a0_0 a0_1 a0_2 a0_3 a1_0 a1_1 a1_2 a1_3 a2_0 a2_1 bt353.1 bt353.2.1))) else (none))) = some r := h
 clear h
 replace H := Option.bind_eq_some_iff.mp H
 obtain ⟨t352, A40, H⟩ := H
 replace H : (if t352 = true then ((addr_Last.f k a0_0 a0_1 a0_2 a0_3).bind fun bt353 => (if bt353.2.2 = 0 then ((addr_Right.f a0_0 a2_0 a2_1).bind fun t357 => (spoorlaw09_AddrBetween.j0 k (!t357) a0_0 a0_1 a0_2 a0_3 a1_0 a1_1 a1_2 a1_3 a2_0 a2_1 bt353.1 bt353.2.1)) else (spoorlaw09_AddrBetween.j0 k true a0_0 a0_1 a0_2 a0_3 a1_0 a1_1 a1_2 a1_3 a2_0 a2_1 bt353.1 bt353.2.1))) else (none)) = some r := H
 have A4 := Ax A40
 clear A40
 by_cases c5 : t352 = true
 ·subst c5
  have H1 : ((addr_Last.f k a0_0 a0_1 a0_2 a0_3).bind fun bt353 => (if bt353.2.2 = 0 then ((addr_Right.f a0_0 a2_0 a2_1).bind fun t357 => (spoorlaw09_AddrBetween.j0 k (!t357) a0_0 a0_1 a0_2 a0_3 a1_0 a1_1 a1_2 a1_3 a2_0 a2_1 bt353.1 bt353.2.1)) else (spoorlaw09_AddrBetween.j0 k true a0_0 a0_1 a0_2 a0_3 a1_0 a1_1 a1_2 a1_3 a2_0 a2_1 bt353.1 bt353.2.1))) = some r := by rw [if_pos rfl] at H; exact H
  clear H
  have H := H1
  clear H1
  replace H := Option.bind_eq_some_iff.mp H
  obtain ⟨⟨t353, t354, t355⟩, A60, H⟩ := H
  replace H : (if t355 = 0 then ((addr_Right.f a0_0 a2_0 a2_1).bind fun t357 => (spoorlaw09_AddrBetween.j0 k (!t357) a0_0 a0_1 a0_2 a0_3 a1_0 a1_1 a1_2 a1_3 a2_0 a2_1 t353 t354)) else (spoorlaw09_AddrBetween.j0 k true a0_0 a0_1 a0_2 a0_3 a1_0 a1_1 a1_2 a1_3 a2_0 a2_1 t353 t354)) = some r := H
  have A6 := Ax A60
  clear A60
  have HC7 := Ax H
  clear H
  go_enter Try.func5, Try.ntmps5
  go_upto_region 4 with (first | ((with_reducible refine gate_dst (N := 3) rfl ?_); refine box_event ?hg (N := 3) ?hd (cs := #[.bool a0_0, .int .u64 a0_1, .int .u64 a0_2, .int .i64 a0_3]) (t := 33) ?hr ?_; (case hd => rfl); (case hg => rfl); (case hr => first | (go_simp; done) | (go_simp; rfl)); intro gb349 hg w8 hbox hb; have n0_ := Ax (below_step (bw0 HB.out) hb); have n1_ := Ax (hbox); have n2_ := Ax ((by rw [hg]; exact (below_size (bw0 HB.out)) : w.heap.size ≤ gb349)); have n3_ := Ax ((by rw [hg]; exact (below_size (bw0 HB.out)) : w.heap.size ≤ gb349)); clear HB; have HB := n0_; have BK349 := n1_; have GW349 := n2_; have GE349 := n3_; clear n0_ n1_ n2_ n3_; clear hb hbox hg) | ((with_reducible refine gate_dst (N := 4) rfl ?_); refine box_event ?hg (N := 4) ?hd (cs := #[.bool a1_0, .int .u64 a1_1, .int .u64 a1_2, .int .i64 a1_3]) (t := 33) ?hr ?_; (case hd => rfl); (case hg => rfl); (case hr => first | (go_simp; done) | (go_simp; rfl)); intro gb350 hg w9 hbox hb; have n0_ := Ax (blk_below (g := gb349) (o := .cells #[.bool a0_0, .int .u64 a0_1, .int .u64 a0_2, .int .i64 a0_3] 33 (0, 0)) (bf0 BK349.out) hb); have n1_ := Ax (below_step (bw1 HB.out GE349.out) hb); have n2_ := Ax (hbox); have n3_ := Ax ((by rw [hg]; exact (below_size (bw1 HB.out GE349.out)) : w.heap.size ≤ gb350)); have n4_ := Ax ((by rw [hg]; exact (below_size (bw1 HB.out GE349.out)) : w.heap.size ≤ gb350)); have n5_ := Ax ((by rw [hg]; exact Nat.ne_of_lt (blk_lt (g := gb349) (o := .cells #[.bool a0_0, .int .u64 a0_1, .int .u64 a0_2, .int .i64 a0_3] 33 (0, 0)) (bf0 BK349.out)) : gb349 ≠ gb350)); have n6_ := Ax ((by rw [hg]; exact Nat.ne_of_gt (blk_lt (g := gb349) (o := .cells #[.bool a0_0, .int .u64 a0_1, .int .u64 a0_2, .int .i64 a0_3] 33 (0, 0)) (bf0 BK349.out)) : gb350 ≠ gb349)); clear BK349; clear HB; have BK349 := n0_; have HB := n1_; have BK350 := n2_; have GW350 := n3_; have GE350 := n4_; have NB349_350 := n5_; have NB350_349 := n6_; clear n0_ n1_ n2_ n3_ n4_ n5_ n6_; clear hb hbox hg) | ((with_reducible refine gate_dst (N := 5) rfl ?_); refine box_event ?hg (N := 5) ?hd (cs := #[.int .u64 a2_0, .int .u64 a2_1]) (t := 24) ?hr ?_; (case hd => rfl); (case hg => rfl); (case hr => first | (go_simp; done) | (go_simp; rfl)); intro gb351 hg w10 hbox hb; have n0_ := Ax (blk_below (g := gb349) (o := .cells #[.bool a0_0, .int .u64 a0_1, .int .u64 a0_2, .int .i64 a0_3] 33 (0, 0)) (bf0 BK349.out) hb); have n1_ := Ax (blk_below (g := gb350) (o := .cells #[.bool a1_0, .int .u64 a1_1, .int .u64 a1_2, .int .i64 a1_3] 33 (0, 0)) (bf0 BK350.out) hb); have n2_ := Ax (below_step (bw2 HB.out GE349.out GE350.out) hb); have n3_ := Ax (hbox); have n4_ := Ax ((by rw [hg]; exact (below_size (bw2 HB.out GE349.out GE350.out)) : w.heap.size ≤ gb351)); have n5_ := Ax ((by rw [hg]; exact (below_size (bw2 HB.out GE349.out GE350.out)) : w.heap.size ≤ gb351)); have n6_ := Ax ((by rw [hg]; exact Nat.ne_of_lt (blk_lt (g := gb349) (o := .cells #[.bool a0_0, .int .u64 a0_1, .int .u64 a0_2, .int .i64 a0_3] 33 (0, 0)) (bf0 BK349.out)) : gb349 ≠ gb351)); have n7_ := Ax ((by rw [hg]; exact Nat.ne_of_gt (blk_lt (g := gb349) (o := .cells #[.bool a0_0, .int .u64 a0_1, .int .u64 a0_2, .int .i64 a0_3] 33 (0, 0)) (bf0 BK349.out)) : gb351 ≠ gb349)); have n8_ := Ax ((by rw [hg]; exact Nat.ne_of_lt (blk_lt (g := gb350) (o := .cells #[.bool a1_0, .int .u64 a1_1, .int .u64 a1_2, .int .i64 a1_3] 33 (0, 0)) (bf0 BK350.out)) : gb350 ≠ gb351)); have n9_ := Ax ((by rw [hg]; exact Nat.ne_of_gt (blk_lt (g := gb350) (o := .cells #[.bool a1_0, .int .u64 a1_1, .int .u64 a1_2, .int .i64 a1_3] 33 (0, 0)) (bf0 BK350.out)) : gb351 ≠ gb350)); clear BK349; clear BK350; clear HB; have BK349 := n0_; have BK350 := n1_; have HB := n2_; have BK351 := n3_; have GW351 := n4_; have GE351 := n5_; have NB349_351 := n6_; have NB351_349 := n7_; have NB350_351 := n8_; have NB351_350 := n9_; clear n0_ n1_ n2_ n3_ n4_ n5_ n6_ n7_ n8_ n9_; clear hb hbox hg) | ((with_reducible refine gate_callee (f := 11) rfl ?_); refine goesL_ (some 11) rfl rfl Try.func11 (by kernel_rfl) rfl #[] rfl gS ?_; (with_reducible refine (spoorlaw09_steps.calls k  true _ A4.out).mono ?_); rintro e w11 ⟨rfl, hb⟩; refine ⟨_, rfl, ?_⟩; have n0_ := Ax (blk_below (g := gb349) (o := .cells #[.bool a0_0, .int .u64 a0_1, .int .u64 a0_2, .int .i64 a0_3] 33 (0, 0)) (bf0 BK349.out) hb); have n1_ := Ax (blk_below (g := gb350) (o := .cells #[.bool a1_0, .int .u64 a1_1, .int .u64 a1_2, .int .i64 a1_3] 33 (0, 0)) (bf0 BK350.out) hb); have n2_ := Ax (blk_below (g := gb351) (o := .cells #[.int .u64 a2_0, .int .u64 a2_1] 24 (0, 0)) (bf0 BK351.out) hb); have n3_ := Ax (below_step (bw3 HB.out GE349.out GE350.out GE351.out) hb); clear BK349; clear BK350; clear BK351; clear HB; have BK349 := n0_; have BK350 := n1_; have BK351 := n2_; have HB := n3_; clear n0_ n1_ n2_ n3_; (try clear hb); (try clear hb2); (try clear hk); (try clear hi); have hnb12 := NB349_350.out; have hnc12 := NB350_349.out; have hnb13 := NB349_351.out; have hnc13 := NB351_349.out; have hcz14_0 : w11.cell? ⟨gb349, 0, none⟩ = some (.bool a0_0) := (blk_cell BK349.out 0).trans rfl; have hcz14_1 : w11.cell? ⟨gb349, 1, none⟩ = some (.int .u64 a0_1) := (blk_cell BK349.out 1).trans rfl; have hcz14_2 : w11.cell? ⟨gb349, 2, none⟩ = some (.int .u64 a0_2) := (blk_cell BK349.out 2).trans rfl; have hcz14_3 : w11.cell? ⟨gb349, 3, none⟩ = some (.int .i64 a0_3) := (blk_cell BK349.out 3).trans rfl; have hfz14_0 := blk_frozen BK349.out 0; have hfz14_1 := blk_frozen BK349.out 1; have hfz14_2 := blk_frozen BK349.out 2; have hfz14_3 := blk_frozen BK349.out 3) | ((with_reducible refine gate_callee (f := 16) rfl ?_); refine goesL_ (some 15) rfl rfl Try.func16 (by kernel_rfl) rfl #[.agg #[.bool a0_0, .int .u64 a0_1, .int .u64 a0_2, .int .i64 a0_3]] rfl gS ?_; (with_reducible refine (addr_Last.calls k a0_0 a0_1 a0_2 a0_3 t353 t354 t355 _ A6.out).mono ?_); rintro e w15 ⟨rfl, hb⟩; refine ⟨_, rfl, ?_⟩; have n0_ := Ax (blk_below (g := gb349) (o := .cells #[.bool a0_0, .int .u64 a0_1, .int .u64 a0_2, .int .i64 a0_3] 33 (0, 0)) (bf0 BK349.out) hb); have n1_ := Ax (blk_below (g := gb350) (o := .cells #[.bool a1_0, .int .u64 a1_1, .int .u64 a1_2, .int .i64 a1_3] 33 (0, 0)) (bf0 BK350.out) hb); have n2_ := Ax (blk_below (g := gb351) (o := .cells #[.int .u64 a2_0, .int .u64 a2_1] 24 (0, 0)) (bf0 BK351.out) hb); have n3_ := Ax (below_step (bw3 HB.out GE349.out GE350.out GE351.out) hb); clear BK349; clear BK350; clear BK351; clear HB; have BK349 := n0_; have BK350 := n1_; have BK351 := n2_; have HB := n3_; clear n0_ n1_ n2_ n3_; (try clear hb); (try clear hb2); (try clear hk); (try clear hi)) | ((with_reducible refine gate_dst (N := 7) rfl ?_); refine box_event ?hg (N := 7) ?hd (cs := #[.int .u64 0, .int .u64 0]) (t := 24) ?hr ?_; (case hd => rfl); (case hg => rfl); (case hr => first | (go_simp; done) | (go_simp; rfl)); intro gb356 hg w16 hbox hb; have n0_ := Ax (blk_below (g := gb349) (o := .cells #[.bool a0_0, .int .u64 a0_1, .int .u64 a0_2, .int .i64 a0_3] 33 (0, 0)) (bf0 BK349.out) hb); have n1_ := Ax (blk_below (g := gb350) (o := .cells #[.bool a1_0, .int .u64 a1_1, .int .u64 a1_2, .int .i64 a1_3] 33 (0, 0)) (bf0 BK350.out) hb); have n2_ := Ax (blk_below (g := gb351) (o := .cells #[.int .u64 a2_0, .int .u64 a2_1] 24 (0, 0)) (bf0 BK351.out) hb); have n3_ := Ax (below_step (bw3 HB.out GE349.out GE350.out GE351.out) hb); have n4_ := Ax (hbox); have n5_ := Ax ((by rw [hg]; exact (below_size (bw3 HB.out GE349.out GE350.out GE351.out)) : w.heap.size ≤ gb356)); have n6_ := Ax ((by rw [hg]; exact (below_size (bw3 HB.out GE349.out GE350.out GE351.out)) : w.heap.size ≤ gb356)); have n7_ := Ax ((by rw [hg]; exact Nat.ne_of_lt (blk_lt (g := gb349) (o := .cells #[.bool a0_0, .int .u64 a0_1, .int .u64 a0_2, .int .i64 a0_3] 33 (0, 0)) (bf0 BK349.out)) : gb349 ≠ gb356)); have n8_ := Ax ((by rw [hg]; exact Nat.ne_of_gt (blk_lt (g := gb349) (o := .cells #[.bool a0_0, .int .u64 a0_1, .int .u64 a0_2, .int .i64 a0_3] 33 (0, 0)) (bf0 BK349.out)) : gb356 ≠ gb349)); have n9_ := Ax ((by rw [hg]; exact Nat.ne_of_lt (blk_lt (g := gb350) (o := .cells #[.bool a1_0, .int .u64 a1_1, .int .u64 a1_2, .int .i64 a1_3] 33 (0, 0)) (bf0 BK350.out)) : gb350 ≠ gb356)); have n10_ := Ax ((by rw [hg]; exact Nat.ne_of_gt (blk_lt (g := gb350) (o := .cells #[.bool a1_0, .int .u64 a1_1, .int .u64 a1_2, .int .i64 a1_3] 33 (0, 0)) (bf0 BK350.out)) : gb356 ≠ gb350)); have n11_ := Ax ((by rw [hg]; exact Nat.ne_of_lt (blk_lt (g := gb351) (o := .cells #[.int .u64 a2_0, .int .u64 a2_1] 24 (0, 0)) (bf0 BK351.out)) : gb351 ≠ gb356)); have n12_ := Ax ((by rw [hg]; exact Nat.ne_of_gt (blk_lt (g := gb351) (o := .cells #[.int .u64 a2_0, .int .u64 a2_1] 24 (0, 0)) (bf0 BK351.out)) : gb356 ≠ gb351)); clear BK349; clear BK350; clear BK351; clear HB; have BK349 := n0_; have BK350 := n1_; have BK351 := n2_; have HB := n3_; have BK356 := n4_; have GW356 := n5_; have GE356 := n6_; have NB349_356 := n7_; have NB356_349 := n8_; have NB350_356 := n9_; have NB356_350 := n10_; have NB351_356 := n11_; have NB356_351 := n12_; clear n0_ n1_ n2_ n3_ n4_ n5_ n6_ n7_ n8_ n9_ n10_ n11_ n12_; clear hb hbox hg; have hnb17 := NB356_349.out; have hnc17 := NB349_356.out; have hnb18 := NB356_350.out; have hnc18 := NB350_356.out; have hnb19 := NB356_351.out; have hnc19 := NB351_356.out; have hcz20_0 : w16.cell? ⟨gb356, 0, none⟩ = some (.int .u64 0) := (blk_cell BK356.out 0).trans rfl; have hcz20_1 : w16.cell? ⟨gb356, 1, none⟩ = some (.int .u64 0) := (blk_cell BK356.out 1).trans rfl; have hfz20_0 := blk_frozen BK356.out 0; have hfz20_1 := blk_frozen BK356.out 1))
  (try simp only [Act.put, List.setIfInBounds_toArray, List.set_cons_zero, List.set_cons_succ])
  go_cut [26] (fun v26 wc => ∃ (kq : Nat) (x26_6 : Bool), v26 = .bool x26_6 ∧ Aside0 (spoorlaw09_AddrBetween.j0 kq x26_6 a0_0 a0_1 a0_2 a0_3 a1_0 a1_1 a1_2 a1_3 a2_0 a2_1 t353 t354 = some r) ∧ Aside0 (kq ≤ k) ∧ Aside0 (wc.heap[gb349]? = some (.cells #[.bool a0_0, .int .u64 a0_1, .int .u64 a0_2, .int .i64 a0_3] 33 (0, 0))) ∧ Aside0 (wc.heap[gb350]? = some (.cells #[.bool a1_0, .int .u64 a1_1, .int .u64 a1_2, .int .i64 a1_3] 33 (0, 0))) ∧ Aside0 (wc.heap[gb351]? = some (.cells #[.int .u64 a2_0, .int .u64 a2_1] 24 (0, 0))) ∧ Aside0 (wc.heap[gb356]? = some (.cells #[.int .u64 t353, .int .u64 t354] 24 (0, 0))) ∧ Aside0 (Below w.heap.size w wc))
  case first =>
   have H := HC7.out
   clear HC7
   by_cases c21 : t355 = 0
   ·rw [if_pos c21] at H
    have c21b0 : (t355 == 0) = true := beq_iff_eq.mpr c21
    have c21b1 : (t355 != 0) = false := bne_eq_false_iff_eq.mpr c21
    clear c21
    (first | rw [c21b0] | (simp only [i64_w, i32_w]; rw [c21b0]) | skip)
    replace H := Option.bind_eq_some_iff.mp H
    obtain ⟨t357, A220, H⟩ := H
    replace H : (spoorlaw09_AddrBetween.j0 k (!t357) a0_0 a0_1 a0_2 a0_3 a1_0 a1_1 a1_2 a1_3 a2_0 a2_1 t353 t354) = some r := H
    have A22 := Ax A220
    clear A220
    have H' := Ax H
    clear H
    have hnb23 := NB349_350.out
    have hnc23 := NB350_349.out
    have hnb24 := NB349_351.out
    have hnc24 := NB351_349.out
    have hnb25 := NB349_356.out
    have hnc25 := NB356_349.out
    have hcz26_0 : w16.cell? ⟨gb349, 0, none⟩ = some (.bool a0_0) := (blk_cell BK349.out 0).trans rfl
    have hcz26_1 : w16.cell? ⟨gb349, 1, none⟩ = some (.int .u64 a0_1) := (blk_cell BK349.out 1).trans rfl
    have hcz26_2 : w16.cell? ⟨gb349, 2, none⟩ = some (.int .u64 a0_2) := (blk_cell BK349.out 2).trans rfl
    have hcz26_3 : w16.cell? ⟨gb349, 3, none⟩ = some (.int .i64 a0_3) := (blk_cell BK349.out 3).trans rfl
    have hfz26_0 := blk_frozen BK349.out 0
    have hfz26_1 := blk_frozen BK349.out 1
    have hfz26_2 := blk_frozen BK349.out 2
    have hfz26_3 := blk_frozen BK349.out 3
    have hnb27 := NB351_350.out
    have hnc27 := NB350_351.out
    have hnb28 := NB351_356.out
    have hnc28 := NB356_351.out
    have hcz29_0 : w16.cell? ⟨gb351, 0, none⟩ = some (.int .u64 a2_0) := (blk_cell BK351.out 0).trans rfl
    have hcz29_1 : w16.cell? ⟨gb351, 1, none⟩ = some (.int .u64 a2_1) := (blk_cell BK351.out 1).trans rfl
    have hfz29_0 := blk_frozen BK351.out 0
    have hfz29_1 := blk_frozen BK351.out 1
    go_wp2_with (first | (go_at_call 12; (with_reducible refine (addr_Right.calls a0_0 a2_0 a2_1 t357 _ A22.out).mono ?_); rintro e w30 ⟨rfl, hb⟩; have n0_ := Ax (blk_below (g := gb349) (o := .cells #[.bool a0_0, .int .u64 a0_1, .int .u64 a0_2, .int .i64 a0_3] 33 (0, 0)) (bf2 BK349.out NB349_356.out NB349_356.out) hb); have n1_ := Ax (blk_below (g := gb350) (o := .cells #[.bool a1_0, .int .u64 a1_1, .int .u64 a1_2, .int .i64 a1_3] 33 (0, 0)) (bf2 BK350.out NB350_356.out NB350_356.out) hb); have n2_ := Ax (blk_below (g := gb351) (o := .cells #[.int .u64 a2_0, .int .u64 a2_1] 24 (0, 0)) (bf2 BK351.out NB351_356.out NB351_356.out) hb); have n3_ := Ax (blk_below (g := gb356) (o := .cells #[.int .u64 t353, .int .u64 t354] 24 (0, 0)) (by (with_reducible repeat (first | refine blk_drewN ?_ _ | refine blk_drew ?_ | refine blk_alloc ?_ _)); refine blk_put (cs := #[.int .u64 t353, .int .u64 0]) ?_ 1 _ rfl; (with_reducible repeat (first | refine blk_drewN ?_ _ | refine blk_drew ?_ | refine blk_alloc ?_ _)); refine blk_put (cs := #[.int .u64 0, .int .u64 0]) ?_ 0 _ rfl; (with_reducible repeat (first | refine blk_drewN ?_ _ | refine blk_drew ?_ | refine blk_alloc ?_ _)); exact BK356.out) hb); have n4_ := Ax (below_step (bw4 HB.out GE349.out GE350.out GE351.out GE356.out) hb); clear BK349; clear BK350; clear BK351; clear BK356; clear HB; have BK349 := n0_; have BK350 := n1_; have BK351 := n2_; have BK356 := n3_; have HB := n4_; clear n0_ n1_ n2_ n3_ n4_; (try clear hb); (try clear hb2); (try clear hk); (try clear hi)))
    go_meet
    case rel => exact ⟨_, (!t357), rS, H', ⟨by first | omega | exact Nat.le_refl _⟩, ⟨bf0 BK349.out⟩, ⟨bf0 BK350.out⟩, ⟨bf0 BK351.out⟩, ⟨bf0 BK356.out⟩, ⟨bw4 HB.out GE349.out GE350.out GE351.out GE356.out⟩⟩
   ·rw [if_neg c21] at H
    have c21b0 : (t355 == 0) = false := beq_eq_false_iff_ne.mpr c21
    have c21b1 : (t355 != 0) = true := bne_iff_ne.mpr c21
    (first | rw [c21b0] | (simp only [i64_w, i32_w]; rw [c21b0]) | skip)
    have H' := Ax H
    clear H
    go_wp2
    go_meet
    case rel => exact ⟨_, (true), rS, H', ⟨by first | omega | exact Nat.le_refl _⟩, ⟨bf2 BK349.out NB349_356.out NB349_356.out⟩, ⟨bf2 BK350.out NB350_356.out NB350_356.out⟩, ⟨bf2 BK351.out NB351_356.out NB351_356.out⟩, ⟨by (with_reducible repeat (first | refine blk_drewN ?_ _ | refine blk_drew ?_ | refine blk_alloc ?_ _)); refine blk_put (cs := #[.int .u64 t353, .int .u64 0]) ?_ 1 _ rfl; (with_reducible repeat (first | refine blk_drewN ?_ _ | refine blk_drew ?_ | refine blk_alloc ?_ _)); refine blk_put (cs := #[.int .u64 0, .int .u64 0]) ?_ 0 _ rfl; (with_reducible repeat (first | refine blk_drewN ?_ _ | refine blk_drew ?_ | refine blk_alloc ?_ _)); exact BK356.out⟩, ⟨bw4 HB.out GE349.out GE350.out GE351.out GE356.out⟩⟩
  case rest =>
   clear HC7
   try clear c1
   try clear c2
   try clear p2
   try clear c5
   try clear c11
   try clear c12
   try clear c13
   try clear c16
   try clear c17
   try clear c18
   try clear c19
   try clear c21
   try clear c21b0
   try clear c21b1
   try clear c23
   try clear c24
   try clear c25
   try clear c27
   try clear c28
   try clear hcz14_0
   try clear hcz14_1
   try clear hcz14_2
   try clear hcz14_3
   try clear hcz20_0
   try clear hcz20_1
   try clear hcz26_0
   try clear hcz26_1
   try clear hcz26_2
   try clear hcz26_3
   try clear hcz29_0
   try clear hcz29_1
   try clear hfz14_0
   try clear hfz14_1
   try clear hfz14_2
   try clear hfz14_3
   try clear hfz20_0
   try clear hfz20_1
   try clear hfz26_0
   try clear hfz26_1
   try clear hfz26_2
   try clear hfz26_3
   try clear hfz29_0
   try clear hfz29_1
   obtain ⟨kq, x26_6, rfl, HA, HJ6, BK349, BK350, BK351, BK356, HB⟩ := hcut
   cases kq with
   | zero => exact absurd HA.out (by simp [spoorlaw09_AddrBetween.j0])
   | succ kj6 =>
    have H := HA.out
    clear HA
    simp only [spoorlaw09_AddrBetween.j0] at H
    by_cases c31 : x26_6 = true
    ·subst c31
     have H1 : ((addr_Has.f kj6 a0_0 a0_1 a0_2 a0_3 a0_0 a2_0 a2_1).bind fun t358 => (some (!t358))) = some r := by rw [if_pos rfl] at H; exact H
     clear H
     have H := H1
     clear H1
     replace H := Option.bind_eq_some_iff.mp H
     obtain ⟨t358, A320, H⟩ := H
     replace H : (some (!t358)) = some r := H
     have A32 := Ax A320
     clear A320
     obtain rfl := Option.some.inj H
     have hnb33 := NB349_350.out
     have hnc33 := NB350_349.out
     have hnb34 := NB349_351.out
     have hnc34 := NB351_349.out
     have hnb35 := NB349_356.out
     have hnc35 := NB356_349.out
     have hcz36_0 : wc.cell? ⟨gb349, 0, none⟩ = some (.bool a0_0) := (blk_cell BK349.out 0).trans rfl
     have hcz36_1 : wc.cell? ⟨gb349, 1, none⟩ = some (.int .u64 a0_1) := (blk_cell BK349.out 1).trans rfl
     have hcz36_2 : wc.cell? ⟨gb349, 2, none⟩ = some (.int .u64 a0_2) := (blk_cell BK349.out 2).trans rfl
     have hcz36_3 : wc.cell? ⟨gb349, 3, none⟩ = some (.int .i64 a0_3) := (blk_cell BK349.out 3).trans rfl
     have hfz36_0 := blk_frozen BK349.out 0
     have hfz36_1 := blk_frozen BK349.out 1
     have hfz36_2 := blk_frozen BK349.out 2
     have hfz36_3 := blk_frozen BK349.out 3
     have hnb37 := NB351_350.out
     have hnc37 := NB350_351.out
     have hnb38 := NB351_356.out
     have hnc38 := NB356_351.out
     have hcz39_0 : wc.cell? ⟨gb351, 0, none⟩ = some (.int .u64 a2_0) := (blk_cell BK351.out 0).trans rfl
     have hcz39_1 : wc.cell? ⟨gb351, 1, none⟩ = some (.int .u64 a2_1) := (blk_cell BK351.out 1).trans rfl
     have hfz39_0 := blk_frozen BK351.out 0
     have hfz39_1 := blk_frozen BK351.out 1
     go_wp2_with (first | ((with_reducible refine gate_callee (f := 22) rfl ?_); refine goesL_ (some 31) rfl rfl Try.func22 (by kernel_rfl) rfl #[.agg #[.bool a0_0, .int .u64 a0_1, .int .u64 a0_2, .int .i64 a0_3], .bool a0_0, .agg #[.int .u64 a2_0, .int .u64 a2_1]] rfl gS ?_; (with_reducible refine (addr_Has.calls kj6 a0_0 a0_1 a0_2 a0_3 a0_0 a2_0 a2_1 t358 _ A32.out).mono ?_); rintro e w40 ⟨rfl, hb⟩; refine ⟨_, rfl, ?_⟩; have n0_ := Ax (blk_below (g := gb349) (o := .cells #[.bool a0_0, .int .u64 a0_1, .int .u64 a0_2, .int .i64 a0_3] 33 (0, 0)) (bf0 BK349.out) hb); have n1_ := Ax (blk_below (g := gb350) (o := .cells #[.bool a1_0, .int .u64 a1_1, .int .u64 a1_2, .int .i64 a1_3] 33 (0, 0)) (bf0 BK350.out) hb); have n2_ := Ax (blk_below (g := gb351) (o := .cells #[.int .u64 a2_0, .int .u64 a2_1] 24 (0, 0)) (bf0 BK351.out) hb); have n3_ := Ax (blk_below (g := gb356) (o := .cells #[.int .u64 t353, .int .u64 t354] 24 (0, 0)) (bf0 BK356.out) hb); have n4_ := Ax (below_step (bw4 HB.out GE349.out GE350.out GE351.out GE356.out) hb); clear BK349; clear BK350; clear BK351; clear BK356; clear HB; have BK349 := n0_; have BK350 := n1_; have BK351 := n2_; have BK356 := n3_; have HB := n4_; clear n0_ n1_ n2_ n3_ n4_; (try clear hb); (try clear hb2); (try clear hk); (try clear hi)))
     go_ret
     exact ⟨eS, bw4 HB.out GE349.out GE350.out GE351.out GE356.out⟩
    ·replace c31 := Bool.eq_false_iff.mpr c31
     subst c31
     have H1 : ((addr_Has.f kj6 a0_0 a0_1 a0_2 a0_3 a0_0 a2_0 a2_1).bind fun t359 => ((addr_Cmp.f kj6 a0_1 a0_2 a2_0 a2_1).bind fun t360 => (if t360 ≤ 0 then ((addr_Cmp.f kj6 a2_0 a2_1 t353 t354).bind fun t361 => (if (t359 != (decide (t361 ≤ 0))) = true then (spoorlaw09_AddrBetween.j1 kj6 true a0_0 a0_1 a0_2 a0_3 a1_0 a1_1 a1_2 a1_3) else ((addr_Has.f kj6 a0_0 a0_1 a0_2 a0_3 (!a0_0) a2_0 a2_1).bind fun t362 => (spoorlaw09_AddrBetween.j1 kj6 t362 a0_0 a0_1 a0_2 a0_3 a1_0 a1_1 a1_2 a1_3)))) else (if (t359 != false) = true then (spoorlaw09_AddrBetween.j1 kj6 true a0_0 a0_1 a0_2 a0_3 a1_0 a1_1 a1_2 a1_3) else ((addr_Has.f kj6 a0_0 a0_1 a0_2 a0_3 (!a0_0) a2_0 a2_1).bind fun t363 => (spoorlaw09_AddrBetween.j1 kj6 t363 a0_0 a0_1 a0_2 a0_3 a1_0 a1_1 a1_2 a1_3)))))) = some r := by rw [if_neg (show ¬ (false = true) by decide)] at H; exact H
     clear H
     have H := H1
     clear H1
     have HC41 := Ax H
     clear H
     go_upto_region 6 with (fail)
     go_cut [57] (fun v57 wc => ∃ (kq : Nat) (x57_40 : Bool), v57 = .bool x57_40 ∧ Aside0 (spoorlaw09_AddrBetween.j1 kq x57_40 a0_0 a0_1 a0_2 a0_3 a1_0 a1_1 a1_2 a1_3 = some r) ∧ Aside0 (kq ≤ kj6) ∧ Aside0 (wc.heap[gb349]? = some (.cells #[.bool a0_0, .int .u64 a0_1, .int .u64 a0_2, .int .i64 a0_3] 33 (0, 0))) ∧ Aside0 (wc.heap[gb350]? = some (.cells #[.bool a1_0, .int .u64 a1_1, .int .u64 a1_2, .int .i64 a1_3] 33 (0, 0))) ∧ Aside0 (wc.heap[gb351]? = some (.cells #[.int .u64 a2_0, .int .u64 a2_1] 24 (0, 0))) ∧ Aside0 (wc.heap[gb356]? = some (.cells #[.int .u64 t353, .int .u64 t354] 24 (0, 0))) ∧ Aside0 (Below w.heap.size w wc))
     case first =>
      have H := HC41.out
      clear HC41
      replace H := Option.bind_eq_some_iff.mp H
      obtain ⟨t359, A420, H⟩ := H
      replace H : ((addr_Cmp.f kj6 a0_1 a0_2 a2_0 a2_1).bind fun t360 => (if t360 ≤ 0 then ((addr_Cmp.f kj6 a2_0 a2_1 t353 t354).bind fun t361 => (if (t359 != (decide (t361 ≤ 0))) = true then (spoorlaw09_AddrBetween.j1 kj6 true a0_0 a0_1 a0_2 a0_3 a1_0 a1_1 a1_2 a1_3) else ((addr_Has.f kj6 a0_0 a0_1 a0_2 a0_3 (!a0_0) a2_0 a2_1).bind fun t362 => (spoorlaw09_AddrBetween.j1 kj6 t362 a0_0 a0_1 a0_2 a0_3 a1_0 a1_1 a1_2 a1_3)))) else (if (t359 != false) = true then (spoorlaw09_AddrBetween.j1 kj6 true a0_0 a0_1 a0_2 a0_3 a1_0 a1_1 a1_2 a1_3) else ((addr_Has.f kj6 a0_0 a0_1 a0_2 a0_3 (!a0_0) a2_0 a2_1).bind fun t363 => (spoorlaw09_AddrBetween.j1 kj6 t363 a0_0 a0_1 a0_2 a0_3 a1_0 a1_1 a1_2 a1_3))))) = some r := H
      have A42 := Ax A420
      clear A420
      replace H := Option.bind_eq_some_iff.mp H
      obtain ⟨t360, A430, H⟩ := H
      replace H : (if t360 ≤ 0 then ((addr_Cmp.f kj6 a2_0 a2_1 t353 t354).bind fun t361 => (if (t359 != (decide (t361 ≤ 0))) = true then (spoorlaw09_AddrBetween.j1 kj6 true a0_0 a0_1 a0_2 a0_3 a1_0 a1_1 a1_2 a1_3) else ((addr_Has.f kj6 a0_0 a0_1 a0_2 a0_3 (!a0_0) a2_0 a2_1).bind fun t362 => (spoorlaw09_AddrBetween.j1 kj6 t362 a0_0 a0_1 a0_2 a0_3 a1_0 a1_1 a1_2 a1_3)))) else (if (t359 != false) = true then (spoorlaw09_AddrBetween.j1 kj6 true a0_0 a0_1 a0_2 a0_3 a1_0 a1_1 a1_2 a1_3) else ((addr_Has.f kj6 a0_0 a0_1 a0_2 a0_3 (!a0_0) a2_0 a2_1).bind fun t363 => (spoorlaw09_AddrBetween.j1 kj6 t363 a0_0 a0_1 a0_2 a0_3 a1_0 a1_1 a1_2 a1_3)))) = some r := H
      have A43 := Ax A430
      clear A430
      by_cases c44 : t360 ≤ 0
      ·rw [if_pos c44] at H
       have c44b0 : decide (t360 ≤ 0) = true := decide_eq_true c44
       clear c44
       (first | rw [c44b0] | (simp only [i64_w, i32_w]; rw [c44b0]) | skip)
       replace H := Option.bind_eq_some_iff.mp H
       obtain ⟨t361, A450, H⟩ := H
       replace H : (if (t359 != (decide (t361 ≤ 0))) = true then (spoorlaw09_AddrBetween.j1 kj6 true a0_0 a0_1 a0_2 a0_3 a1_0 a1_1 a1_2 a1_3) else ((addr_Has.f kj6 a0_0 a0_1 a0_2 a0_3 (!a0_0) a2_0 a2_1).bind fun t362 => (spoorlaw09_AddrBetween.j1 kj6 t362 a0_0 a0_1 a0_2 a0_3 a1_0 a1_1 a1_2 a1_3))) = some r := H
       have A45 := Ax A450
       clear A450
       by_cases c46 : (t359 != (decide (t361 ≤ 0))) = true
       ·rw [if_pos c46] at H
        have c46b0 : (t359 != (decide (t361 ≤ 0))) = true := c46
        (try (have c46b1 : decide (t359 = (decide (t361 ≤ 0))) = false := by simpa using c46))
        (try (have c46b2 : (t359 == (decide (t361 ≤ 0))) = false := by simpa using c46))
        (try (have c46b3 : ¬ (t359 = (decide (t361 ≤ 0))) := by simpa using c46))
        clear c46
        have H' := Ax H
        clear H
        try go_wp2
        have n0_ := Ax (blk_drew BK349.out)
        have n1_ := Ax (blk_drew BK350.out)
        have n2_ := Ax (blk_drew BK351.out)
        have n3_ := Ax (blk_drew BK356.out)
        have n4_ := Ax (below_drew1 HB.out)
        clear BK349
        clear BK350
        clear BK351
        clear BK356
        clear HB
        have BK349 := n0_
        have BK350 := n1_
        have BK351 := n2_
        have BK356 := n3_
        have HB := n4_
        clear n0_ n1_ n2_ n3_ n4_
        refine start_ (n := 25) (S := fun w' => w'.cell? ⟨gb349, 0, none⟩ = some (.bool a0_0) ∧ w'.cell? ⟨gb349, 1, none⟩ = some (.int .u64 a0_1) ∧ w'.cell? ⟨gb349, 2, none⟩ = some (.int .u64 a0_2) ∧ w'.cell? ⟨gb349, 3, none⟩ = some (.int .i64 a0_3) ∧ w'.cell? ⟨gb351, 0, none⟩ = some (.int .u64 a2_0) ∧ w'.cell? ⟨gb351, 1, none⟩ = some (.int .u64 a2_1) ∧ w'.cell? ⟨gb356, 0, none⟩ = some (.int .u64 t353) ∧ w'.cell? ⟨gb356, 1, none⟩ = some (.int .u64 t354)) (ds := []) #[fa,fa,fa,fa,fa,fa,fa,fa,fa,fa,fa,fa,fa,fa,fa,fa,fa,fa,fa,fa,fa,fa,fa,fa,fa] (by kernel_rfl) rfl rfl ⟨(blk_cell BK349.out 0).trans rfl, (blk_cell BK349.out 1).trans rfl, (blk_cell BK349.out 2).trans rfl, (blk_cell BK349.out 3).trans rfl, (blk_cell BK351.out 0).trans rfl, (blk_cell BK351.out 1).trans rfl, (blk_cell BK356.out 0).trans rfl, (blk_cell BK356.out 1).trans rfl⟩ (fun hHeld => ?_); refine with_tabW spoorlaw09_AddrBetween.tab6 spoorlaw09_AddrBetween.bits6 (fun HT_ HW_ => ?_)
        generalize wc.drew = w47 at BK349 BK350 BK351 BK356 HB hHeld ⊢
        refine pure_ (i := 1) (N := some 34) (v := ?_) (a' := ?_) #[fa,tr,fa,fa,fa,fa,fa,fa,fa,fa,fa,fa,fa,fa,fa,fa,fa,fa,fa,fa,fa,fa,fa,fa,fa] rfl rfl (any_of HT_.out (by kernel_rfl)) (fun _ _ _ h => h) (Or.inl ⟨by rfl, ?_⟩) ?_ ?_
        rotate_left
        ·intro w'
         go_simp
         with_reducible rfl
        rotate_left
        ·simp only [sP]
         rfl
        refine pure_ (i := 5) (N := some 38) (v := ?_) (a' := ?_) #[fa,tr,fa,fa,fa,tr,fa,fa,fa,fa,fa,fa,fa,fa,fa,fa,fa,fa,fa,fa,fa,fa,fa,fa,fa] rfl rfl (any_of HT_.out (by kernel_rfl)) (fun _ _ _ h => h) (Or.inl ⟨by rfl, ?_⟩) ?_ ?_
        rotate_left
        ·intro w'
         go_simp
         with_reducible rfl
        rotate_left
        ·simp only [sP]
         rfl
        refine take_ (i := 0) (N := some 33) (v := ?_) (a' := ?_) #[tr,tr,fa,fa,fa,tr,fa,fa,fa,fa,fa,fa,fa,fa,fa,fa,fa,fa,fa,fa,fa,fa,fa,fa,fa] rfl rfl (take_ofW HT_.out HW_.out (by kernel_rfl)) (fun _ _ _ h => h) (Or.inl ⟨by rfl, ?_⟩) hHeld ?_ ?_
        rotate_left
        ·rintro w' ⟨s0, s1, s2, s3, s4, s5, s6, s7⟩
         go_simp
         with_reducible rfl
        rotate_left
        ·simp only [sP]
         rfl
        refine take_ (i := 2) (N := some 35) (v := ?_) (a' := ?_) #[tr,tr,tr,fa,fa,tr,fa,fa,fa,fa,fa,fa,fa,fa,fa,fa,fa,fa,fa,fa,fa,fa,fa,fa,fa] rfl rfl (take_ofW HT_.out HW_.out (by kernel_rfl)) (fun _ _ _ h => h) (Or.inl ⟨by rfl, ?_⟩) hHeld ?_ ?_
        rotate_left
        ·rintro w' ⟨s0, s1, s2, s3, s4, s5, s6, s7⟩
         go_simp
         with_reducible rfl
        rotate_left
        ·simp only [sP]
         rfl
        refine take_ (i := 3) (N := some 36) (v := ?_) (a' := ?_) #[tr,tr,tr,tr,fa,tr,fa,fa,fa,fa,fa,fa,fa,fa,fa,fa,fa,fa,fa,fa,fa,fa,fa,fa,fa] rfl rfl (take_ofW HT_.out HW_.out (by kernel_rfl)) (fun _ _ _ h => h) (Or.inl ⟨by rfl, ?_⟩) hHeld ?_ ?_
        rotate_left
        ·rintro w' ⟨s0, s1, s2, s3, s4, s5, s6, s7⟩
         go_simp
         with_reducible rfl
        rotate_left
        ·simp only [sP]
         rfl
        refine take_ (i := 6) (N := some 39) (v := ?_) (a' := ?_) #[tr,tr,tr,tr,fa,tr,tr,fa,fa,fa,fa,fa,fa,fa,fa,fa,fa,fa,fa,fa,fa,fa,fa,fa,fa] rfl rfl (take_ofW HT_.out HW_.out (by kernel_rfl)) (fun _ _ _ h => h) (Or.inl ⟨by rfl, ?_⟩) hHeld ?_ ?_
        rotate_left
        ·rintro w' ⟨s0, s1, s2, s3, s4, s5, s6, s7⟩
         go_simp
         with_reducible rfl
        rotate_left
        ·simp only [sP]
         rfl
        refine take_ (i := 7) (N := some 40) (v := ?_) (a' := ?_) #[tr,tr,tr,tr,fa,tr,tr,tr,fa,fa,fa,fa,fa,fa,fa,fa,fa,fa,fa,fa,fa,fa,fa,fa,fa] rfl rfl (take_ofW HT_.out HW_.out (by kernel_rfl)) (fun _ _ _ h => h) (Or.inl ⟨by rfl, ?_⟩) hHeld ?_ ?_
        rotate_left
        ·rintro w' ⟨s0, s1, s2, s3, s4, s5, s6, s7⟩
         go_simp
         with_reducible rfl
        rotate_left
        ·simp only [sP]
         rfl
        refine one_ (i := 4) (N := some 37) #[tr,tr,tr,tr,tr,tr,tr,tr,fa,fa,fa,fa,fa,fa,fa,fa,fa,fa,fa,fa,fa,fa,fa,fa,fa] rfl rfl (one_of HT_.out (by kernel_rfl)) (by decide) (fun K hK => ?_)
        refine goes_ Try.func22 (by kernel_rfl) rfl #[.agg #[.bool a0_0, .int .u64 a0_1, .int .u64 a0_2, .int .i64 a0_3], .bool a0_0, .agg #[.int .u64 a2_0, .int .u64 a2_1]] (by rfl) rfl rfl gS ?_
        with_reducible refine (addr_Has.calls kj6 a0_0 a0_1 a0_2 a0_3 a0_0 a2_0 a2_1 t359 _ A42.out).mono ?_
        rintro e w48 ⟨rfl, hb⟩
        refine ⟨_, rfl, ?_⟩
        have n0_ := Ax (blk_below (g := gb349) (o := .cells #[.bool a0_0, .int .u64 a0_1, .int .u64 a0_2, .int .i64 a0_3] 33 (0, 0)) (bf0 BK349.out) hb)
        have n1_ := Ax (blk_below (g := gb350) (o := .cells #[.bool a1_0, .int .u64 a1_1, .int .u64 a1_2, .int .i64 a1_3] 33 (0, 0)) (bf0 BK350.out) hb)
        have n2_ := Ax (blk_below (g := gb351) (o := .cells #[.int .u64 a2_0, .int .u64 a2_1] 24 (0, 0)) (bf0 BK351.out) hb)
        have n3_ := Ax (blk_below (g := gb356) (o := .cells #[.int .u64 t353, .int .u64 t354] 24 (0, 0)) (bf0 BK356.out) hb)
        have n4_ := Ax (below_step (bw4 HB.out GE349.out GE350.out GE351.out GE356.out) hb)
        clear BK349
        clear BK350
        clear BK351
        clear BK356
        clear HB
        have BK349 := n0_
        have BK350 := n1_
        have BK351 := n2_
        have BK356 := n3_
        have HB := n4_
        clear n0_ n1_ n2_ n3_ n4_
        (try clear hb)
        (try clear hb2)
        (try clear hk)
        (try clear hi)
        refine hK.out _ _ ⟨(blk_cell BK349.out 0).trans rfl, (blk_cell BK349.out 1).trans rfl, (blk_cell BK349.out 2).trans rfl, (blk_cell BK349.out 3).trans rfl, (blk_cell BK351.out 0).trans rfl, (blk_cell BK351.out 1).trans rfl, (blk_cell BK356.out 0).trans rfl, (blk_cell BK356.out 1).trans rfl⟩ (fun hHeld => ?_)
        clear hK K
        refine norm_ (a' := ?_) ?_ ?_
        rotate_left
        ·show Act.put _ (some 37) _ = _
         simp only [sP]
         rfl
        refine one_ (i := 8) (N := some 41) #[tr,tr,tr,tr,tr,tr,tr,tr,tr,fa,fa,fa,fa,fa,fa,fa,fa,fa,fa,fa,fa,fa,fa,fa,fa] rfl rfl (one_of HT_.out (by kernel_rfl)) (by decide) (fun K hK => ?_)
        refine goes_ Try.func14 (by kernel_rfl) rfl #[.agg #[.int .u64 a0_1, .int .u64 a0_2], .agg #[.int .u64 a2_0, .int .u64 a2_1]] (by rfl) rfl rfl gS ?_
        with_reducible refine (addr_Cmp.calls kj6 a0_1 a0_2 a2_0 a2_1 t360 _ A43.out).mono ?_
        rintro e w49 ⟨rfl, hb⟩
        refine ⟨_, rfl, ?_⟩
        have n0_ := Ax (blk_below (g := gb349) (o := .cells #[.bool a0_0, .int .u64 a0_1, .int .u64 a0_2, .int .i64 a0_3] 33 (0, 0)) (bf0 BK349.out) hb)
        have n1_ := Ax (blk_below (g := gb350) (o := .cells #[.bool a1_0, .int .u64 a1_1, .int .u64 a1_2, .int .i64 a1_3] 33 (0, 0)) (bf0 BK350.out) hb)
        have n2_ := Ax (blk_below (g := gb351) (o := .cells #[.int .u64 a2_0, .int .u64 a2_1] 24 (0, 0)) (bf0 BK351.out) hb)
        have n3_ := Ax (blk_below (g := gb356) (o := .cells #[.int .u64 t353, .int .u64 t354] 24 (0, 0)) (bf0 BK356.out) hb)
        have n4_ := Ax (below_step (bw4 HB.out GE349.out GE350.out GE351.out GE356.out) hb)
        clear BK349
        clear BK350
        clear BK351
        clear BK356
        clear HB
        have BK349 := n0_
        have BK350 := n1_
        have BK351 := n2_
        have BK356 := n3_
        have HB := n4_
        clear n0_ n1_ n2_ n3_ n4_
        (try clear hb)
        (try clear hb2)
        (try clear hk)
        (try clear hi)
        refine hK.out _ _ ⟨(blk_cell BK349.out 0).trans rfl, (blk_cell BK349.out 1).trans rfl, (blk_cell BK349.out 2).trans rfl, (blk_cell BK349.out 3).trans rfl, (blk_cell BK351.out 0).trans rfl, (blk_cell BK351.out 1).trans rfl, (blk_cell BK356.out 0).trans rfl, (blk_cell BK356.out 1).trans rfl⟩ (fun hHeld => ?_)
        clear hK K
        refine norm_ (a' := ?_) ?_ ?_
        rotate_left
        ·show Act.put _ (some 41) _ = _
         simp only [sP]
         rfl
        refine pure_ (i := 9) (N := some 42) (v := ?_) (a' := ?_) #[tr,tr,tr,tr,tr,tr,tr,tr,tr,tr,fa,fa,fa,fa,fa,fa,fa,fa,fa,fa,fa,fa,fa,fa,fa] rfl rfl (any_of HT_.out (by kernel_rfl)) (fun _ _ _ h => h) (Or.inl ⟨by rfl, ?_⟩) ?_ ?_
        rotate_left
        ·intro w'
         go_simp
         with_reducible rfl
        rotate_left
        ·simp only [sP]
         rfl
        refine pure_ (i := 10) (N := some 43) (v := ?_) (a' := ?_) #[tr,tr,tr,tr,tr,tr,tr,tr,tr,tr,tr,fa,fa,fa,fa,fa,fa,fa,fa,fa,fa,fa,fa,fa,fa] rfl rfl (any_of HT_.out (by kernel_rfl)) (fun _ _ _ h => h) (Or.inl ⟨by rfl, ?_⟩) ?_ ?_
        rotate_left
        ·intro w'
         go_simp
         with_reducible rfl
        rotate_left
        ·simp only [sP]
         rfl
        refine take_ (i := 11) (N := some 44) (v := ?_) (a' := ?_) #[tr,tr,tr,tr,tr,tr,tr,tr,tr,tr,tr,tr,fa,fa,fa,fa,fa,fa,fa,fa,fa,fa,fa,fa,fa] rfl rfl (take_ofW HT_.out HW_.out (by kernel_rfl)) (fun _ _ _ h => h) (Or.inl ⟨by rfl, ?_⟩) hHeld ?_ ?_
        rotate_left
        ·rintro w' ⟨s0, s1, s2, s3, s4, s5, s6, s7⟩
         go_simp
         with_reducible rfl
        rotate_left
        ·simp only [sP]
         rfl
        refine take_ (i := 12) (N := some 45) (v := ?_) (a' := ?_) #[tr,tr,tr,tr,tr,tr,tr,tr,tr,tr,tr,tr,tr,fa,fa,fa,fa,fa,fa,fa,fa,fa,fa,fa,fa] rfl rfl (take_ofW HT_.out HW_.out (by kernel_rfl)) (fun _ _ _ h => h) (Or.inl ⟨by rfl, ?_⟩) hHeld ?_ ?_
        rotate_left
        ·rintro w' ⟨s0, s1, s2, s3, s4, s5, s6, s7⟩
         go_simp
         with_reducible rfl
        rotate_left
        ·simp only [sP]
         rfl
        refine one_ (i := 13) (N := some 46) #[tr,tr,tr,tr,tr,tr,tr,tr,tr,tr,tr,tr,tr,tr,fa,fa,fa,fa,fa,fa,fa,fa,fa,fa,fa] rfl rfl (one_of HT_.out (by kernel_rfl)) (by decide) (fun K hK => ?_)
        refine goes_ Try.func14 (by kernel_rfl) rfl #[.agg #[.int .u64 a2_0, .int .u64 a2_1], .agg #[.int .u64 t353, .int .u64 t354]] (by rfl) rfl rfl gS ?_
        with_reducible refine (addr_Cmp.calls kj6 a2_0 a2_1 t353 t354 t361 _ A45.out).mono ?_
        rintro e w50 ⟨rfl, hb⟩
        refine ⟨_, rfl, ?_⟩
        have n0_ := Ax (blk_below (g := gb349) (o := .cells #[.bool a0_0, .int .u64 a0_1, .int .u64 a0_2, .int .i64 a0_3] 33 (0, 0)) (bf0 BK349.out) hb)
        have n1_ := Ax (blk_below (g := gb350) (o := .cells #[.bool a1_0, .int .u64 a1_1, .int .u64 a1_2, .int .i64 a1_3] 33 (0, 0)) (bf0 BK350.out) hb)
        have n2_ := Ax (blk_below (g := gb351) (o := .cells #[.int .u64 a2_0, .int .u64 a2_1] 24 (0, 0)) (bf0 BK351.out) hb)
        have n3_ := Ax (blk_below (g := gb356) (o := .cells #[.int .u64 t353, .int .u64 t354] 24 (0, 0)) (bf0 BK356.out) hb)
        have n4_ := Ax (below_step (bw4 HB.out GE349.out GE350.out GE351.out GE356.out) hb)
        clear BK349
        clear BK350
        clear BK351
        clear BK356
        clear HB
        have BK349 := n0_
        have BK350 := n1_
        have BK351 := n2_
        have BK356 := n3_
        have HB := n4_
        clear n0_ n1_ n2_ n3_ n4_
        (try clear hb)
        (try clear hb2)
        (try clear hk)
        (try clear hi)
        refine hK.out _ _ ⟨(blk_cell BK349.out 0).trans rfl, (blk_cell BK349.out 1).trans rfl, (blk_cell BK349.out 2).trans rfl, (blk_cell BK349.out 3).trans rfl, (blk_cell BK351.out 0).trans rfl, (blk_cell BK351.out 1).trans rfl, (blk_cell BK356.out 0).trans rfl, (blk_cell BK356.out 1).trans rfl⟩ (fun hHeld => ?_)
        clear hK K
        refine norm_ (a' := ?_) ?_ ?_
        rotate_left
        ·show Act.put _ (some 46) _ = _
         simp only [sP]
         rfl
        refine pure_ (i := 14) (N := some 47) (v := ?_) (a' := ?_) #[tr,tr,tr,tr,tr,tr,tr,tr,tr,tr,tr,tr,tr,tr,tr,fa,fa,fa,fa,fa,fa,fa,fa,fa,fa] rfl rfl (any_of HT_.out (by kernel_rfl)) (fun _ _ _ h => h) (Or.inl ⟨by rfl, ?_⟩) ?_ ?_
        rotate_left
        ·intro w'
         go_simp
         with_reducible rfl
        rotate_left
        ·simp only [sP]
         rfl
        refine pure_ (i := 15) (N := some 48) (v := ?_) (a' := ?_) #[tr,tr,tr,tr,tr,tr,tr,tr,tr,tr,tr,tr,tr,tr,tr,tr,fa,fa,fa,fa,fa,fa,fa,fa,fa] rfl rfl (any_of HT_.out (by kernel_rfl)) (fun _ _ _ h => h) (Or.inl ⟨by rfl, ?_⟩) ?_ ?_
        rotate_left
        ·intro w'
         go_simp
         with_reducible rfl
        rotate_left
        ·simp only [sP]
         rfl
        refine pure_ (i := 16) (N := some 49) (v := ?_) (a' := ?_) #[tr,tr,tr,tr,tr,tr,tr,tr,tr,tr,tr,tr,tr,tr,tr,tr,tr,fa,fa,fa,fa,fa,fa,fa,fa] rfl rfl (any_of HT_.out (by kernel_rfl)) (fun _ _ _ h => h) (Or.inl ⟨by rfl, ?_⟩) ?_ ?_
        rotate_left
        ·intro w'
         go_simp
         with_reducible rfl
        rotate_left
        ·simp only [sP]
         rfl
        refine pure_ (i := 17) (N := some 50) (v := ?_) (a' := ?_) #[tr,tr,tr,tr,tr,tr,tr,tr,tr,tr,tr,tr,tr,tr,tr,tr,tr,tr,fa,fa,fa,fa,fa,fa,fa] rfl rfl (any_of HT_.out (by kernel_rfl)) (fun _ _ _ h => h) (Or.inl ⟨by rfl, ?_⟩) ?_ ?_
        rotate_left
        ·intro w'
         go_simp
         with_reducible rfl
        rotate_left
        ·simp only [sP]
         rfl
        refine pure_ (i := 18) (N := some 51) (v := undef) (a' := ?_) #[tr,tr,tr,tr,tr,tr,tr,tr,tr,tr,tr,tr,tr,tr,tr,tr,tr,tr,tr,fa,fa,fa,fa,fa,fa] rfl rfl (any_of HT_.out (by kernel_rfl)) (fun _ _ _ h => h) (Or.inr ⟨by rfl, rfl⟩) ?_ ?_
        rotate_left
        ·simp only [sP]
         rfl
        refine pure_ (i := 19) (N := some 52) (v := undef) (a' := ?_) #[tr,tr,tr,tr,tr,tr,tr,tr,tr,tr,tr,tr,tr,tr,tr,tr,tr,tr,tr,tr,fa,fa,fa,fa,fa] rfl rfl (any_of HT_.out (by kernel_rfl)) (fun _ _ _ h => h) (Or.inr ⟨by rfl, rfl⟩) ?_ ?_
        rotate_left
        ·simp only [sP]
         rfl
        refine pure_ (i := 20) (N := some 53) (v := undef) (a' := ?_) #[tr,tr,tr,tr,tr,tr,tr,tr,tr,tr,tr,tr,tr,tr,tr,tr,tr,tr,tr,tr,tr,fa,fa,fa,fa] rfl rfl (any_of HT_.out (by kernel_rfl)) (fun _ _ _ h => h) (Or.inr ⟨by rfl, rfl⟩) ?_ ?_
        rotate_left
        ·simp only [sP]
         rfl
        refine pure_ (i := 21) (N := some 54) (v := undef) (a' := ?_) #[tr,tr,tr,tr,tr,tr,tr,tr,tr,tr,tr,tr,tr,tr,tr,tr,tr,tr,tr,tr,tr,tr,fa,fa,fa] rfl rfl (any_of HT_.out (by kernel_rfl)) (fun _ _ _ h => h) (Or.inr ⟨by rfl, rfl⟩) ?_ ?_
        rotate_left
        ·simp only [sP]
         rfl
        refine pure_ (i := 22) (N := some 55) (v := undef) (a' := ?_) #[tr,tr,tr,tr,tr,tr,tr,tr,tr,tr,tr,tr,tr,tr,tr,tr,tr,tr,tr,tr,tr,tr,tr,fa,fa] rfl rfl (any_of HT_.out (by kernel_rfl)) (fun _ _ _ h => h) (Or.inr ⟨by rfl, rfl⟩) ?_ ?_
        rotate_left
        ·simp only [sP]
         rfl
        refine pure_ (i := 23) (N := some 56) (v := undef) (a' := ?_) #[tr,tr,tr,tr,tr,tr,tr,tr,tr,tr,tr,tr,tr,tr,tr,tr,tr,tr,tr,tr,tr,tr,tr,tr,fa] rfl rfl (any_of HT_.out (by kernel_rfl)) (fun _ _ _ h => h) (Or.inr ⟨by rfl, rfl⟩) ?_ ?_
        rotate_left
        ·simp only [sP]
         rfl
        refine pure_ (i := 24) (N := some 57) (v := ?_) (a' := ?_) #[tr,tr,tr,tr,tr,tr,tr,tr,tr,tr,tr,tr,tr,tr,tr,tr,tr,tr,tr,tr,tr,tr,tr,tr,tr] rfl rfl (any_of HT_.out (by kernel_rfl)) (fun _ _ _ h => h) (Or.inl ⟨by rfl, ?_⟩) ?_ ?_
        rotate_left
        ·intro w'
         go_simp
         with_reducible rfl
        rotate_left
        ·simp only [sP]
         rfl
        refine done_ (done_of HT_.out (by kernel_rfl)) ?_
        try go_wp2
        go_meet
        case rel => exact ⟨_, (true), rS, H', ⟨by have := HJ6.out; first | omega | exact Nat.le_refl _⟩, ⟨bf0 BK349.out⟩, ⟨bf0 BK350.out⟩, ⟨bf0 BK351.out⟩, ⟨bf0 BK356.out⟩, ⟨bw4 HB.out GE349.out GE350.out GE351.out GE356.out⟩⟩
       ·rw [if_neg c46] at H
        have c46b0 : (t359 != (decide (t361 ≤ 0))) = false := by simpa using c46
        (try (have c46b1 : decide (t359 = (decide (t361 ≤ 0))) = true := by simpa using c46))
        (try (have c46b2 : (t359 == (decide (t361 ≤ 0))) = true := by simpa using c46))
        clear c46
        replace H := Option.bind_eq_some_iff.mp H
        obtain ⟨t362, A510, H⟩ := H
        replace H : (spoorlaw09_AddrBetween.j1 kj6 t362 a0_0 a0_1 a0_2 a0_3 a1_0 a1_1 a1_2 a1_3) = some r := H
        have A51 := Ax A510
        clear A510
        have H' := Ax H
        clear H
        try go_wp2
        have n0_ := Ax (blk_drew BK349.out)
        have n1_ := Ax (blk_drew BK350.out)
        have n2_ := Ax (blk_drew BK351.out)
        have n3_ := Ax (blk_drew BK356.out)
        have n4_ := Ax (below_drew1 HB.out)
        clear BK349
        clear BK350
        clear BK351
        clear BK356
        clear HB
        have BK349 := n0_
        have BK350 := n1_
        have BK351 := n2_
        have BK356 := n3_
        have HB := n4_
        clear n0_ n1_ n2_ n3_ n4_
        refine start_ (n := 25) (S := fun w' => w'.cell? ⟨gb349, 0, none⟩ = some (.bool a0_0) ∧ w'.cell? ⟨gb349, 1, none⟩ = some (.int .u64 a0_1) ∧ w'.cell? ⟨gb349, 2, none⟩ = some (.int .u64 a0_2) ∧ w'.cell? ⟨gb349, 3, none⟩ = some (.int .i64 a0_3) ∧ w'.cell? ⟨gb351, 0, none⟩ = some (.int .u64 a2_0) ∧ w'.cell? ⟨gb351, 1, none⟩ = some (.int .u64 a2_1) ∧ w'.cell? ⟨gb356, 0, none⟩ = some (.int .u64 t353) ∧ w'.cell? ⟨gb356, 1, none⟩ = some (.int .u64 t354)) (ds := []) #[fa,fa,fa,fa,fa,fa,fa,fa,fa,fa,fa,fa,fa,fa,fa,fa,fa,fa,fa,fa,fa,fa,fa,fa,fa] (by kernel_rfl) rfl rfl ⟨(blk_cell BK349.out 0).trans rfl, (blk_cell BK349.out 1).trans rfl, (blk_cell BK349.out 2).trans rfl, (blk_cell BK349.out 3).trans rfl, (blk_cell BK351.out 0).trans rfl, (blk_cell BK351.out 1).trans rfl, (blk_cell BK356.out 0).trans rfl, (blk_cell BK356.out 1).trans rfl⟩ (fun hHeld => ?_); refine with_tabW spoorlaw09_AddrBetween.tab6 spoorlaw09_AddrBetween.bits6 (fun HT_ HW_ => ?_)
        generalize wc.drew = w52 at BK349 BK350 BK351 BK356 HB hHeld ⊢
        refine pure_ (i := 1) (N := some 34) (v := ?_) (a' := ?_) #[fa,tr,fa,fa,fa,fa,fa,fa,fa,fa,fa,fa,fa,fa,fa,fa,fa,fa,fa,fa,fa,fa,fa,fa,fa] rfl rfl (any_of HT_.out (by kernel_rfl)) (fun _ _ _ h => h) (Or.inl ⟨by rfl, ?_⟩) ?_ ?_
        rotate_left
        ·intro w'
         go_simp
         with_reducible rfl
        rotate_left
        ·simp only [sP]
         rfl
        refine pure_ (i := 5) (N := some 38) (v := ?_) (a' := ?_) #[fa,tr,fa,fa,fa,tr,fa,fa,fa,fa,fa,fa,fa,fa,fa,fa,fa,fa,fa,fa,fa,fa,fa,fa,fa] rfl rfl (any_of HT_.out (by kernel_rfl)) (fun _ _ _ h => h) (Or.inl ⟨by rfl, ?_⟩) ?_ ?_
        rotate_left
        ·intro w'
         go_simp
         with_reducible rfl
        rotate_left
        ·simp only [sP]
         rfl
        refine take_ (i := 0) (N := some 33) (v := ?_) (a' := ?_) #[tr,tr,fa,fa,fa,tr,fa,fa,fa,fa,fa,fa,fa,fa,fa,fa,fa,fa,fa,fa,fa,fa,fa,fa,fa] rfl rfl (take_ofW HT_.out HW_.out (by kernel_rfl)) (fun _ _ _ h => h) (Or.inl ⟨by rfl, ?_⟩) hHeld ?_ ?_
        rotate_left
        ·rintro w' ⟨s0, s1, s2, s3, s4, s5, s6, s7⟩
         go_simp
         with_reducible rfl
        rotate_left
        ·simp only [sP]
         rfl
        refine take_ (i := 2) (N := some 35) (v := ?_) (a' := ?_) #[tr,tr,tr,fa,fa,tr,fa,fa,fa,fa,fa,fa,fa,fa,fa,fa,fa,fa,fa,fa,fa,fa,fa,fa,fa] rfl rfl (take_ofW HT_.out HW_.out (by kernel_rfl)) (fun _ _ _ h => h) (Or.inl ⟨by rfl, ?_⟩) hHeld ?_ ?_
        rotate_left
        ·rintro w' ⟨s0, s1, s2, s3, s4, s5, s6, s7⟩
         go_simp
         with_reducible rfl
        rotate_left
        ·simp only [sP]
         rfl
        refine take_ (i := 3) (N := some 36) (v := ?_) (a' := ?_) #[tr,tr,tr,tr,fa,tr,fa,fa,fa,fa,fa,fa,fa,fa,fa,fa,fa,fa,fa,fa,fa,fa,fa,fa,fa] rfl rfl (take_ofW HT_.out HW_.out (by kernel_rfl)) (fun _ _ _ h => h) (Or.inl ⟨by rfl, ?_⟩) hHeld ?_ ?_
        rotate_left
        ·rintro w' ⟨s0, s1, s2, s3, s4, s5, s6, s7⟩
         go_simp
         with_reducible rfl
        rotate_left
        ·simp only [sP]
         rfl
        refine take_ (i := 6) (N := some 39) (v := ?_) (a' := ?_) #[tr,tr,tr,tr,fa,tr,tr,fa,fa,fa,fa,fa,fa,fa,fa,fa,fa,fa,fa,fa,fa,fa,fa,fa,fa] rfl rfl (take_ofW HT_.out HW_.out (by kernel_rfl)) (fun _ _ _ h => h) (Or.inl ⟨by rfl, ?_⟩) hHeld ?_ ?_
        rotate_left
        ·rintro w' ⟨s0, s1, s2, s3, s4, s5, s6, s7⟩
         go_simp
         with_reducible rfl
        rotate_left
        ·simp only [sP]
         rfl
        refine take_ (i := 7) (N := some 40) (v := ?_) (a' := ?_) #[tr,tr,tr,tr,fa,tr,tr,tr,fa,fa,fa,fa,fa,fa,fa,fa,fa,fa,fa,fa,fa,fa,fa,fa,fa] rfl rfl (take_ofW HT_.out HW_.out (by kernel_rfl)) (fun _ _ _ h => h) (Or.inl ⟨by rfl, ?_⟩) hHeld ?_ ?_
        rotate_left
        ·rintro w' ⟨s0, s1, s2, s3, s4, s5, s6, s7⟩
         go_simp
         with_reducible rfl
        rotate_left
        ·simp only [sP]
         rfl
        refine one_ (i := 4) (N := some 37) #[tr,tr,tr,tr,tr,tr,tr,tr,fa,fa,fa,fa,fa,fa,fa,fa,fa,fa,fa,fa,fa,fa,fa,fa,fa] rfl rfl (one_of HT_.out (by kernel_rfl)) (by decide) (fun K hK => ?_)
        refine goes_ Try.func22 (by kernel_rfl) rfl #[.agg #[.bool a0_0, .int .u64 a0_1, .int .u64 a0_2, .int .i64 a0_3], .bool a0_0, .agg #[.int .u64 a2_0, .int .u64 a2_1]] (by rfl) rfl rfl gS ?_
        with_reducible refine (addr_Has.calls kj6 a0_0 a0_1 a0_2 a0_3 a0_0 a2_0 a2_1 t359 _ A42.out).mono ?_
        rintro e w53 ⟨rfl, hb⟩
        refine ⟨_, rfl, ?_⟩
        have n0_ := Ax (blk_below (g := gb349) (o := .cells #[.bool a0_0, .int .u64 a0_1, .int .u64 a0_2, .int .i64 a0_3] 33 (0, 0)) (bf0 BK349.out) hb)
        have n1_ := Ax (blk_below (g := gb350) (o := .cells #[.bool a1_0, .int .u64 a1_1, .int .u64 a1_2, .int .i64 a1_3] 33 (0, 0)) (bf0 BK350.out) hb)
        have n2_ := Ax (blk_below (g := gb351) (o := .cells #[.int .u64 a2_0, .int .u64 a2_1] 24 (0, 0)) (bf0 BK351.out) hb)
        have n3_ := Ax (blk_below (g := gb356) (o := .cells #[.int .u64 t353, .int .u64 t354] 24 (0, 0)) (bf0 BK356.out) hb)
        have n4_ := Ax (below_step (bw4 HB.out GE349.out GE350.out GE351.out GE356.out) hb)
        clear BK349
        clear BK350
        clear BK351
        clear BK356
        clear HB
        have BK349 := n0_
        have BK350 := n1_
        have BK351 := n2_
        have BK356 := n3_
        have HB := n4_
        clear n0_ n1_ n2_ n3_ n4_
        (try clear hb)
        (try clear hb2)
        (try clear hk)
        (try clear hi)
        refine hK.out _ _ ⟨(blk_cell BK349.out 0).trans rfl, (blk_cell BK349.out 1).trans rfl, (blk_cell BK349.out 2).trans rfl, (blk_cell BK349.out 3).trans rfl, (blk_cell BK351.out 0).trans rfl, (blk_cell BK351.out 1).trans rfl, (blk_cell BK356.out 0).trans rfl, (blk_cell BK356.out 1).trans rfl⟩ (fun hHeld => ?_)
        clear hK K
        refine norm_ (a' := ?_) ?_ ?_
        rotate_left
        ·show Act.put _ (some 37) _ = _
         simp only [sP]
         rfl
        refine one_ (i := 8) (N := some 41) #[tr,tr,tr,tr,tr,tr,tr,tr,tr,fa,fa,fa,fa,fa,fa,fa,fa,fa,fa,fa,fa,fa,fa,fa,fa] rfl rfl (one_of HT_.out (by kernel_rfl)) (by decide) (fun K hK => ?_)
        refine goes_ Try.func14 (by kernel_rfl) rfl #[.agg #[.int .u64 a0_1, .int .u64 a0_2], .agg #[.int .u64 a2_0, .int .u64 a2_1]] (by rfl) rfl rfl gS ?_
        with_reducible refine (addr_Cmp.calls kj6 a0_1 a0_2 a2_0 a2_1 t360 _ A43.out).mono ?_
        rintro e w54 ⟨rfl, hb⟩
        refine ⟨_, rfl, ?_⟩
        have n0_ := Ax (blk_below (g := gb349) (o := .cells #[.bool a0_0, .int .u64 a0_1, .int .u64 a0_2, .int .i64 a0_3] 33 (0, 0)) (bf0 BK349.out) hb)
        have n1_ := Ax (blk_below (g := gb350) (o := .cells #[.bool a1_0, .int .u64 a1_1, .int .u64 a1_2, .int .i64 a1_3] 33 (0, 0)) (bf0 BK350.out) hb)
        have n2_ := Ax (blk_below (g := gb351) (o := .cells #[.int .u64 a2_0, .int .u64 a2_1] 24 (0, 0)) (bf0 BK351.out) hb)
        have n3_ := Ax (blk_below (g := gb356) (o := .cells #[.int .u64 t353, .int .u64 t354] 24 (0, 0)) (bf0 BK356.out) hb)
        have n4_ := Ax (below_step (bw4 HB.out GE349.out GE350.out GE351.out GE356.out) hb)
        clear BK349
        clear BK350
        clear BK351
        clear BK356
        clear HB
        have BK349 := n0_
        have BK350 := n1_
        have BK351 := n2_
        have BK356 := n3_
        have HB := n4_
        clear n0_ n1_ n2_ n3_ n4_
        (try clear hb)
        (try clear hb2)
        (try clear hk)
        (try clear hi)
        refine hK.out _ _ ⟨(blk_cell BK349.out 0).trans rfl, (blk_cell BK349.out 1).trans rfl, (blk_cell BK349.out 2).trans rfl, (blk_cell BK349.out 3).trans rfl, (blk_cell BK351.out 0).trans rfl, (blk_cell BK351.out 1).trans rfl, (blk_cell BK356.out 0).trans rfl, (blk_cell BK356.out 1).trans rfl⟩ (fun hHeld => ?_)
        clear hK K
        refine norm_ (a' := ?_) ?_ ?_
        rotate_left
        ·show Act.put _ (some 41) _ = _
         simp only [sP]
         rfl
        refine pure_ (i := 9) (N := some 42) (v := ?_) (a' := ?_) #[tr,tr,tr,tr,tr,tr,tr,tr,tr,tr,fa,fa,fa,fa,fa,fa,fa,fa,fa,fa,fa,fa,fa,fa,fa] rfl rfl (any_of HT_.out (by kernel_rfl)) (fun _ _ _ h => h) (Or.inl ⟨by rfl, ?_⟩) ?_ ?_
        rotate_left
        ·intro w'
         go_simp
         with_reducible rfl
        rotate_left
        ·simp only [sP]
         rfl
        refine pure_ (i := 10) (N := some 43) (v := ?_) (a' := ?_) #[tr,tr,tr,tr,tr,tr,tr,tr,tr,tr,tr,fa,fa,fa,fa,fa,fa,fa,fa,fa,fa,fa,fa,fa,fa] rfl rfl (any_of HT_.out (by kernel_rfl)) (fun _ _ _ h => h) (Or.inl ⟨by rfl, ?_⟩) ?_ ?_
        rotate_left
        ·intro w'
         go_simp
         with_reducible rfl
        rotate_left
        ·simp only [sP]
         rfl
        refine take_ (i := 11) (N := some 44) (v := ?_) (a' := ?_) #[tr,tr,tr,tr,tr,tr,tr,tr,tr,tr,tr,tr,fa,fa,fa,fa,fa,fa,fa,fa,fa,fa,fa,fa,fa] rfl rfl (take_ofW HT_.out HW_.out (by kernel_rfl)) (fun _ _ _ h => h) (Or.inl ⟨by rfl, ?_⟩) hHeld ?_ ?_
        rotate_left
        ·rintro w' ⟨s0, s1, s2, s3, s4, s5, s6, s7⟩
         go_simp
         with_reducible rfl
        rotate_left
        ·simp only [sP]
         rfl
        refine take_ (i := 12) (N := some 45) (v := ?_) (a' := ?_) #[tr,tr,tr,tr,tr,tr,tr,tr,tr,tr,tr,tr,tr,fa,fa,fa,fa,fa,fa,fa,fa,fa,fa,fa,fa] rfl rfl (take_ofW HT_.out HW_.out (by kernel_rfl)) (fun _ _ _ h => h) (Or.inl ⟨by rfl, ?_⟩) hHeld ?_ ?_
        rotate_left
        ·rintro w' ⟨s0, s1, s2, s3, s4, s5, s6, s7⟩
         go_simp
         with_reducible rfl
        rotate_left
        ·simp only [sP]
         rfl
        refine one_ (i := 13) (N := some 46) #[tr,tr,tr,tr,tr,tr,tr,tr,tr,tr,tr,tr,tr,tr,fa,fa,fa,fa,fa,fa,fa,fa,fa,fa,fa] rfl rfl (one_of HT_.out (by kernel_rfl)) (by decide) (fun K hK => ?_)
        refine goes_ Try.func14 (by kernel_rfl) rfl #[.agg #[.int .u64 a2_0, .int .u64 a2_1], .agg #[.int .u64 t353, .int .u64 t354]] (by rfl) rfl rfl gS ?_
        with_reducible refine (addr_Cmp.calls kj6 a2_0 a2_1 t353 t354 t361 _ A45.out).mono ?_
        rintro e w55 ⟨rfl, hb⟩
        refine ⟨_, rfl, ?_⟩
        have n0_ := Ax (blk_below (g := gb349) (o := .cells #[.bool a0_0, .int .u64 a0_1, .int .u64 a0_2, .int .i64 a0_3] 33 (0, 0)) (bf0 BK349.out) hb)
        have n1_ := Ax (blk_below (g := gb350) (o := .cells #[.bool a1_0, .int .u64 a1_1, .int .u64 a1_2, .int .i64 a1_3] 33 (0, 0)) (bf0 BK350.out) hb)
        have n2_ := Ax (blk_below (g := gb351) (o := .cells #[.int .u64 a2_0, .int .u64 a2_1] 24 (0, 0)) (bf0 BK351.out) hb)
        have n3_ := Ax (blk_below (g := gb356) (o := .cells #[.int .u64 t353, .int .u64 t354] 24 (0, 0)) (bf0 BK356.out) hb)
        have n4_ := Ax (below_step (bw4 HB.out GE349.out GE350.out GE351.out GE356.out) hb)
        clear BK349
        clear BK350
        clear BK351
        clear BK356
        clear HB
        have BK349 := n0_
        have BK350 := n1_
        have BK351 := n2_
        have BK356 := n3_
        have HB := n4_
        clear n0_ n1_ n2_ n3_ n4_
        (try clear hb)
        (try clear hb2)
        (try clear hk)
        (try clear hi)
        refine hK.out _ _ ⟨(blk_cell BK349.out 0).trans rfl, (blk_cell BK349.out 1).trans rfl, (blk_cell BK349.out 2).trans rfl, (blk_cell BK349.out 3).trans rfl, (blk_cell BK351.out 0).trans rfl, (blk_cell BK351.out 1).trans rfl, (blk_cell BK356.out 0).trans rfl, (blk_cell BK356.out 1).trans rfl⟩ (fun hHeld => ?_)
        clear hK K
        refine norm_ (a' := ?_) ?_ ?_
        rotate_left
        ·show Act.put _ (some 46) _ = _
         simp only [sP]
         rfl
        refine pure_ (i := 14) (N := some 47) (v := ?_) (a' := ?_) #[tr,tr,tr,tr,tr,tr,tr,tr,tr,tr,tr,tr,tr,tr,tr,fa,fa,fa,fa,fa,fa,fa,fa,fa,fa] rfl rfl (any_of HT_.out (by kernel_rfl)) (fun _ _ _ h => h) (Or.inl ⟨by rfl, ?_⟩) ?_ ?_
        rotate_left
        ·intro w'
         go_simp
         with_reducible rfl
        rotate_left
        ·simp only [sP]
         rfl
        refine pure_ (i := 15) (N := some 48) (v := ?_) (a' := ?_) #[tr,tr,tr,tr,tr,tr,tr,tr,tr,tr,tr,tr,tr,tr,tr,tr,fa,fa,fa,fa,fa,fa,fa,fa,fa] rfl rfl (any_of HT_.out (by kernel_rfl)) (fun _ _ _ h => h) (Or.inl ⟨by rfl, ?_⟩) ?_ ?_
        rotate_left
        ·intro w'
         go_simp
         with_reducible rfl
        rotate_left
        ·simp only [sP]
         rfl
        refine pure_ (i := 16) (N := some 49) (v := ?_) (a' := ?_) #[tr,tr,tr,tr,tr,tr,tr,tr,tr,tr,tr,tr,tr,tr,tr,tr,tr,fa,fa,fa,fa,fa,fa,fa,fa] rfl rfl (any_of HT_.out (by kernel_rfl)) (fun _ _ _ h => h) (Or.inl ⟨by rfl, ?_⟩) ?_ ?_
        rotate_left
        ·intro w'
         go_simp
         with_reducible rfl
        rotate_left
        ·simp only [sP]
         rfl
        refine pure_ (i := 17) (N := some 50) (v := ?_) (a' := ?_) #[tr,tr,tr,tr,tr,tr,tr,tr,tr,tr,tr,tr,tr,tr,tr,tr,tr,tr,fa,fa,fa,fa,fa,fa,fa] rfl rfl (any_of HT_.out (by kernel_rfl)) (fun _ _ _ h => h) (Or.inl ⟨by rfl, ?_⟩) ?_ ?_
        rotate_left
        ·intro w'
         go_simp
         with_reducible rfl
        rotate_left
        ·simp only [sP]
         rfl
        refine pure_ (i := 19) (N := some 52) (v := ?_) (a' := ?_) #[tr,tr,tr,tr,tr,tr,tr,tr,tr,tr,tr,tr,tr,tr,tr,tr,tr,tr,fa,tr,fa,fa,fa,fa,fa] rfl rfl (any_of HT_.out (by kernel_rfl)) (fun _ _ _ h => h) (Or.inl ⟨by rfl, ?_⟩) ?_ ?_
        rotate_left
        ·intro w'
         go_simp
         with_reducible rfl
        rotate_left
        ·simp only [sP]
         rfl
        refine take_ (i := 18) (N := some 51) (v := ?_) (a' := ?_) #[tr,tr,tr,tr,tr,tr,tr,tr,tr,tr,tr,tr,tr,tr,tr,tr,tr,tr,tr,tr,fa,fa,fa,fa,fa] rfl rfl (take_ofW HT_.out HW_.out (by kernel_rfl)) (fun _ _ _ h => h) (Or.inl ⟨by rfl, ?_⟩) hHeld ?_ ?_
        rotate_left
        ·rintro w' ⟨s0, s1, s2, s3, s4, s5, s6, s7⟩
         go_simp
         with_reducible rfl
        rotate_left
        ·simp only [sP]
         rfl
        refine take_ (i := 20) (N := some 53) (v := ?_) (a' := ?_) #[tr,tr,tr,tr,tr,tr,tr,tr,tr,tr,tr,tr,tr,tr,tr,tr,tr,tr,tr,tr,tr,fa,fa,fa,fa] rfl rfl (take_ofW HT_.out HW_.out (by kernel_rfl)) (fun _ _ _ h => h) (Or.inl ⟨by rfl, ?_⟩) hHeld ?_ ?_
        rotate_left
        ·rintro w' ⟨s0, s1, s2, s3, s4, s5, s6, s7⟩
         go_simp
         with_reducible rfl
        rotate_left
        ·simp only [sP]
         rfl
        refine pure_ (i := 21) (N := some 54) (v := ?_) (a' := ?_) #[tr,tr,tr,tr,tr,tr,tr,tr,tr,tr,tr,tr,tr,tr,tr,tr,tr,tr,tr,tr,tr,tr,fa,fa,fa] rfl rfl (any_of HT_.out (by kernel_rfl)) (fun _ _ _ h => h) (Or.inl ⟨by rfl, ?_⟩) ?_ ?_
        rotate_left
        ·intro w'
         go_simp
         with_reducible rfl
        rotate_left
        ·simp only [sP]
         rfl
        refine take_ (i := 22) (N := some 55) (v := ?_) (a' := ?_) #[tr,tr,tr,tr,tr,tr,tr,tr,tr,tr,tr,tr,tr,tr,tr,tr,tr,tr,tr,tr,tr,tr,tr,fa,fa] rfl rfl (take_ofW HT_.out HW_.out (by kernel_rfl)) (fun _ _ _ h => h) (Or.inl ⟨by rfl, ?_⟩) hHeld ?_ ?_
        rotate_left
        ·rintro w' ⟨s0, s1, s2, s3, s4, s5, s6, s7⟩
         go_simp
         with_reducible rfl
        rotate_left
        ·simp only [sP]
         rfl
        refine one_ (i := 23) (N := some 56) #[tr,tr,tr,tr,tr,tr,tr,tr,tr,tr,tr,tr,tr,tr,tr,tr,tr,tr,tr,tr,tr,tr,tr,tr,fa] rfl rfl (one_of HT_.out (by kernel_rfl)) (by decide) (fun K hK => ?_)
        refine goes_ Try.func22 (by kernel_rfl) rfl #[.agg #[.bool a0_0, .int .u64 a0_1, .int .u64 a0_2, .int .i64 a0_3], .bool (!a0_0), .agg #[.int .u64 a2_0, .int .u64 a2_1]] (by rfl) rfl rfl gS ?_
        with_reducible refine (addr_Has.calls kj6 a0_0 a0_1 a0_2 a0_3 (!a0_0) a2_0 a2_1 t362 _ A51.out).mono ?_
        rintro e w56 ⟨rfl, hb⟩
        refine ⟨_, rfl, ?_⟩
        have n0_ := Ax (blk_below (g := gb349) (o := .cells #[.bool a0_0, .int .u64 a0_1, .int .u64 a0_2, .int .i64 a0_3] 33 (0, 0)) (bf0 BK349.out) hb)
        have n1_ := Ax (blk_below (g := gb350) (o := .cells #[.bool a1_0, .int .u64 a1_1, .int .u64 a1_2, .int .i64 a1_3] 33 (0, 0)) (bf0 BK350.out) hb)
        have n2_ := Ax (blk_below (g := gb351) (o := .cells #[.int .u64 a2_0, .int .u64 a2_1] 24 (0, 0)) (bf0 BK351.out) hb)
        have n3_ := Ax (blk_below (g := gb356) (o := .cells #[.int .u64 t353, .int .u64 t354] 24 (0, 0)) (bf0 BK356.out) hb)
        have n4_ := Ax (below_step (bw4 HB.out GE349.out GE350.out GE351.out GE356.out) hb)
        clear BK349
        clear BK350
        clear BK351
        clear BK356
        clear HB
        have BK349 := n0_
        have BK350 := n1_
        have BK351 := n2_
        have BK356 := n3_
        have HB := n4_
        clear n0_ n1_ n2_ n3_ n4_
        (try clear hb)
        (try clear hb2)
        (try clear hk)
        (try clear hi)
        refine hK.out _ _ ⟨(blk_cell BK349.out 0).trans rfl, (blk_cell BK349.out 1).trans rfl, (blk_cell BK349.out 2).trans rfl, (blk_cell BK349.out 3).trans rfl, (blk_cell BK351.out 0).trans rfl, (blk_cell BK351.out 1).trans rfl, (blk_cell BK356.out 0).trans rfl, (blk_cell BK356.out 1).trans rfl⟩ (fun hHeld => ?_)
        clear hK K
        refine norm_ (a' := ?_) ?_ ?_
        rotate_left
        ·show Act.put _ (some 56) _ = _
         simp only [sP]
         rfl
        refine pure_ (i := 24) (N := some 57) (v := ?_) (a' := ?_) #[tr,tr,tr,tr,tr,tr,tr,tr,tr,tr,tr,tr,tr,tr,tr,tr,tr,tr,tr,tr,tr,tr,tr,tr,tr] rfl rfl (any_of HT_.out (by kernel_rfl)) (fun _ _ _ h => h) (Or.inl ⟨by rfl, ?_⟩) ?_ ?_
        rotate_left
        ·intro w'
         go_simp
         with_reducible rfl
        rotate_left
        ·simp only [sP]
         rfl
        refine done_ (done_of HT_.out (by kernel_rfl)) ?_
        try go_wp2
        go_meet
        case rel => exact ⟨_, (t362), rS, H', ⟨by have := HJ6.out; first | omega | exact Nat.le_refl _⟩, ⟨bf0 BK349.out⟩, ⟨bf0 BK350.out⟩, ⟨bf0 BK351.out⟩, ⟨bf0 BK356.out⟩, ⟨bw4 HB.out GE349.out GE350.out GE351.out GE356.out⟩⟩
      ·rw [if_neg c44] at H
       have c44b0 : decide (t360 ≤ 0) = false := decide_eq_false c44
       clear c44
       (first | rw [c44b0] | (simp only [i64_w, i32_w]; rw [c44b0]) | skip)
       by_cases c57 : (t359 != false) = true
       ·rw [if_pos c57] at H
        have c57b0 : (t359 != false) = true := c57
        (try (have c57b1 : decide (t359 = false) = false := by simpa using c57))
        (try (have c57b2 : (t359 == false) = false := by simpa using c57))
        (try (have c57b3 : ¬ (t359 = false) := by simpa using c57))
        clear c57
        have H' := Ax H
        clear H
        try go_wp2
        have n0_ := Ax (blk_drew BK349.out)
        have n1_ := Ax (blk_drew BK350.out)
        have n2_ := Ax (blk_drew BK351.out)
        have n3_ := Ax (blk_drew BK356.out)
        have n4_ := Ax (below_drew1 HB.out)
        clear BK349
        clear BK350
        clear BK351
        clear BK356
        clear HB
        have BK349 := n0_
        have BK350 := n1_
        have BK351 := n2_
        have BK356 := n3_
        have HB := n4_
        clear n0_ n1_ n2_ n3_ n4_
        refine start_ (n := 25) (S := fun w' => w'.cell? ⟨gb349, 0, none⟩ = some (.bool a0_0) ∧ w'.cell? ⟨gb349, 1, none⟩ = some (.int .u64 a0_1) ∧ w'.cell? ⟨gb349, 2, none⟩ = some (.int .u64 a0_2) ∧ w'.cell? ⟨gb349, 3, none⟩ = some (.int .i64 a0_3) ∧ w'.cell? ⟨gb351, 0, none⟩ = some (.int .u64 a2_0) ∧ w'.cell? ⟨gb351, 1, none⟩ = some (.int .u64 a2_1)) (ds := []) #[fa,fa,fa,fa,fa,fa,fa,fa,fa,fa,fa,fa,fa,fa,fa,fa,fa,fa,fa,fa,fa,fa,fa,fa,fa] (by kernel_rfl) rfl rfl ⟨(blk_cell BK349.out 0).trans rfl, (blk_cell BK349.out 1).trans rfl, (blk_cell BK349.out 2).trans rfl, (blk_cell BK349.out 3).trans rfl, (blk_cell BK351.out 0).trans rfl, (blk_cell BK351.out 1).trans rfl⟩ (fun hHeld => ?_); refine with_tabW spoorlaw09_AddrBetween.tab6 spoorlaw09_AddrBetween.bits6 (fun HT_ HW_ => ?_)
        generalize wc.drew = w58 at BK349 BK350 BK351 BK356 HB hHeld ⊢
        refine pure_ (i := 1) (N := some 34) (v := ?_) (a' := ?_) #[fa,tr,fa,fa,fa,fa,fa,fa,fa,fa,fa,fa,fa,fa,fa,fa,fa,fa,fa,fa,fa,fa,fa,fa,fa] rfl rfl (any_of HT_.out (by kernel_rfl)) (fun _ _ _ h => h) (Or.inl ⟨by rfl, ?_⟩) ?_ ?_
        rotate_left
        ·intro w'
         go_simp
         with_reducible rfl
        rotate_left
        ·simp only [sP]
         rfl
        refine pure_ (i := 5) (N := some 38) (v := ?_) (a' := ?_) #[fa,tr,fa,fa,fa,tr,fa,fa,fa,fa,fa,fa,fa,fa,fa,fa,fa,fa,fa,fa,fa,fa,fa,fa,fa] rfl rfl (any_of HT_.out (by kernel_rfl)) (fun _ _ _ h => h) (Or.inl ⟨by rfl, ?_⟩) ?_ ?_
        rotate_left
        ·intro w'
         go_simp
         with_reducible rfl
        rotate_left
        ·simp only [sP]
         rfl
        refine take_ (i := 0) (N := some 33) (v := ?_) (a' := ?_) #[tr,tr,fa,fa,fa,tr,fa,fa,fa,fa,fa,fa,fa,fa,fa,fa,fa,fa,fa,fa,fa,fa,fa,fa,fa] rfl rfl (take_ofW HT_.out HW_.out (by kernel_rfl)) (fun _ _ _ h => h) (Or.inl ⟨by rfl, ?_⟩) hHeld ?_ ?_
        rotate_left
        ·rintro w' ⟨s0, s1, s2, s3, s4, s5⟩
         go_simp
         with_reducible rfl
        rotate_left
        ·simp only [sP]
         rfl
        refine take_ (i := 2) (N := some 35) (v := ?_) (a' := ?_) #[tr,tr,tr,fa,fa,tr,fa,fa,fa,fa,fa,fa,fa,fa,fa,fa,fa,fa,fa,fa,fa,fa,fa,fa,fa] rfl rfl (take_ofW HT_.out HW_.out (by kernel_rfl)) (fun _ _ _ h => h) (Or.inl ⟨by rfl, ?_⟩) hHeld ?_ ?_
        rotate_left
        ·rintro w' ⟨s0, s1, s2, s3, s4, s5⟩
         go_simp
         with_reducible rfl
        rotate_left
        ·simp only [sP]
         rfl
        refine take_ (i := 3) (N := some 36) (v := ?_) (a' := ?_) #[tr,tr,tr,tr,fa,tr,fa,fa,fa,fa,fa,fa,fa,fa,fa,fa,fa,fa,fa,fa,fa,fa,fa,fa,fa] rfl rfl (take_ofW HT_.out HW_.out (by kernel_rfl)) (fun _ _ _ h => h) (Or.inl ⟨by rfl, ?_⟩) hHeld ?_ ?_
        rotate_left
        ·rintro w' ⟨s0, s1, s2, s3, s4, s5⟩
         go_simp
         with_reducible rfl
        rotate_left
        ·simp only [sP]
         rfl
        refine take_ (i := 6) (N := some 39) (v := ?_) (a' := ?_) #[tr,tr,tr,tr,fa,tr,tr,fa,fa,fa,fa,fa,fa,fa,fa,fa,fa,fa,fa,fa,fa,fa,fa,fa,fa] rfl rfl (take_ofW HT_.out HW_.out (by kernel_rfl)) (fun _ _ _ h => h) (Or.inl ⟨by rfl, ?_⟩) hHeld ?_ ?_
        rotate_left
        ·rintro w' ⟨s0, s1, s2, s3, s4, s5⟩
         go_simp
         with_reducible rfl
        rotate_left
        ·simp only [sP]
         rfl
        refine take_ (i := 7) (N := some 40) (v := ?_) (a' := ?_) #[tr,tr,tr,tr,fa,tr,tr,tr,fa,fa,fa,fa,fa,fa,fa,fa,fa,fa,fa,fa,fa,fa,fa,fa,fa] rfl rfl (take_ofW HT_.out HW_.out (by kernel_rfl)) (fun _ _ _ h => h) (Or.inl ⟨by rfl, ?_⟩) hHeld ?_ ?_
        rotate_left
        ·rintro w' ⟨s0, s1, s2, s3, s4, s5⟩
         go_simp
         with_reducible rfl
        rotate_left
        ·simp only [sP]
         rfl
        refine one_ (i := 4) (N := some 37) #[tr,tr,tr,tr,tr,tr,tr,tr,fa,fa,fa,fa,fa,fa,fa,fa,fa,fa,fa,fa,fa,fa,fa,fa,fa] rfl rfl (one_of HT_.out (by kernel_rfl)) (by decide) (fun K hK => ?_)
        refine goes_ Try.func22 (by kernel_rfl) rfl #[.agg #[.bool a0_0, .int .u64 a0_1, .int .u64 a0_2, .int .i64 a0_3], .bool a0_0, .agg #[.int .u64 a2_0, .int .u64 a2_1]] (by rfl) rfl rfl gS ?_
        with_reducible refine (addr_Has.calls kj6 a0_0 a0_1 a0_2 a0_3 a0_0 a2_0 a2_1 t359 _ A42.out).mono ?_
        rintro e w59 ⟨rfl, hb⟩
        refine ⟨_, rfl, ?_⟩
        have n0_ := Ax (blk_below (g := gb349) (o := .cells #[.bool a0_0, .int .u64 a0_1, .int .u64 a0_2, .int .i64 a0_3] 33 (0, 0)) (bf0 BK349.out) hb)
        have n1_ := Ax (blk_below (g := gb350) (o := .cells #[.bool a1_0, .int .u64 a1_1, .int .u64 a1_2, .int .i64 a1_3] 33 (0, 0)) (bf0 BK350.out) hb)
        have n2_ := Ax (blk_below (g := gb351) (o := .cells #[.int .u64 a2_0, .int .u64 a2_1] 24 (0, 0)) (bf0 BK351.out) hb)
        have n3_ := Ax (blk_below (g := gb356) (o := .cells #[.int .u64 t353, .int .u64 t354] 24 (0, 0)) (bf0 BK356.out) hb)
        have n4_ := Ax (below_step (bw4 HB.out GE349.out GE350.out GE351.out GE356.out) hb)
        clear BK349
        clear BK350
        clear BK351
        clear BK356
        clear HB
        have BK349 := n0_
        have BK350 := n1_
        have BK351 := n2_
        have BK356 := n3_
        have HB := n4_
        clear n0_ n1_ n2_ n3_ n4_
        (try clear hb)
        (try clear hb2)
        (try clear hk)
        (try clear hi)
        refine hK.out _ _ ⟨(blk_cell BK349.out 0).trans rfl, (blk_cell BK349.out 1).trans rfl, (blk_cell BK349.out 2).trans rfl, (blk_cell BK349.out 3).trans rfl, (blk_cell BK351.out 0).trans rfl, (blk_cell BK351.out 1).trans rfl⟩ (fun hHeld => ?_)
        clear hK K
        refine norm_ (a' := ?_) ?_ ?_
        rotate_left
        ·show Act.put _ (some 37) _ = _
         simp only [sP]
         rfl
        refine one_ (i := 8) (N := some 41) #[tr,tr,tr,tr,tr,tr,tr,tr,tr,fa,fa,fa,fa,fa,fa,fa,fa,fa,fa,fa,fa,fa,fa,fa,fa] rfl rfl (one_of HT_.out (by kernel_rfl)) (by decide) (fun K hK => ?_)
        refine goes_ Try.func14 (by kernel_rfl) rfl #[.agg #[.int .u64 a0_1, .int .u64 a0_2], .agg #[.int .u64 a2_0, .int .u64 a2_1]] (by rfl) rfl rfl gS ?_
        with_reducible refine (addr_Cmp.calls kj6 a0_1 a0_2 a2_0 a2_1 t360 _ A43.out).mono ?_
        rintro e w60 ⟨rfl, hb⟩
        refine ⟨_, rfl, ?_⟩
        have n0_ := Ax (blk_below (g := gb349) (o := .cells #[.bool a0_0, .int .u64 a0_1, .int .u64 a0_2, .int .i64 a0_3] 33 (0, 0)) (bf0 BK349.out) hb)
        have n1_ := Ax (blk_below (g := gb350) (o := .cells #[.bool a1_0, .int .u64 a1_1, .int .u64 a1_2, .int .i64 a1_3] 33 (0, 0)) (bf0 BK350.out) hb)
        have n2_ := Ax (blk_below (g := gb351) (o := .cells #[.int .u64 a2_0, .int .u64 a2_1] 24 (0, 0)) (bf0 BK351.out) hb)
        have n3_ := Ax (blk_below (g := gb356) (o := .cells #[.int .u64 t353, .int .u64 t354] 24 (0, 0)) (bf0 BK356.out) hb)
        have n4_ := Ax (below_step (bw4 HB.out GE349.out GE350.out GE351.out GE356.out) hb)
        clear BK349
        clear BK350
        clear BK351
        clear BK356
        clear HB
        have BK349 := n0_
        have BK350 := n1_
        have BK351 := n2_
        have BK356 := n3_
        have HB := n4_
        clear n0_ n1_ n2_ n3_ n4_
        (try clear hb)
        (try clear hb2)
        (try clear hk)
        (try clear hi)
        refine hK.out _ _ ⟨(blk_cell BK349.out 0).trans rfl, (blk_cell BK349.out 1).trans rfl, (blk_cell BK349.out 2).trans rfl, (blk_cell BK349.out 3).trans rfl, (blk_cell BK351.out 0).trans rfl, (blk_cell BK351.out 1).trans rfl⟩ (fun hHeld => ?_)
        clear hK K
        refine norm_ (a' := ?_) ?_ ?_
        rotate_left
        ·show Act.put _ (some 41) _ = _
         simp only [sP]
         rfl
        refine pure_ (i := 9) (N := some 42) (v := ?_) (a' := ?_) #[tr,tr,tr,tr,tr,tr,tr,tr,tr,tr,fa,fa,fa,fa,fa,fa,fa,fa,fa,fa,fa,fa,fa,fa,fa] rfl rfl (any_of HT_.out (by kernel_rfl)) (fun _ _ _ h => h) (Or.inl ⟨by rfl, ?_⟩) ?_ ?_
        rotate_left
        ·intro w'
         go_simp
         with_reducible rfl
        rotate_left
        ·simp only [sP]
         rfl
        refine pure_ (i := 10) (N := some 43) (v := ?_) (a' := ?_) #[tr,tr,tr,tr,tr,tr,tr,tr,tr,tr,tr,fa,fa,fa,fa,fa,fa,fa,fa,fa,fa,fa,fa,fa,fa] rfl rfl (any_of HT_.out (by kernel_rfl)) (fun _ _ _ h => h) (Or.inl ⟨by rfl, ?_⟩) ?_ ?_
        rotate_left
        ·intro w'
         go_simp
         with_reducible rfl
        rotate_left
        ·simp only [sP]
         rfl
        refine pure_ (i := 11) (N := some 44) (v := undef) (a' := ?_) #[tr,tr,tr,tr,tr,tr,tr,tr,tr,tr,tr,tr,fa,fa,fa,fa,fa,fa,fa,fa,fa,fa,fa,fa,fa] rfl rfl (any_of HT_.out (by kernel_rfl)) (fun _ _ _ h => h) (Or.inr ⟨by rfl, rfl⟩) ?_ ?_
        rotate_left
        ·simp only [sP]
         rfl
        refine pure_ (i := 12) (N := some 45) (v := undef) (a' := ?_) #[tr,tr,tr,tr,tr,tr,tr,tr,tr,tr,tr,tr,tr,fa,fa,fa,fa,fa,fa,fa,fa,fa,fa,fa,fa] rfl rfl (any_of HT_.out (by kernel_rfl)) (fun _ _ _ h => h) (Or.inr ⟨by rfl, rfl⟩) ?_ ?_
        rotate_left
        ·simp only [sP]
         rfl
        refine pure_ (i := 13) (N := some 46) (v := undef) (a' := ?_) #[tr,tr,tr,tr,tr,tr,tr,tr,tr,tr,tr,tr,tr,tr,fa,fa,fa,fa,fa,fa,fa,fa,fa,fa,fa] rfl rfl (any_of HT_.out (by kernel_rfl)) (fun _ _ _ h => h) (Or.inr ⟨by rfl, rfl⟩) ?_ ?_
        rotate_left
        ·simp only [sP]
         rfl
        refine pure_ (i := 14) (N := some 47) (v := undef) (a' := ?_) #[tr,tr,tr,tr,tr,tr,tr,tr,tr,tr,tr,tr,tr,tr,tr,fa,fa,fa,fa,fa,fa,fa,fa,fa,fa] rfl rfl (any_of HT_.out (by kernel_rfl)) (fun _ _ _ h => h) (Or.inr ⟨by rfl, rfl⟩) ?_ ?_
        rotate_left
        ·simp only [sP]
         rfl
        refine pure_ (i := 15) (N := some 48) (v := ?_) (a' := ?_) #[tr,tr,tr,tr,tr,tr,tr,tr,tr,tr,tr,tr,tr,tr,tr,tr,fa,fa,fa,fa,fa,fa,fa,fa,fa] rfl rfl (any_of HT_.out (by kernel_rfl)) (fun _ _ _ h => h) (Or.inl ⟨by rfl, ?_⟩) ?_ ?_
        rotate_left
        ·intro w'
         go_simp
         with_reducible rfl
        rotate_left
        ·simp only [sP]
         rfl
        refine pure_ (i := 16) (N := some 49) (v := ?_) (a' := ?_) #[tr,tr,tr,tr,tr,tr,tr,tr,tr,tr,tr,tr,tr,tr,tr,tr,tr,fa,fa,fa,fa,fa,fa,fa,fa] rfl rfl (any_of HT_.out (by kernel_rfl)) (fun _ _ _ h => h) (Or.inl ⟨by rfl, ?_⟩) ?_ ?_
        rotate_left
        ·intro w'
         go_simp
         with_reducible rfl
        rotate_left
        ·simp only [sP]
         rfl
        refine pure_ (i := 17) (N := some 50) (v := ?_) (a' := ?_) #[tr,tr,tr,tr,tr,tr,tr,tr,tr,tr,tr,tr,tr,tr,tr,tr,tr,tr,fa,fa,fa,fa,fa,fa,fa] rfl rfl (any_of HT_.out (by kernel_rfl)) (fun _ _ _ h => h) (Or.inl ⟨by rfl, ?_⟩) ?_ ?_
        rotate_left
        ·intro w'
         go_simp
         with_reducible rfl
        rotate_left
        ·simp only [sP]
         rfl
        refine pure_ (i := 18) (N := some 51) (v := undef) (a' := ?_) #[tr,tr,tr,tr,tr,tr,tr,tr,tr,tr,tr,tr,tr,tr,tr,tr,tr,tr,tr,fa,fa,fa,fa,fa,fa] rfl rfl (any_of HT_.out (by kernel_rfl)) (fun _ _ _ h => h) (Or.inr ⟨by rfl, rfl⟩) ?_ ?_
        rotate_left
        ·simp only [sP]
         rfl
        refine pure_ (i := 19) (N := some 52) (v := undef) (a' := ?_) #[tr,tr,tr,tr,tr,tr,tr,tr,tr,tr,tr,tr,tr,tr,tr,tr,tr,tr,tr,tr,fa,fa,fa,fa,fa] rfl rfl (any_of HT_.out (by kernel_rfl)) (fun _ _ _ h => h) (Or.inr ⟨by rfl, rfl⟩) ?_ ?_
        rotate_left
        ·simp only [sP]
         rfl
        refine pure_ (i := 20) (N := some 53) (v := undef) (a' := ?_) #[tr,tr,tr,tr,tr,tr,tr,tr,tr,tr,tr,tr,tr,tr,tr,tr,tr,tr,tr,tr,tr,fa,fa,fa,fa] rfl rfl (any_of HT_.out (by kernel_rfl)) (fun _ _ _ h => h) (Or.inr ⟨by rfl, rfl⟩) ?_ ?_
        rotate_left
        ·simp only [sP]
         rfl
        refine pure_ (i := 21) (N := some 54) (v := undef) (a' := ?_) #[tr,tr,tr,tr,tr,tr,tr,tr,tr,tr,tr,tr,tr,tr,tr,tr,tr,tr,tr,tr,tr,tr,fa,fa,fa] rfl rfl (any_of HT_.out (by kernel_rfl)) (fun _ _ _ h => h) (Or.inr ⟨by rfl, rfl⟩) ?_ ?_
        rotate_left
        ·simp only [sP]
         rfl
        refine pure_ (i := 22) (N := some 55) (v := undef) (a' := ?_) #[tr,tr,tr,tr,tr,tr,tr,tr,tr,tr,tr,tr,tr,tr,tr,tr,tr,tr,tr,tr,tr,tr,tr,fa,fa] rfl rfl (any_of HT_.out (by kernel_rfl)) (fun _ _ _ h => h) (Or.inr ⟨by rfl, rfl⟩) ?_ ?_
        rotate_left
        ·simp only [sP]
         rfl
        refine pure_ (i := 23) (N := some 56) (v := undef) (a' := ?_) #[tr,tr,tr,tr,tr,tr,tr,tr,tr,tr,tr,tr,tr,tr,tr,tr,tr,tr,tr,tr,tr,tr,tr,tr,fa] rfl rfl (any_of HT_.out (by kernel_rfl)) (fun _ _ _ h => h) (Or.inr ⟨by rfl, rfl⟩) ?_ ?_
        rotate_left
        ·simp only [sP]
         rfl
        refine pure_ (i := 24) (N := some 57) (v := ?_) (a' := ?_) #[tr,tr,tr,tr,tr,tr,tr,tr,tr,tr,tr,tr,tr,tr,tr,tr,tr,tr,tr,tr,tr,tr,tr,tr,tr] rfl rfl (any_of HT_.out (by kernel_rfl)) (fun _ _ _ h => h) (Or.inl ⟨by rfl, ?_⟩) ?_ ?_
        rotate_left
        ·intro w'
         go_simp
         with_reducible rfl
        rotate_left
        ·simp only [sP]
         rfl
        refine done_ (done_of HT_.out (by kernel_rfl)) ?_
        try go_wp2
        go_meet
        case rel => exact ⟨_, (true), rS, H', ⟨by have := HJ6.out; first | omega | exact Nat.le_refl _⟩, ⟨bf0 BK349.out⟩, ⟨bf0 BK350.out⟩, ⟨bf0 BK351.out⟩, ⟨bf0 BK356.out⟩, ⟨bw4 HB.out GE349.out GE350.out GE351.out GE356.out⟩⟩
       ·rw [if_neg c57] at H
        have c57b0 : (t359 != false) = false := by simpa using c57
        (try (have c57b1 : decide (t359 = false) = true := by simpa using c57))
        (try (have c57b2 : (t359 == false) = true := by simpa using c57))
        clear c57
        replace H := Option.bind_eq_some_iff.mp H
        obtain ⟨t363, A610, H⟩ := H
        replace H : (spoorlaw09_AddrBetween.j1 kj6 t363 a0_0 a0_1 a0_2 a0_3 a1_0 a1_1 a1_2 a1_3) = some r := H
        have A61 := Ax A610
        clear A610
        have H' := Ax H
        clear H
        try go_wp2
        have n0_ := Ax (blk_drew BK349.out)
        have n1_ := Ax (blk_drew BK350.out)
        have n2_ := Ax (blk_drew BK351.out)
        have n3_ := Ax (blk_drew BK356.out)
        have n4_ := Ax (below_drew1 HB.out)
        clear BK349
        clear BK350
        clear BK351
        clear BK356
        clear HB
        have BK349 := n0_
        have BK350 := n1_
        have BK351 := n2_
        have BK356 := n3_
        have HB := n4_
        clear n0_ n1_ n2_ n3_ n4_
        refine start_ (n := 25) (S := fun w' => w'.cell? ⟨gb349, 0, none⟩ = some (.bool a0_0) ∧ w'.cell? ⟨gb349, 1, none⟩ = some (.int .u64 a0_1) ∧ w'.cell? ⟨gb349, 2, none⟩ = some (.int .u64 a0_2) ∧ w'.cell? ⟨gb349, 3, none⟩ = some (.int .i64 a0_3) ∧ w'.cell? ⟨gb351, 0, none⟩ = some (.int .u64 a2_0) ∧ w'.cell? ⟨gb351, 1, none⟩ = some (.int .u64 a2_1)) (ds := []) #[fa,fa,fa,fa,fa,fa,fa,fa,fa,fa,fa,fa,fa,fa,fa,fa,fa,fa,fa,fa,fa,fa,fa,fa,fa] (by kernel_rfl) rfl rfl ⟨(blk_cell BK349.out 0).trans rfl, (blk_cell BK349.out 1).trans rfl, (blk_cell BK349.out 2).trans rfl, (blk_cell BK349.out 3).trans rfl, (blk_cell BK351.out 0).trans rfl, (blk_cell BK351.out 1).trans rfl⟩ (fun hHeld => ?_); refine with_tabW spoorlaw09_AddrBetween.tab6 spoorlaw09_AddrBetween.bits6 (fun HT_ HW_ => ?_)
        generalize wc.drew = w62 at BK349 BK350 BK351 BK356 HB hHeld ⊢
        refine pure_ (i := 1) (N := some 34) (v := ?_) (a' := ?_) #[fa,tr,fa,fa,fa,fa,fa,fa,fa,fa,fa,fa,fa,fa,fa,fa,fa,fa,fa,fa,fa,fa,fa,fa,fa] rfl rfl (any_of HT_.out (by kernel_rfl)) (fun _ _ _ h => h) (Or.inl ⟨by rfl, ?_⟩) ?_ ?_
        rotate_left
        ·intro w'
         go_simp
         with_reducible rfl
        rotate_left
        ·simp only [sP]
         rfl
        refine pure_ (i := 5) (N := some 38) (v := ?_) (a' := ?_) #[fa,tr,fa,fa,fa,tr,fa,fa,fa,fa,fa,fa,fa,fa,fa,fa,fa,fa,fa,fa,fa,fa,fa,fa,fa] rfl rfl (any_of HT_.out (by kernel_rfl)) (fun _ _ _ h => h) (Or.inl ⟨by rfl, ?_⟩) ?_ ?_
        rotate_left
        ·intro w'
         go_simp
         with_reducible rfl
        rotate_left
        ·simp only [sP]
         rfl
        refine take_ (i := 0) (N := some 33) (v := ?_) (a' := ?_) #[tr,tr,fa,fa,fa,tr,fa,fa,fa,fa,fa,fa,fa,fa,fa,fa,fa,fa,fa,fa,fa,fa,fa,fa,fa] rfl rfl (take_ofW HT_.out HW_.out (by kernel_rfl)) (fun _ _ _ h => h) (Or.inl ⟨by rfl, ?_⟩) hHeld ?_ ?_
        rotate_left
        ·rintro w' ⟨s0, s1, s2, s3, s4, s5⟩
         go_simp
         with_reducible rfl
        rotate_left
        ·simp only [sP]
         rfl
        refine take_ (i := 2) (N := some 35) (v := ?_) (a' := ?_) #[tr,tr,tr,fa,fa,tr,fa,fa,fa,fa,fa,fa,fa,fa,fa,fa,fa,fa,fa,fa,fa,fa,fa,fa,fa] rfl rfl (take_ofW HT_.out HW_.out (by kernel_rfl)) (fun _ _ _ h => h) (Or.inl ⟨by rfl, ?_⟩) hHeld ?_ ?_
        rotate_left
        ·rintro w' ⟨s0, s1, s2, s3, s4, s5⟩
         go_simp
         with_reducible rfl
        rotate_left
        ·simp only [sP]
         rfl
        refine take_ (i := 3) (N := some 36) (v := ?_) (a' := ?_) #[tr,tr,tr,tr,fa,tr,fa,fa,fa,fa,fa,fa,fa,fa,fa,fa,fa,fa,fa,fa,fa,fa,fa,fa,fa] rfl rfl (take_ofW HT_.out HW_.out (by kernel_rfl)) (fun _ _ _ h => h) (Or.inl ⟨by rfl, ?_⟩) hHeld ?_ ?_
        rotate_left
        ·rintro w' ⟨s0, s1, s2, s3, s4, s5⟩
         go_simp
         with_reducible rfl
        rotate_left
        ·simp only [sP]
         rfl
        refine take_ (i := 6) (N := some 39) (v := ?_) (a' := ?_) #[tr,tr,tr,tr,fa,tr,tr,fa,fa,fa,fa,fa,fa,fa,fa,fa,fa,fa,fa,fa,fa,fa,fa,fa,fa] rfl rfl (take_ofW HT_.out HW_.out (by kernel_rfl)) (fun _ _ _ h => h) (Or.inl ⟨by rfl, ?_⟩) hHeld ?_ ?_
        rotate_left
        ·rintro w' ⟨s0, s1, s2, s3, s4, s5⟩
         go_simp
         with_reducible rfl
        rotate_left
        ·simp only [sP]
         rfl
        refine take_ (i := 7) (N := some 40) (v := ?_) (a' := ?_) #[tr,tr,tr,tr,fa,tr,tr,tr,fa,fa,fa,fa,fa,fa,fa,fa,fa,fa,fa,fa,fa,fa,fa,fa,fa] rfl rfl (take_ofW HT_.out HW_.out (by kernel_rfl)) (fun _ _ _ h => h) (Or.inl ⟨by rfl, ?_⟩) hHeld ?_ ?_
        rotate_left
        ·rintro w' ⟨s0, s1, s2, s3, s4, s5⟩
         go_simp
         with_reducible rfl
        rotate_left
        ·simp only [sP]
         rfl
        refine one_ (i := 4) (N := some 37) #[tr,tr,tr,tr,tr,tr,tr,tr,fa,fa,fa,fa,fa,fa,fa,fa,fa,fa,fa,fa,fa,fa,fa,fa,fa] rfl rfl (one_of HT_.out (by kernel_rfl)) (by decide) (fun K hK => ?_)
        refine goes_ Try.func22 (by kernel_rfl) rfl #[.agg #[.bool a0_0, .int .u64 a0_1, .int .u64 a0_2, .int .i64 a0_3], .bool a0_0, .agg #[.int .u64 a2_0, .int .u64 a2_1]] (by rfl) rfl rfl gS ?_
        with_reducible refine (addr_Has.calls kj6 a0_0 a0_1 a0_2 a0_3 a0_0 a2_0 a2_1 t359 _ A42.out).mono ?_
        rintro e w63 ⟨rfl, hb⟩
        refine ⟨_, rfl, ?_⟩
        have n0_ := Ax (blk_below (g := gb349) (o := .cells #[.bool a0_0, .int .u64 a0_1, .int .u64 a0_2, .int .i64 a0_3] 33 (0, 0)) (bf0 BK349.out) hb)
        have n1_ := Ax (blk_below (g := gb350) (o := .cells #[.bool a1_0, .int .u64 a1_1, .int .u64 a1_2, .int .i64 a1_3] 33 (0, 0)) (bf0 BK350.out) hb)
        have n2_ := Ax (blk_below (g := gb351) (o := .cells #[.int .u64 a2_0, .int .u64 a2_1] 24 (0, 0)) (bf0 BK351.out) hb)
        have n3_ := Ax (blk_below (g := gb356) (o := .cells #[.int .u64 t353, .int .u64 t354] 24 (0, 0)) (bf0 BK356.out) hb)
        have n4_ := Ax (below_step (bw4 HB.out GE349.out GE350.out GE351.out GE356.out) hb)
        clear BK349
        clear BK350
        clear BK351
        clear BK356
        clear HB
        have BK349 := n0_
        have BK350 := n1_
        have BK351 := n2_
        have BK356 := n3_
        have HB := n4_
        clear n0_ n1_ n2_ n3_ n4_
        (try clear hb)
        (try clear hb2)
        (try clear hk)
        (try clear hi)
        refine hK.out _ _ ⟨(blk_cell BK349.out 0).trans rfl, (blk_cell BK349.out 1).trans rfl, (blk_cell BK349.out 2).trans rfl, (blk_cell BK349.out 3).trans rfl, (blk_cell BK351.out 0).trans rfl, (blk_cell BK351.out 1).trans rfl⟩ (fun hHeld => ?_)
        clear hK K
        refine norm_ (a' := ?_) ?_ ?_
        rotate_left
        ·show Act.put _ (some 37) _ = _
         simp only [sP]
         rfl
        refine one_ (i := 8) (N := some 41) #[tr,tr,tr,tr,tr,tr,tr,tr,tr,fa,fa,fa,fa,fa,fa,fa,fa,fa,fa,fa,fa,fa,fa,fa,fa] rfl rfl (one_of HT_.out (by kernel_rfl)) (by decide) (fun K hK => ?_)
        refine goes_ Try.func14 (by kernel_rfl) rfl #[.agg #[.int .u64 a0_1, .int .u64 a0_2], .agg #[.int .u64 a2_0, .int .u64 a2_1]] (by rfl) rfl rfl gS ?_
        with_reducible refine (addr_Cmp.calls kj6 a0_1 a0_2 a2_0 a2_1 t360 _ A43.out).mono ?_
        rintro e w64 ⟨rfl, hb⟩
        refine ⟨_, rfl, ?_⟩
        have n0_ := Ax (blk_below (g := gb349) (o := .cells #[.bool a0_0, .int .u64 a0_1, .int .u64 a0_2, .int .i64 a0_3] 33 (0, 0)) (bf0 BK349.out) hb)
        have n1_ := Ax (blk_below (g := gb350) (o := .cells #[.bool a1_0, .int .u64 a1_1, .int .u64 a1_2, .int .i64 a1_3] 33 (0, 0)) (bf0 BK350.out) hb)
        have n2_ := Ax (blk_below (g := gb351) (o := .cells #[.int .u64 a2_0, .int .u64 a2_1] 24 (0, 0)) (bf0 BK351.out) hb)
        have n3_ := Ax (blk_below (g := gb356) (o := .cells #[.int .u64 t353, .int .u64 t354] 24 (0, 0)) (bf0 BK356.out) hb)
        have n4_ := Ax (below_step (bw4 HB.out GE349.out GE350.out GE351.out GE356.out) hb)
        clear BK349
        clear BK350
        clear BK351
        clear BK356
        clear HB
        have BK349 := n0_
        have BK350 := n1_
        have BK351 := n2_
        have BK356 := n3_
        have HB := n4_
        clear n0_ n1_ n2_ n3_ n4_
        (try clear hb)
        (try clear hb2)
        (try clear hk)
        (try clear hi)
        refine hK.out _ _ ⟨(blk_cell BK349.out 0).trans rfl, (blk_cell BK349.out 1).trans rfl, (blk_cell BK349.out 2).trans rfl, (blk_cell BK349.out 3).trans rfl, (blk_cell BK351.out 0).trans rfl, (blk_cell BK351.out 1).trans rfl⟩ (fun hHeld => ?_)
        clear hK K
        refine norm_ (a' := ?_) ?_ ?_
        rotate_left
        ·show Act.put _ (some 41) _ = _
         simp only [sP]
         rfl
        refine pure_ (i := 9) (N := some 42) (v := ?_) (a' := ?_) #[tr,tr,tr,tr,tr,tr,tr,tr,tr,tr,fa,fa,fa,fa,fa,fa,fa,fa,fa,fa,fa,fa,fa,fa,fa] rfl rfl (any_of HT_.out (by kernel_rfl)) (fun _ _ _ h => h) (Or.inl ⟨by rfl, ?_⟩) ?_ ?_
        rotate_left
        ·intro w'
         go_simp
         with_reducible rfl
        rotate_left
        ·simp only [sP]
         rfl
        refine pure_ (i := 10) (N := some 43) (v := ?_) (a' := ?_) #[tr,tr,tr,tr,tr,tr,tr,tr,tr,tr,tr,fa,fa,fa,fa,fa,fa,fa,fa,fa,fa,fa,fa,fa,fa] rfl rfl (any_of HT_.out (by kernel_rfl)) (fun _ _ _ h => h) (Or.inl ⟨by rfl, ?_⟩) ?_ ?_
        rotate_left
        ·intro w'
         go_simp
         with_reducible rfl
        rotate_left
        ·simp only [sP]
         rfl
        refine pure_ (i := 11) (N := some 44) (v := undef) (a' := ?_) #[tr,tr,tr,tr,tr,tr,tr,tr,tr,tr,tr,tr,fa,fa,fa,fa,fa,fa,fa,fa,fa,fa,fa,fa,fa] rfl rfl (any_of HT_.out (by kernel_rfl)) (fun _ _ _ h => h) (Or.inr ⟨by rfl, rfl⟩) ?_ ?_
        rotate_left
        ·simp only [sP]
         rfl
        refine pure_ (i := 12) (N := some 45) (v := undef) (a' := ?_) #[tr,tr,tr,tr,tr,tr,tr,tr,tr,tr,tr,tr,tr,fa,fa,fa,fa,fa,fa,fa,fa,fa,fa,fa,fa] rfl rfl (any_of HT_.out (by kernel_rfl)) (fun _ _ _ h => h) (Or.inr ⟨by rfl, rfl⟩) ?_ ?_
        rotate_left
        ·simp only [sP]
         rfl
        refine pure_ (i := 13) (N := some 46) (v := undef) (a' := ?_) #[tr,tr,tr,tr,tr,tr,tr,tr,tr,tr,tr,tr,tr,tr,fa,fa,fa,fa,fa,fa,fa,fa,fa,fa,fa] rfl rfl (any_of HT_.out (by kernel_rfl)) (fun _ _ _ h => h) (Or.inr ⟨by rfl, rfl⟩) ?_ ?_
        rotate_left
        ·simp only [sP]
         rfl
        refine pure_ (i := 14) (N := some 47) (v := undef) (a' := ?_) #[tr,tr,tr,tr,tr,tr,tr,tr,tr,tr,tr,tr,tr,tr,tr,fa,fa,fa,fa,fa,fa,fa,fa,fa,fa] rfl rfl (any_of HT_.out (by kernel_rfl)) (fun _ _ _ h => h) (Or.inr ⟨by rfl, rfl⟩) ?_ ?_
        rotate_left
        ·simp only [sP]
         rfl
        refine pure_ (i := 15) (N := some 48) (v := ?_) (a' := ?_) #[tr,tr,tr,tr,tr,tr,tr,tr,tr,tr,tr,tr,tr,tr,tr,tr,fa,fa,fa,fa,fa,fa,fa,fa,fa] rfl rfl (any_of HT_.out (by kernel_rfl)) (fun _ _ _ h => h) (Or.inl ⟨by rfl, ?_⟩) ?_ ?_
        rotate_left
        ·intro w'
         go_simp
         with_reducible rfl
        rotate_left
        ·simp only [sP]
         rfl
        refine pure_ (i := 16) (N := some 49) (v := ?_) (a' := ?_) #[tr,tr,tr,tr,tr,tr,tr,tr,tr,tr,tr,tr,tr,tr,tr,tr,tr,fa,fa,fa,fa,fa,fa,fa,fa] rfl rfl (any_of HT_.out (by kernel_rfl)) (fun _ _ _ h => h) (Or.inl ⟨by rfl, ?_⟩) ?_ ?_
        rotate_left
        ·intro w'
         go_simp
         with_reducible rfl
        rotate_left
        ·simp only [sP]
         rfl
        refine pure_ (i := 17) (N := some 50) (v := ?_) (a' := ?_) #[tr,tr,tr,tr,tr,tr,tr,tr,tr,tr,tr,tr,tr,tr,tr,tr,tr,tr,fa,fa,fa,fa,fa,fa,fa] rfl rfl (any_of HT_.out (by kernel_rfl)) (fun _ _ _ h => h) (Or.inl ⟨by rfl, ?_⟩) ?_ ?_
        rotate_left
        ·intro w'
         go_simp
         with_reducible rfl
        rotate_left
        ·simp only [sP]
         rfl
        refine pure_ (i := 19) (N := some 52) (v := ?_) (a' := ?_) #[tr,tr,tr,tr,tr,tr,tr,tr,tr,tr,tr,tr,tr,tr,tr,tr,tr,tr,fa,tr,fa,fa,fa,fa,fa] rfl rfl (any_of HT_.out (by kernel_rfl)) (fun _ _ _ h => h) (Or.inl ⟨by rfl, ?_⟩) ?_ ?_
        rotate_left
        ·intro w'
         go_simp
         with_reducible rfl
        rotate_left
        ·simp only [sP]
         rfl
        refine take_ (i := 18) (N := some 51) (v := ?_) (a' := ?_) #[tr,tr,tr,tr,tr,tr,tr,tr,tr,tr,tr,tr,tr,tr,tr,tr,tr,tr,tr,tr,fa,fa,fa,fa,fa] rfl rfl (take_ofW HT_.out HW_.out (by kernel_rfl)) (fun _ _ _ h => h) (Or.inl ⟨by rfl, ?_⟩) hHeld ?_ ?_
        rotate_left
        ·rintro w' ⟨s0, s1, s2, s3, s4, s5⟩
         go_simp
         with_reducible rfl
        rotate_left
        ·simp only [sP]
         rfl
        refine take_ (i := 20) (N := some 53) (v := ?_) (a' := ?_) #[tr,tr,tr,tr,tr,tr,tr,tr,tr,tr,tr,tr,tr,tr,tr,tr,tr,tr,tr,tr,tr,fa,fa,fa,fa] rfl rfl (take_ofW HT_.out HW_.out (by kernel_rfl)) (fun _ _ _ h => h) (Or.inl ⟨by rfl, ?_⟩) hHeld ?_ ?_
        rotate_left
        ·rintro w' ⟨s0, s1, s2, s3, s4, s5⟩
         go_simp
         with_reducible rfl
        rotate_left
        ·simp only [sP]
         rfl
        refine pure_ (i := 21) (N := some 54) (v := ?_) (a' := ?_) #[tr,tr,tr,tr,tr,tr,tr,tr,tr,tr,tr,tr,tr,tr,tr,tr,tr,tr,tr,tr,tr,tr,fa,fa,fa] rfl rfl (any_of HT_.out (by kernel_rfl)) (fun _ _ _ h => h) (Or.inl ⟨by rfl, ?_⟩) ?_ ?_
        rotate_left
        ·intro w'
         go_simp
         with_reducible rfl
        rotate_left
        ·simp only [sP]
         rfl
        refine take_ (i := 22) (N := some 55) (v := ?_) (a' := ?_) #[tr,tr,tr,tr,tr,tr,tr,tr,tr,tr,tr,tr,tr,tr,tr,tr,tr,tr,tr,tr,tr,tr,tr,fa,fa] rfl rfl (take_ofW HT_.out HW_.out (by kernel_rfl)) (fun _ _ _ h => h) (Or.inl ⟨by rfl, ?_⟩) hHeld ?_ ?_
        rotate_left
        ·rintro w' ⟨s0, s1, s2, s3, s4, s5⟩
         go_simp
         with_reducible rfl
        rotate_left
        ·simp only [sP]
         rfl
        refine one_ (i := 23) (N := some 56) #[tr,tr,tr,tr,tr,tr,tr,tr,tr,tr,tr,tr,tr,tr,tr,tr,tr,tr,tr,tr,tr,tr,tr,tr,fa] rfl rfl (one_of HT_.out (by kernel_rfl)) (by decide) (fun K hK => ?_)
        refine goes_ Try.func22 (by kernel_rfl) rfl #[.agg #[.bool a0_0, .int .u64 a0_1, .int .u64 a0_2, .int .i64 a0_3], .bool (!a0_0), .agg #[.int .u64 a2_0, .int .u64 a2_1]] (by rfl) rfl rfl gS ?_
        with_reducible refine (addr_Has.calls kj6 a0_0 a0_1 a0_2 a0_3 (!a0_0) a2_0 a2_1 t363 _ A61.out).mono ?_
        rintro e w65 ⟨rfl, hb⟩
        refine ⟨_, rfl, ?_⟩
        have n0_ := Ax (blk_below (g := gb349) (o := .cells #[.bool a0_0, .int .u64 a0_1, .int .u64 a0_2, .int .i64 a0_3] 33 (0, 0)) (bf0 BK349.out) hb)
        have n1_ := Ax (blk_below (g := gb350) (o := .cells #[.bool a1_0, .int .u64 a1_1, .int .u64 a1_2, .int .i64 a1_3] 33 (0, 0)) (bf0 BK350.out) hb)
        have n2_ := Ax (blk_below (g := gb351) (o := .cells #[.int .u64 a2_0, .int .u64 a2_1] 24 (0, 0)) (bf0 BK351.out) hb)
        have n3_ := Ax (blk_below (g := gb356) (o := .cells #[.int .u64 t353, .int .u64 t354] 24 (0, 0)) (bf0 BK356.out) hb)
        have n4_ := Ax (below_step (bw4 HB.out GE349.out GE350.out GE351.out GE356.out) hb)
        clear BK349
        clear BK350
        clear BK351
        clear BK356
        clear HB
        have BK349 := n0_
        have BK350 := n1_
        have BK351 := n2_
        have BK356 := n3_
        have HB := n4_
        clear n0_ n1_ n2_ n3_ n4_
        (try clear hb)
        (try clear hb2)
        (try clear hk)
        (try clear hi)
        refine hK.out _ _ ⟨(blk_cell BK349.out 0).trans rfl, (blk_cell BK349.out 1).trans rfl, (blk_cell BK349.out 2).trans rfl, (blk_cell BK349.out 3).trans rfl, (blk_cell BK351.out 0).trans rfl, (blk_cell BK351.out 1).trans rfl⟩ (fun hHeld => ?_)
        clear hK K
        refine norm_ (a' := ?_) ?_ ?_
        rotate_left
        ·show Act.put _ (some 56) _ = _
         simp only [sP]
         rfl
        refine pure_ (i := 24) (N := some 57) (v := ?_) (a' := ?_) #[tr,tr,tr,tr,tr,tr,tr,tr,tr,tr,tr,tr,tr,tr,tr,tr,tr,tr,tr,tr,tr,tr,tr,tr,tr] rfl rfl (any_of HT_.out (by kernel_rfl)) (fun _ _ _ h => h) (Or.inl ⟨by rfl, ?_⟩) ?_ ?_
        rotate_left
        ·intro w'
         go_simp
         with_reducible rfl
        rotate_left
        ·simp only [sP]
         rfl
        refine done_ (done_of HT_.out (by kernel_rfl)) ?_
        try go_wp2
        go_meet
        case rel => exact ⟨_, (t363), rS, H', ⟨by have := HJ6.out; first | omega | exact Nat.le_refl _⟩, ⟨bf0 BK349.out⟩, ⟨bf0 BK350.out⟩, ⟨bf0 BK351.out⟩, ⟨bf0 BK356.out⟩, ⟨bw4 HB.out GE349.out GE350.out GE351.out GE356.out⟩⟩
     case rest =>
      clear HC41
      try clear c1
      try clear c2
      try clear p2
      try clear c4
      try clear c5
      try clear c14
      try clear c22
      try clear c44
      try clear c44b0
      try clear c57
      try clear c57b0
      try clear c57b1
      try clear c57b2
      obtain ⟨kq, x57_40, rfl, HA, HJ40, BK349, BK350, BK351, BK356, HB⟩ := hcut
      cases kq with
      | zero => exact absurd HA.out (by simp [spoorlaw09_AddrBetween.j1])
      | succ kj40 =>
       have H := HA.out
       clear HA
       simp only [spoorlaw09_AddrBetween.j1] at H
       by_cases c66 : x57_40 = true
       ·subst c66
        have H1 : (none) = some r := by rw [if_pos rfl] at H; exact H
        clear H
        have H := H1
        clear H1
        exact absurd H (by simp)
       ·replace c66 := Bool.eq_false_iff.mpr c66
        subst c66
        have H1 : ((addr_Last.f kj40 a1_0 a1_1 a1_2 a1_3).bind fun bt364 => (if bt364.2.2 = 0 then (spoorlaw09_AddrBetween.j2 kj40 (a1_0 != a0_0) a0_0 a0_1 a0_2 a0_3 a1_0 a1_1 a1_2 a1_3 bt364.1 bt364.2.1) else (spoorlaw09_AddrBetween.j2 kj40 true a0_0 a0_1 a0_2 a0_3 a1_0 a1_1 a1_2 a1_3 bt364.1 bt364.2.1))) = some r := by rw [if_neg (show ¬ (false = true) by decide)] at H; exact H
        clear H
        have H := H1
        clear H1
        replace H := Option.bind_eq_some_iff.mp H
        obtain ⟨⟨t364, t365, t366⟩, A670, H⟩ := H
        replace H : (if t366 = 0 then (spoorlaw09_AddrBetween.j2 kj40 (a1_0 != a0_0) a0_0 a0_1 a0_2 a0_3 a1_0 a1_1 a1_2 a1_3 t364 t365) else (spoorlaw09_AddrBetween.j2 kj40 true a0_0 a0_1 a0_2 a0_3 a1_0 a1_1 a1_2 a1_3 t364 t365)) = some r := H
        have A67 := Ax A670
        clear A670
        have HC68 := Ax H
        clear H
        have hnb69 := NB350_349.out
        have hnc69 := NB349_350.out
        have hnb70 := NB350_351.out
        have hnc70 := NB351_350.out
        have hnb71 := NB350_356.out
        have hnc71 := NB356_350.out
        have hcz72_0 : wc.cell? ⟨gb350, 0, none⟩ = some (.bool a1_0) := (blk_cell BK350.out 0).trans rfl
        have hcz72_1 : wc.cell? ⟨gb350, 1, none⟩ = some (.int .u64 a1_1) := (blk_cell BK350.out 1).trans rfl
        have hcz72_2 : wc.cell? ⟨gb350, 2, none⟩ = some (.int .u64 a1_2) := (blk_cell BK350.out 2).trans rfl
        have hcz72_3 : wc.cell? ⟨gb350, 3, none⟩ = some (.int .i64 a1_3) := (blk_cell BK350.out 3).trans rfl
        have hfz72_0 := blk_frozen BK350.out 0
        have hfz72_1 := blk_frozen BK350.out 1
        have hfz72_2 := blk_frozen BK350.out 2
        have hfz72_3 := blk_frozen BK350.out 3
        go_upto_region 9 with (first | ((with_reducible refine gate_callee (f := 16) rfl ?_); refine goesL_ (some 60) rfl rfl Try.func16 (by kernel_rfl) rfl #[.agg #[.bool a1_0, .int .u64 a1_1, .int .u64 a1_2, .int .i64 a1_3]] rfl gS ?_; (with_reducible refine (addr_Last.calls kj40 a1_0 a1_1 a1_2 a1_3 t364 t365 t366 _ A67.out).mono ?_); rintro e w73 ⟨rfl, hb⟩; refine ⟨_, rfl, ?_⟩; have n0_ := Ax (blk_below (g := gb349) (o := .cells #[.bool a0_0, .int .u64 a0_1, .int .u64 a0_2, .int .i64 a0_3] 33 (0, 0)) (bf0 BK349.out) hb); have n1_ := Ax (blk_below (g := gb350) (o := .cells #[.bool a1_0, .int .u64 a1_1, .int .u64 a1_2, .int .i64 a1_3] 33 (0, 0)) (bf0 BK350.out) hb); have n2_ := Ax (blk_below (g := gb351) (o := .cells #[.int .u64 a2_0, .int .u64 a2_1] 24 (0, 0)) (bf0 BK351.out) hb); have n3_ := Ax (blk_below (g := gb356) (o := .cells #[.int .u64 t353, .int .u64 t354] 24 (0, 0)) (bf0 BK356.out) hb); have n4_ := Ax (below_step (bw4 HB.out GE349.out GE350.out GE351.out GE356.out) hb); clear BK349; clear BK350; clear BK351; clear BK356; clear HB; have BK349 := n0_; have BK350 := n1_; have BK351 := n2_; have BK356 := n3_; have HB := n4_; clear n0_ n1_ n2_ n3_ n4_; (try clear hb); (try clear hb2); (try clear hk); (try clear hi)) | ((with_reducible refine gate_dst (N := 9) rfl ?_); refine box_event ?hg (N := 9) ?hd (cs := #[.int .u64 0, .int .u64 0]) (t := 24) ?hr ?_; (case hd => rfl); (case hg => rfl); (case hr => first | (go_simp; done) | (go_simp; rfl)); intro gb367 hg w74 hbox hb; have n0_ := Ax (blk_below (g := gb349) (o := .cells #[.bool a0_0, .int .u64 a0_1, .int .u64 a0_2, .int .i64 a0_3] 33 (0, 0)) (bf0 BK349.out) hb); have n1_ := Ax (blk_below (g := gb350) (o := .cells #[.bool a1_0, .int .u64 a1_1, .int .u64 a1_2, .int .i64 a1_3] 33 (0, 0)) (bf0 BK350.out) hb); have n2_ := Ax (blk_below (g := gb351) (o := .cells #[.int .u64 a2_0, .int .u64 a2_1] 24 (0, 0)) (bf0 BK351.out) hb); have n3_ := Ax (blk_below (g := gb356) (o := .cells #[.int .u64 t353, .int .u64 t354] 24 (0, 0)) (bf0 BK356.out) hb); have n4_ := Ax (below_step (bw4 HB.out GE349.out GE350.out GE351.out GE356.out) hb); have n5_ := Ax (hbox); have n6_ := Ax ((by rw [hg]; exact (below_size (bw4 HB.out GE349.out GE350.out GE351.out GE356.out)) : w.heap.size ≤ gb367)); have n7_ := Ax ((by rw [hg]; exact (below_size (bw4 HB.out GE349.out GE350.out GE351.out GE356.out)) : w.heap.size ≤ gb367)); have n8_ := Ax ((by rw [hg]; exact Nat.ne_of_lt (blk_lt (g := gb349) (o := .cells #[.bool a0_0, .int .u64 a0_1, .int .u64 a0_2, .int .i64 a0_3] 33 (0, 0)) (bf0 BK349.out)) : gb349 ≠ gb367)); have n9_ := Ax ((by rw [hg]; exact Nat.ne_of_gt (blk_lt (g := gb349) (o := .cells #[.bool a0_0, .int .u64 a0_1, .int .u64 a0_2, .int .i64 a0_3] 33 (0, 0)) (bf0 BK349.out)) : gb367 ≠ gb349)); have n10_ := Ax ((by rw [hg]; exact Nat.ne_of_lt (blk_lt (g := gb350) (o := .cells #[.bool a1_0, .int .u64 a1_1, .int .u64 a1_2, .int .i64 a1_3] 33 (0, 0)) (bf0 BK350.out)) : gb350 ≠ gb367)); have n11_ := Ax ((by rw [hg]; exact Nat.ne_of_gt (blk_lt (g := gb350) (o := .cells #[.bool a1_0, .int .u64 a1_1, .int .u64 a1_2, .int .i64 a1_3] 33 (0, 0)) (bf0 BK350.out)) : gb367 ≠ gb350)); have n12_ := Ax ((by rw [hg]; exact Nat.ne_of_lt (blk_lt (g := gb351) (o := .cells #[.int .u64 a2_0, .int .u64 a2_1] 24 (0, 0)) (bf0 BK351.out)) : gb351 ≠ gb367)); have n13_ := Ax ((by rw [hg]; exact Nat.ne_of_gt (blk_lt (g := gb351) (o := .cells #[.int .u64 a2_0, .int .u64 a2_1] 24 (0, 0)) (bf0 BK351.out)) : gb367 ≠ gb351)); have n14_ := Ax ((by rw [hg]; exact Nat.ne_of_lt (blk_lt (g := gb356) (o := .cells #[.int .u64 t353, .int .u64 t354] 24 (0, 0)) (bf0 BK356.out)) : gb356 ≠ gb367)); have n15_ := Ax ((by rw [hg]; exact Nat.ne_of_gt (blk_lt (g := gb356) (o := .cells #[.int .u64 t353, .int .u64 t354] 24 (0, 0)) (bf0 BK356.out)) : gb367 ≠ gb356)); clear BK349; clear BK350; clear BK351; clear BK356; clear HB; have BK349 := n0_; have BK350 := n1_; have BK351 := n2_; have BK356 := n3_; have HB := n4_; have BK367 := n5_; have GW367 := n6_; have GE367 := n7_; have NB349_367 := n8_; have NB367_349 := n9_; have NB350_367 := n10_; have NB367_350 := n11_; have NB351_367 := n12_; have NB367_351 := n13_; have NB356_367 := n14_; have NB367_356 := n15_; clear n0_ n1_ n2_ n3_ n4_ n5_ n6_ n7_ n8_ n9_ n10_ n11_ n12_ n13_ n14_ n15_; clear hb hbox hg; have hnb75 := NB367_349.out; have hnc75 := NB349_367.out; have hnb76 := NB367_350.out; have hnc76 := NB350_367.out; have hnb77 := NB367_351.out; have hnc77 := NB351_367.out; have hnb78 := NB367_356.out; have hnc78 := NB356_367.out; have hcz79_0 : w74.cell? ⟨gb367, 0, none⟩ = some (.int .u64 0) := (blk_cell BK367.out 0).trans rfl; have hcz79_1 : w74.cell? ⟨gb367, 1, none⟩ = some (.int .u64 0) := (blk_cell BK367.out 1).trans rfl; have hfz79_0 := blk_frozen BK367.out 0; have hfz79_1 := blk_frozen BK367.out 1))
        (try simp only [Act.put, List.setIfInBounds_toArray, List.set_cons_zero, List.set_cons_succ])
        go_cut [71] (fun v71 wc => ∃ (kq : Nat) (x71_67 : Bool), v71 = .bool x71_67 ∧ Aside0 (spoorlaw09_AddrBetween.j2 kq x71_67 a0_0 a0_1 a0_2 a0_3 a1_0 a1_1 a1_2 a1_3 t364 t365 = some r) ∧ Aside0 (kq ≤ kj40) ∧ Aside0 (wc.heap[gb349]? = some (.cells #[.bool a0_0, .int .u64 a0_1, .int .u64 a0_2, .int .i64 a0_3] 33 (0, 0))) ∧ Aside0 (wc.heap[gb350]? = some (.cells #[.bool a1_0, .int .u64 a1_1, .int .u64 a1_2, .int .i64 a1_3] 33 (0, 0))) ∧ Aside0 (wc.heap[gb351]? = some (.cells #[.int .u64 a2_0, .int .u64 a2_1] 24 (0, 0))) ∧ Aside0 (wc.heap[gb356]? = some (.cells #[.int .u64 t353, .int .u64 t354] 24 (0, 0))) ∧ Aside0 (wc.heap[gb367]? = some (.cells #[.int .u64 t364, .int .u64 t365] 24 (0, 0))) ∧ Aside0 (Below w.heap.size w wc))
        case first =>
         have H := HC68.out
         clear HC68
         by_cases c80 : t366 = 0
         ·rw [if_pos c80] at H
          have c80b0 : (t366 == 0) = true := beq_iff_eq.mpr c80
          have c80b1 : (t366 != 0) = false := bne_eq_false_iff_eq.mpr c80
          clear c80
          (first | rw [c80b0] | (simp only [i64_w, i32_w]; rw [c80b0]) | skip)
          have H' := Ax H
          clear H
          have hnb81 := NB350_349.out
          have hnc81 := NB349_350.out
          have hnb82 := NB350_351.out
          have hnc82 := NB351_350.out
          have hnb83 := NB350_356.out
          have hnc83 := NB356_350.out
          have hnb84 := NB350_367.out
          have hnc84 := NB367_350.out
          have hcz85_0 : w74.cell? ⟨gb350, 0, none⟩ = some (.bool a1_0) := (blk_cell BK350.out 0).trans rfl
          have hcz85_1 : w74.cell? ⟨gb350, 1, none⟩ = some (.int .u64 a1_1) := (blk_cell BK350.out 1).trans rfl
          have hcz85_2 : w74.cell? ⟨gb350, 2, none⟩ = some (.int .u64 a1_2) := (blk_cell BK350.out 2).trans rfl
          have hcz85_3 : w74.cell? ⟨gb350, 3, none⟩ = some (.int .i64 a1_3) := (blk_cell BK350.out 3).trans rfl
          have hfz85_0 := blk_frozen BK350.out 0
          have hfz85_1 := blk_frozen BK350.out 1
          have hfz85_2 := blk_frozen BK350.out 2
          have hfz85_3 := blk_frozen BK350.out 3
          have hnb86 := NB349_351.out
          have hnc86 := NB351_349.out
          have hnb87 := NB349_356.out
          have hnc87 := NB356_349.out
          have hnb88 := NB349_367.out
          have hnc88 := NB367_349.out
          have hcz89_0 : w74.cell? ⟨gb349, 0, none⟩ = some (.bool a0_0) := (blk_cell BK349.out 0).trans rfl
          have hcz89_1 : w74.cell? ⟨gb349, 1, none⟩ = some (.int .u64 a0_1) := (blk_cell BK349.out 1).trans rfl
          have hcz89_2 : w74.cell? ⟨gb349, 2, none⟩ = some (.int .u64 a0_2) := (blk_cell BK349.out 2).trans rfl
          have hcz89_3 : w74.cell? ⟨gb349, 3, none⟩ = some (.int .i64 a0_3) := (blk_cell BK349.out 3).trans rfl
          have hfz89_0 := blk_frozen BK349.out 0
          have hfz89_1 := blk_frozen BK349.out 1
          have hfz89_2 := blk_frozen BK349.out 2
          have hfz89_3 := blk_frozen BK349.out 3
          go_wp2
          go_meet
          case rel => exact ⟨_, ((a1_0 != a0_0)), rS, H', ⟨by have := HJ6.out; have := HJ40.out; first | omega | exact Nat.le_refl _⟩, ⟨bf2 BK349.out NB349_367.out NB349_367.out⟩, ⟨bf2 BK350.out NB350_367.out NB350_367.out⟩, ⟨bf2 BK351.out NB351_367.out NB351_367.out⟩, ⟨bf2 BK356.out NB356_367.out NB356_367.out⟩, ⟨by (with_reducible repeat (first | refine blk_drewN ?_ _ | refine blk_drew ?_ | refine blk_alloc ?_ _)); refine blk_put (cs := #[.int .u64 t364, .int .u64 0]) ?_ 1 _ rfl; (with_reducible repeat (first | refine blk_drewN ?_ _ | refine blk_drew ?_ | refine blk_alloc ?_ _)); refine blk_put (cs := #[.int .u64 0, .int .u64 0]) ?_ 0 _ rfl; (with_reducible repeat (first | refine blk_drewN ?_ _ | refine blk_drew ?_ | refine blk_alloc ?_ _)); exact BK367.out⟩, ⟨bw5 HB.out GE349.out GE350.out GE351.out GE356.out GE367.out⟩⟩
         ·rw [if_neg c80] at H
          have c80b0 : (t366 == 0) = false := beq_eq_false_iff_ne.mpr c80
          have c80b1 : (t366 != 0) = true := bne_iff_ne.mpr c80
          (first | rw [c80b0] | (simp only [i64_w, i32_w]; rw [c80b0]) | skip)
          have H' := Ax H
          clear H
          go_wp2
          go_meet
          case rel => exact ⟨_, (true), rS, H', ⟨by have := HJ6.out; have := HJ40.out; first | omega | exact Nat.le_refl _⟩, ⟨bf2 BK349.out NB349_367.out NB349_367.out⟩, ⟨bf2 BK350.out NB350_367.out NB350_367.out⟩, ⟨bf2 BK351.out NB351_367.out NB351_367.out⟩, ⟨bf2 BK356.out NB356_367.out NB356_367.out⟩, ⟨by (with_reducible repeat (first | refine blk_drewN ?_ _ | refine blk_drew ?_ | refine blk_alloc ?_ _)); refine blk_put (cs := #[.int .u64 t364, .int .u64 0]) ?_ 1 _ rfl; (with_reducible repeat (first | refine blk_drewN ?_ _ | refine blk_drew ?_ | refine blk_alloc ?_ _)); refine blk_put (cs := #[.int .u64 0, .int .u64 0]) ?_ 0 _ rfl; (with_reducible repeat (first | refine blk_drewN ?_ _ | refine blk_drew ?_ | refine blk_alloc ?_ _)); exact BK367.out⟩, ⟨bw5 HB.out GE349.out GE350.out GE351.out GE356.out GE367.out⟩⟩
        case rest =>
         clear HC68
         try clear c1
         try clear c2
         try clear p2
         try clear c4
         try clear c5
         try clear c6
         try clear c7
         try clear c8
         try clear c14
         try clear c16
         try clear c22
         try clear c44
         try clear c44b0
         try clear c57
         try clear c57b0
         try clear c57b1
         try clear c57b2
         try clear c66
         try clear c69
         try clear c70
         try clear c71
         try clear c75
         try clear c76
         try clear c77
         try clear c78
         try clear c80
         try clear c80b0
         try clear c80b1
         try clear c81
         try clear c82
         try clear c83
         try clear c84
         try clear c86
         try clear c87
         try clear c88
         try clear hcz72_0
         try clear hcz72_1
         try clear hcz72_2
         try clear hcz72_3
         try clear hcz79_0
         try clear hcz79_1
         try clear hcz85_0
         try clear hcz85_1
         try clear hcz85_2
         try clear hcz85_3
         try clear hcz89_0
         try clear hcz89_1
         try clear hcz89_2
         try clear hcz89_3
         try clear hfz72_0
         try clear hfz72_1
         try clear hfz72_2
         try clear hfz72_3
         try clear hfz79_0
         try clear hfz79_1
         try clear hfz85_0
         try clear hfz85_1
         try clear hfz85_2
         try clear hfz85_3
         try clear hfz89_0
         try clear hfz89_1
         try clear hfz89_2
         try clear hfz89_3
         try clear p2
         obtain ⟨kq, x71_67, rfl, HA, HJ67, BK349, BK350, BK351, BK356, BK367, HB⟩ := hcut
         cases kq with
         | zero => exact absurd HA.out (by simp [spoorlaw09_AddrBetween.j2])
         | succ kj67 =>
          have H := HA.out
          clear HA
          simp only [spoorlaw09_AddrBetween.j2] at H
          by_cases c90 : x71_67 = true
          ·subst c90
           have H1 : ((addr_Covers.f kj67 a0_0 a0_1 a0_2 a0_3 a1_0 a1_1 a1_2 a1_3).bind fun t368 => (if t368 = true then (none) else ((addr_Covers.f kj67 a1_0 a1_1 a1_2 a1_3 a0_0 a0_1 a0_2 a0_3).bind fun t369 => (some (!t369))))) = some r := by rw [if_pos rfl] at H; exact H
           clear H
           have H := H1
           clear H1
           replace H := Option.bind_eq_some_iff.mp H
           obtain ⟨t368, A910, H⟩ := H
           replace H : (if t368 = true then (none) else ((addr_Covers.f kj67 a1_0 a1_1 a1_2 a1_3 a0_0 a0_1 a0_2 a0_3).bind fun t369 => (some (!t369)))) = some r := H
           have A91 := Ax A910
           clear A910
           by_cases c92 : t368 = true
           ·subst c92
            have H1 : (none) = some r := by rw [if_pos rfl] at H; exact H
            clear H
            have H := H1
            clear H1
            exact absurd H (by simp)
           ·replace c92 := Bool.eq_false_iff.mpr c92
            subst c92
            have H1 : ((addr_Covers.f kj67 a1_0 a1_1 a1_2 a1_3 a0_0 a0_1 a0_2 a0_3).bind fun t369 => (some (!t369))) = some r := by rw [if_neg (show ¬ (false = true) by decide)] at H; exact H
            clear H
            have H := H1
            clear H1
            replace H := Option.bind_eq_some_iff.mp H
            obtain ⟨t369, A930, H⟩ := H
            replace H : (some (!t369)) = some r := H
            have A93 := Ax A930
            clear A930
            obtain rfl := Option.some.inj H
            have hnb94 := NB349_350.out
            have hnc94 := NB350_349.out
            have hnb95 := NB349_351.out
            have hnc95 := NB351_349.out
            have hnb96 := NB349_356.out
            have hnc96 := NB356_349.out
            have hnb97 := NB349_367.out
            have hnc97 := NB367_349.out
            have hcz98_0 : wc.cell? ⟨gb349, 0, none⟩ = some (.bool a0_0) := (blk_cell BK349.out 0).trans rfl
            have hcz98_1 : wc.cell? ⟨gb349, 1, none⟩ = some (.int .u64 a0_1) := (blk_cell BK349.out 1).trans rfl
            have hcz98_2 : wc.cell? ⟨gb349, 2, none⟩ = some (.int .u64 a0_2) := (blk_cell BK349.out 2).trans rfl
            have hcz98_3 : wc.cell? ⟨gb349, 3, none⟩ = some (.int .i64 a0_3) := (blk_cell BK349.out 3).trans rfl
            have hfz98_0 := blk_frozen BK349.out 0
            have hfz98_1 := blk_frozen BK349.out 1
            have hfz98_2 := blk_frozen BK349.out 2
            have hfz98_3 := blk_frozen BK349.out 3
            have hnb99 := NB350_351.out
            have hnc99 := NB351_350.out
            have hnb100 := NB350_356.out
            have hnc100 := NB356_350.out
            have hnb101 := NB350_367.out
            have hnc101 := NB367_350.out
            have hcz102_0 : wc.cell? ⟨gb350, 0, none⟩ = some (.bool a1_0) := (blk_cell BK350.out 0).trans rfl
            have hcz102_1 : wc.cell? ⟨gb350, 1, none⟩ = some (.int .u64 a1_1) := (blk_cell BK350.out 1).trans rfl
            have hcz102_2 : wc.cell? ⟨gb350, 2, none⟩ = some (.int .u64 a1_2) := (blk_cell BK350.out 2).trans rfl
            have hcz102_3 : wc.cell? ⟨gb350, 3, none⟩ = some (.int .i64 a1_3) := (blk_cell BK350.out 3).trans rfl
            have hfz102_0 := blk_frozen BK350.out 0
            have hfz102_1 := blk_frozen BK350.out 1
            have hfz102_2 := blk_frozen BK350.out 2
            have hfz102_3 := blk_frozen BK350.out 3
            go_wp2_with (first | ((with_reducible refine gate_callee (f := 24) rfl ?_); refine goesL_ (some 74) rfl rfl Try.func24 (by kernel_rfl) rfl #[.agg #[.bool a0_0, .int .u64 a0_1, .int .u64 a0_2, .int .i64 a0_3], .agg #[.bool a1_0, .int .u64 a1_1, .int .u64 a1_2, .int .i64 a1_3]] rfl gS ?_; (with_reducible refine (addr_Covers.calls kj67 a0_0 a0_1 a0_2 a0_3 a1_0 a1_1 a1_2 a1_3 false _ A91.out).mono ?_); rintro e w103 ⟨rfl, hb⟩; refine ⟨_, rfl, ?_⟩; have n0_ := Ax (blk_below (g := gb349) (o := .cells #[.bool a0_0, .int .u64 a0_1, .int .u64 a0_2, .int .i64 a0_3] 33 (0, 0)) (bf0 BK349.out) hb); have n1_ := Ax (blk_below (g := gb350) (o := .cells #[.bool a1_0, .int .u64 a1_1, .int .u64 a1_2, .int .i64 a1_3] 33 (0, 0)) (bf0 BK350.out) hb); have n2_ := Ax (blk_below (g := gb351) (o := .cells #[.int .u64 a2_0, .int .u64 a2_1] 24 (0, 0)) (bf0 BK351.out) hb); have n3_ := Ax (blk_below (g := gb356) (o := .cells #[.int .u64 t353, .int .u64 t354] 24 (0, 0)) (bf0 BK356.out) hb); have n4_ := Ax (blk_below (g := gb367) (o := .cells #[.int .u64 t364, .int .u64 t365] 24 (0, 0)) (bf0 BK367.out) hb); have n5_ := Ax (below_step (bw5 HB.out GE349.out GE350.out GE351.out GE356.out GE367.out) hb); clear BK349; clear BK350; clear BK351; clear BK356; clear BK367; clear HB; have BK349 := n0_; have BK350 := n1_; have BK351 := n2_; have BK356 := n3_; have BK367 := n4_; have HB := n5_; clear n0_ n1_ n2_ n3_ n4_ n5_; (try clear hb); (try clear hb2); (try clear hk); (try clear hi); have hcz104_0 : w103.cell? ⟨gb350, 0, none⟩ = some (.bool a1_0) := (blk_cell BK350.out 0).trans rfl; have hcz104_1 : w103.cell? ⟨gb350, 1, none⟩ = some (.int .u64 a1_1) := (blk_cell BK350.out 1).trans rfl; have hcz104_2 : w103.cell? ⟨gb350, 2, none⟩ = some (.int .u64 a1_2) := (blk_cell BK350.out 2).trans rfl; have hcz104_3 : w103.cell? ⟨gb350, 3, none⟩ = some (.int .i64 a1_3) := (blk_cell BK350.out 3).trans rfl; have hfz104_0 := blk_frozen BK350.out 0; have hfz104_1 := blk_frozen BK350.out 1; have hfz104_2 := blk_frozen BK350.out 2; have hfz104_3 := blk_frozen BK350.out 3; have hcz105_0 : w103.cell? ⟨gb349, 0, none⟩ = some (.bool a0_0) := (blk_cell BK349.out 0).trans rfl; have hcz105_1 : w103.cell? ⟨gb349, 1, none⟩ = some (.int .u64 a0_1) := (blk_cell BK349.out 1).trans rfl; have hcz105_2 : w103.cell? ⟨gb349, 2, none⟩ = some (.int .u64 a0_2) := (blk_cell BK349.out 2).trans rfl; have hcz105_3 : w103.cell? ⟨gb349, 3, none⟩ = some (.int .i64 a0_3) := (blk_cell BK349.out 3).trans rfl; have hfz105_0 := blk_frozen BK349.out 0; have hfz105_1 := blk_frozen BK349.out 1; have hfz105_2 := blk_frozen BK349.out 2; have hfz105_3 := blk_frozen BK349.out 3) | (go_at_call 24; (with_reducible refine (addr_Covers.calls kj67 a1_0 a1_1 a1_2 a1_3 a0_0 a0_1 a0_2 a0_3 t369 _ A93.out).mono ?_); rintro e w106 ⟨rfl, hb⟩; have n0_ := Ax (blk_below (g := gb349) (o := .cells #[.bool a0_0, .int .u64 a0_1, .int .u64 a0_2, .int .i64 a0_3] 33 (0, 0)) (bf0 BK349.out) hb); have n1_ := Ax (blk_below (g := gb350) (o := .cells #[.bool a1_0, .int .u64 a1_1, .int .u64 a1_2, .int .i64 a1_3] 33 (0, 0)) (bf0 BK350.out) hb); have n2_ := Ax (blk_below (g := gb351) (o := .cells #[.int .u64 a2_0, .int .u64 a2_1] 24 (0, 0)) (bf0 BK351.out) hb); have n3_ := Ax (blk_below (g := gb356) (o := .cells #[.int .u64 t353, .int .u64 t354] 24 (0, 0)) (bf0 BK356.out) hb); have n4_ := Ax (blk_below (g := gb367) (o := .cells #[.int .u64 t364, .int .u64 t365] 24 (0, 0)) (bf0 BK367.out) hb); have n5_ := Ax (below_step (bw5 HB.out GE349.out GE350.out GE351.out GE356.out GE367.out) hb); clear BK349; clear BK350; clear BK351; clear BK356; clear BK367; clear HB; have BK349 := n0_; have BK350 := n1_; have BK351 := n2_; have BK356 := n3_; have BK367 := n4_; have HB := n5_; clear n0_ n1_ n2_ n3_ n4_ n5_; (try clear hb); (try clear hb2); (try clear hk); (try clear hi)))
            go_ret
            exact ⟨eS, bw5 HB.out GE349.out GE350.out GE351.out GE356.out GE367.out⟩
          ·replace c90 := Bool.eq_false_iff.mpr c90
           subst c90
           have H1 : ((addr_Covers.f kj67 a0_0 a0_1 a0_2 a0_3 a1_0 a1_1 a1_2 a1_3).bind fun t370 => ((addr_Has.f kj67 a0_0 a0_1 a0_2 a0_3 a0_0 a1_1 a1_2).bind fun t371 => (if t371 = true then ((addr_Has.f kj67 a0_0 a0_1 a0_2 a0_3 a0_0 t364 t365).bind fun t372 => (if (t370 == t372) = true then ((addr_Covers.f kj67 a0_0 a0_1 a0_2 a0_3 a1_0 a1_1 a1_2 a1_3).bind fun t373 => (if t373 = true then (some (decide (a0_3 ≤ a1_3))) else (some true))) else (none))) else (if (t370 == false) = true then ((addr_Covers.f kj67 a0_0 a0_1 a0_2 a0_3 a1_0 a1_1 a1_2 a1_3).bind fun t374 => (if t374 = true then (some (decide (a0_3 ≤ a1_3))) else (some true))) else (none))))) = some r := by rw [if_neg (show ¬ (false = true) by decide)] at H; exact H
           clear H
           have H := H1
           clear H1
           replace H := Option.bind_eq_some_iff.mp H
           obtain ⟨t370, A1070, H⟩ := H
           replace H : ((addr_Has.f kj67 a0_0 a0_1 a0_2 a0_3 a0_0 a1_1 a1_2).bind fun t371 => (if t371 = true then ((addr_Has.f kj67 a0_0 a0_1 a0_2 a0_3 a0_0 t364 t365).bind fun t372 => (if (t370 == t372) = true then ((addr_Covers.f kj67 a0_0 a0_1 a0_2 a0_3 a1_0 a1_1 a1_2 a1_3).bind fun t373 => (if t373 = true then (some (decide (a0_3 ≤ a1_3))) else (some true))) else (none))) else (if (t370 == false) = true then ((addr_Covers.f kj67 a0_0 a0_1 a0_2 a0_3 a1_0 a1_1 a1_2 a1_3).bind fun t374 => (if t374 = true then (some (decide (a0_3 ≤ a1_3))) else (some true))) else (none)))) = some r := H
           have A107 := Ax A1070
           clear A1070
           replace H := Option.bind_eq_some_iff.mp H
           obtain ⟨t371, A1080, H⟩ := H
           replace H : (if t371 = true then ((addr_Has.f kj67 a0_0 a0_1 a0_2 a0_3 a0_0 t364 t365).bind fun t372 => (if (t370 == t372) = true then ((addr_Covers.f kj67 a0_0 a0_1 a0_2 a0_3 a1_0 a1_1 a1_2 a1_3).bind fun t373 => (if t373 = true then (some (decide (a0_3 ≤ a1_3))) else (some true))) else (none))) else (if (t370 == false) = true then ((addr_Covers.f kj67 a0_0 a0_1 a0_2 a0_3 a1_0 a1_1 a1_2 a1_3).bind fun t374 => (if t374 = true then (some (decide (a0_3 ≤ a1_3))) else (some true))) else (none))) = some r := H
           have A108 := Ax A1080
           clear A1080
           by_cases c109 : t371 = true
           ·subst c109
            have H1 : ((addr_Has.f kj67 a0_0 a0_1 a0_2 a0_3 a0_0 t364 t365).bind fun t372 => (if (t370 == t372) = true then ((addr_Covers.f kj67 a0_0 a0_1 a0_2 a0_3 a1_0 a1_1 a1_2 a1_3).bind fun t373 => (if t373 = true then (some (decide (a0_3 ≤ a1_3))) else (some true))) else (none))) = some r := by rw [if_pos rfl] at H; exact H
            clear H
            have H := H1
            clear H1
            replace H := Option.bind_eq_some_iff.mp H
            obtain ⟨t372, A1100, H⟩ := H
            replace H : (if (t370 == t372) = true then ((addr_Covers.f kj67 a0_0 a0_1 a0_2 a0_3 a1_0 a1_1 a1_2 a1_3).bind fun t373 => (if t373 = true then (some (decide (a0_3 ≤ a1_3))) else (some true))) else (none)) = some r := H
            have A110 := Ax A1100
            clear A1100
            by_cases c111 : (t370 == t372) = true
            ·rw [if_pos c111] at H
             have c111b0 : (t370 == t372) = true := c111
             (try (have c111b1 : decide (t370 = t372) = true := by simpa using c111))
             (try (have c111b2 : (t370 == t372) = true := by simpa using c111))
             clear c111
             replace H := Option.bind_eq_some_iff.mp H
             obtain ⟨t373, A1120, H⟩ := H
             replace H : (if t373 = true then (some (decide (a0_3 ≤ a1_3))) else (some true)) = some r := H
             have A112 := Ax A1120
             clear A1120
             by_cases c113 : t373 = true
             ·subst c113
              have H1 : (some (decide (a0_3 ≤ a1_3))) = some r := by rw [if_pos rfl] at H; exact H
              clear H
              have H := H1
              clear H1
              obtain rfl := Option.some.inj H
              try go_wp2
              have n0_ := Ax (blk_drew BK349.out)
              have n1_ := Ax (blk_drew BK350.out)
              have n2_ := Ax (blk_drew BK351.out)
              have n3_ := Ax (blk_drew BK356.out)
              have n4_ := Ax (blk_drew BK367.out)
              have n5_ := Ax (below_drew1 HB.out)
              clear BK349
              clear BK350
              clear BK351
              clear BK356
              clear BK367
              clear HB
              have BK349 := n0_
              have BK350 := n1_
              have BK351 := n2_
              have BK356 := n3_
              have BK367 := n4_
              have HB := n5_
              clear n0_ n1_ n2_ n3_ n4_ n5_
              refine start_ (n := 31) (S := fun w' => w'.cell? ⟨gb349, 0, none⟩ = some (.bool a0_0) ∧ w'.cell? ⟨gb349, 1, none⟩ = some (.int .u64 a0_1) ∧ w'.cell? ⟨gb349, 2, none⟩ = some (.int .u64 a0_2) ∧ w'.cell? ⟨gb349, 3, none⟩ = some (.int .i64 a0_3) ∧ w'.cell? ⟨gb350, 0, none⟩ = some (.bool a1_0) ∧ w'.cell? ⟨gb350, 1, none⟩ = some (.int .u64 a1_1) ∧ w'.cell? ⟨gb350, 2, none⟩ = some (.int .u64 a1_2) ∧ w'.cell? ⟨gb350, 3, none⟩ = some (.int .i64 a1_3) ∧ w'.cell? ⟨gb367, 0, none⟩ = some (.int .u64 t364) ∧ w'.cell? ⟨gb367, 1, none⟩ = some (.int .u64 t365)) (ds := []) #[fa,fa,fa,fa,fa,fa,fa,fa,fa,fa,fa,fa,fa,fa,fa,fa,fa,fa,fa,fa,fa,fa,fa,fa,fa,fa,fa,fa,fa,fa,fa] (by kernel_rfl) rfl rfl ⟨(blk_cell BK349.out 0).trans rfl, (blk_cell BK349.out 1).trans rfl, (blk_cell BK349.out 2).trans rfl, (blk_cell BK349.out 3).trans rfl, (blk_cell BK350.out 0).trans rfl, (blk_cell BK350.out 1).trans rfl, (blk_cell BK350.out 2).trans rfl, (blk_cell BK350.out 3).trans rfl, (blk_cell BK367.out 0).trans rfl, (blk_cell BK367.out 1).trans rfl⟩ (fun hHeld => ?_); refine with_tabW spoorlaw09_AddrBetween.tab11 spoorlaw09_AddrBetween.bits11 (fun HT_ HW_ => ?_)
              generalize wc.drew = w114 at BK349 BK350 BK351 BK356 BK367 HB hHeld ⊢
              refine pure_ (i := 4) (N := some 86) (v := ?_) (a' := ?_) #[fa,fa,fa,fa,tr,fa,fa,fa,fa,fa,fa,fa,fa,fa,fa,fa,fa,fa,fa,fa,fa,fa,fa,fa,fa,fa,fa,fa,fa,fa,fa] rfl rfl (any_of HT_.out (by kernel_rfl)) (fun _ _ _ h => h) (Or.inl ⟨by rfl, ?_⟩) ?_ ?_
              rotate_left
              ·intro w'
               go_simp
               with_reducible rfl
              rotate_left
              ·simp only [sP]
               rfl
              refine pure_ (i := 6) (N := some 88) (v := ?_) (a' := ?_) #[fa,fa,fa,fa,tr,fa,tr,fa,fa,fa,fa,fa,fa,fa,fa,fa,fa,fa,fa,fa,fa,fa,fa,fa,fa,fa,fa,fa,fa,fa,fa] rfl rfl (any_of HT_.out (by kernel_rfl)) (fun _ _ _ h => h) (Or.inl ⟨by rfl, ?_⟩) ?_ ?_
              rotate_left
              ·intro w'
               go_simp
               with_reducible rfl
              rotate_left
              ·simp only [sP]
               rfl
              refine take_ (i := 0) (N := some 82) (v := ?_) (a' := ?_) #[tr,fa,fa,fa,tr,fa,tr,fa,fa,fa,fa,fa,fa,fa,fa,fa,fa,fa,fa,fa,fa,fa,fa,fa,fa,fa,fa,fa,fa,fa,fa] rfl rfl (take_ofW HT_.out HW_.out (by kernel_rfl)) (fun _ _ _ h => h) (Or.inl ⟨by rfl, ?_⟩) hHeld ?_ ?_
              rotate_left
              ·rintro w' ⟨s0, s1, s2, s3, s4, s5, s6, s7, s8, s9⟩
               go_simp
               with_reducible rfl
              rotate_left
              ·simp only [sP]
               rfl
              refine take_ (i := 1) (N := some 83) (v := ?_) (a' := ?_) #[tr,tr,fa,fa,tr,fa,tr,fa,fa,fa,fa,fa,fa,fa,fa,fa,fa,fa,fa,fa,fa,fa,fa,fa,fa,fa,fa,fa,fa,fa,fa] rfl rfl (take_ofW HT_.out HW_.out (by kernel_rfl)) (fun _ _ _ h => h) (Or.inl ⟨by rfl, ?_⟩) hHeld ?_ ?_
              rotate_left
              ·rintro w' ⟨s0, s1, s2, s3, s4, s5, s6, s7, s8, s9⟩
               go_simp
               with_reducible rfl
              rotate_left
              ·simp only [sP]
               rfl
              refine take_ (i := 3) (N := some 85) (v := ?_) (a' := ?_) #[tr,tr,fa,tr,tr,fa,tr,fa,fa,fa,fa,fa,fa,fa,fa,fa,fa,fa,fa,fa,fa,fa,fa,fa,fa,fa,fa,fa,fa,fa,fa] rfl rfl (take_ofW HT_.out HW_.out (by kernel_rfl)) (fun _ _ _ h => h) (Or.inl ⟨by rfl, ?_⟩) hHeld ?_ ?_
              rotate_left
              ·rintro w' ⟨s0, s1, s2, s3, s4, s5, s6, s7, s8, s9⟩
               go_simp
               with_reducible rfl
              rotate_left
              ·simp only [sP]
               rfl
              refine take_ (i := 5) (N := some 87) (v := ?_) (a' := ?_) #[tr,tr,fa,tr,tr,tr,tr,fa,fa,fa,fa,fa,fa,fa,fa,fa,fa,fa,fa,fa,fa,fa,fa,fa,fa,fa,fa,fa,fa,fa,fa] rfl rfl (take_ofW HT_.out HW_.out (by kernel_rfl)) (fun _ _ _ h => h) (Or.inl ⟨by rfl, ?_⟩) hHeld ?_ ?_
              rotate_left
              ·rintro w' ⟨s0, s1, s2, s3, s4, s5, s6, s7, s8, s9⟩
               go_simp
               with_reducible rfl
              rotate_left
              ·simp only [sP]
               rfl
              refine take_ (i := 7) (N := some 89) (v := ?_) (a' := ?_) #[tr,tr,fa,tr,tr,tr,tr,tr,fa,fa,fa,fa,fa,fa,fa,fa,fa,fa,fa,fa,fa,fa,fa,fa,fa,fa,fa,fa,fa,fa,fa] rfl rfl (take_ofW HT_.out HW_.out (by kernel_rfl)) (fun _ _ _ h => h) (Or.inl ⟨by rfl, ?_⟩) hHeld ?_ ?_
              rotate_left
              ·rintro w' ⟨s0, s1, s2, s3, s4, s5, s6, s7, s8, s9⟩
               go_simp
               with_reducible rfl
              rotate_left
              ·simp only [sP]
               rfl
              refine one_ (i := 2) (N := some 84) #[tr,tr,tr,tr,tr,tr,tr,tr,fa,fa,fa,fa,fa,fa,fa,fa,fa,fa,fa,fa,fa,fa,fa,fa,fa,fa,fa,fa,fa,fa,fa] rfl rfl (one_of HT_.out (by kernel_rfl)) (by decide) (fun K hK => ?_)
              refine goes_ Try.func24 (by kernel_rfl) rfl #[.agg #[.bool a0_0, .int .u64 a0_1, .int .u64 a0_2, .int .i64 a0_3], .agg #[.bool a1_0, .int .u64 a1_1, .int .u64 a1_2, .int .i64 a1_3]] (by rfl) rfl rfl gS ?_
              with_reducible refine (addr_Covers.calls kj67 a0_0 a0_1 a0_2 a0_3 a1_0 a1_1 a1_2 a1_3 t370 _ A107.out).mono ?_
              rintro e w115 ⟨rfl, hb⟩
              refine ⟨_, rfl, ?_⟩
              have n0_ := Ax (blk_below (g := gb349) (o := .cells #[.bool a0_0, .int .u64 a0_1, .int .u64 a0_2, .int .i64 a0_3] 33 (0, 0)) (bf0 BK349.out) hb)
              have n1_ := Ax (blk_below (g := gb350) (o := .cells #[.bool a1_0, .int .u64 a1_1, .int .u64 a1_2, .int .i64 a1_3] 33 (0, 0)) (bf0 BK350.out) hb)
              have n2_ := Ax (blk_below (g := gb351) (o := .cells #[.int .u64 a2_0, .int .u64 a2_1] 24 (0, 0)) (bf0 BK351.out) hb)
              have n3_ := Ax (blk_below (g := gb356) (o := .cells #[.int .u64 t353, .int .u64 t354] 24 (0, 0)) (bf0 BK356.out) hb)
              have n4_ := Ax (blk_below (g := gb367) (o := .cells #[.int .u64 t364, .int .u64 t365] 24 (0, 0)) (bf0 BK367.out) hb)
              have n5_ := Ax (below_step (bw5 HB.out GE349.out GE350.out GE351.out GE356.out GE367.out) hb)
              clear BK349
              clear BK350
              clear BK351
              clear BK356
              clear BK367
              clear HB
              have BK349 := n0_
              have BK350 := n1_
              have BK351 := n2_
              have BK356 := n3_
              have BK367 := n4_
              have HB := n5_
              clear n0_ n1_ n2_ n3_ n4_ n5_
              (try clear hb)
              (try clear hb2)
              (try clear hk)
              (try clear hi)
              refine hK.out _ _ ⟨(blk_cell BK349.out 0).trans rfl, (blk_cell BK349.out 1).trans rfl, (blk_cell BK349.out 2).trans rfl, (blk_cell BK349.out 3).trans rfl, (blk_cell BK350.out 0).trans rfl, (blk_cell BK350.out 1).trans rfl, (blk_cell BK350.out 2).trans rfl, (blk_cell BK350.out 3).trans rfl, (blk_cell BK367.out 0).trans rfl, (blk_cell BK367.out 1).trans rfl⟩ (fun hHeld => ?_)
              clear hK K
              refine norm_ (a' := ?_) ?_ ?_
              rotate_left
              ·show Act.put _ (some 84) _ = _
               simp only [sP]
               rfl
              refine one_ (i := 8) (N := some 90) #[tr,tr,tr,tr,tr,tr,tr,tr,tr,fa,fa,fa,fa,fa,fa,fa,fa,fa,fa,fa,fa,fa,fa,fa,fa,fa,fa,fa,fa,fa,fa] rfl rfl (one_of HT_.out (by kernel_rfl)) (by decide) (fun K hK => ?_)
              refine goes_ Try.func22 (by kernel_rfl) rfl #[.agg #[.bool a0_0, .int .u64 a0_1, .int .u64 a0_2, .int .i64 a0_3], .bool a0_0, .agg #[.int .u64 a1_1, .int .u64 a1_2]] (by rfl) rfl rfl gS ?_
              with_reducible refine (addr_Has.calls kj67 a0_0 a0_1 a0_2 a0_3 a0_0 a1_1 a1_2 true _ A108.out).mono ?_
              rintro e w116 ⟨rfl, hb⟩
              refine ⟨_, rfl, ?_⟩
              have n0_ := Ax (blk_below (g := gb349) (o := .cells #[.bool a0_0, .int .u64 a0_1, .int .u64 a0_2, .int .i64 a0_3] 33 (0, 0)) (bf0 BK349.out) hb)
              have n1_ := Ax (blk_below (g := gb350) (o := .cells #[.bool a1_0, .int .u64 a1_1, .int .u64 a1_2, .int .i64 a1_3] 33 (0, 0)) (bf0 BK350.out) hb)
              have n2_ := Ax (blk_below (g := gb351) (o := .cells #[.int .u64 a2_0, .int .u64 a2_1] 24 (0, 0)) (bf0 BK351.out) hb)
              have n3_ := Ax (blk_below (g := gb356) (o := .cells #[.int .u64 t353, .int .u64 t354] 24 (0, 0)) (bf0 BK356.out) hb)
              have n4_ := Ax (blk_below (g := gb367) (o := .cells #[.int .u64 t364, .int .u64 t365] 24 (0, 0)) (bf0 BK367.out) hb)
              have n5_ := Ax (below_step (bw5 HB.out GE349.out GE350.out GE351.out GE356.out GE367.out) hb)
              clear BK349
              clear BK350
              clear BK351
              clear BK356
              clear BK367
              clear HB
              have BK349 := n0_
              have BK350 := n1_
              have BK351 := n2_
              have BK356 := n3_
              have BK367 := n4_
              have HB := n5_
              clear n0_ n1_ n2_ n3_ n4_ n5_
              (try clear hb)
              (try clear hb2)
              (try clear hk)
              (try clear hi)
              refine hK.out _ _ ⟨(blk_cell BK349.out 0).trans rfl, (blk_cell BK349.out 1).trans rfl, (blk_cell BK349.out 2).trans rfl, (blk_cell BK349.out 3).trans rfl, (blk_cell BK350.out 0).trans rfl, (blk_cell BK350.out 1).trans rfl, (blk_cell BK350.out 2).trans rfl, (blk_cell BK350.out 3).trans rfl, (blk_cell BK367.out 0).trans rfl, (blk_cell BK367.out 1).trans rfl⟩ (fun hHeld => ?_)
              clear hK K
              refine norm_ (a' := ?_) ?_ ?_
              rotate_left
              ·show Act.put _ (some 90) _ = _
               simp only [sP]
               rfl
              refine pure_ (i := 9) (N := some 91) (v := ?_) (a' := ?_) #[tr,tr,tr,tr,tr,tr,tr,tr,tr,tr,fa,fa,fa,fa,fa,fa,fa,fa,fa,fa,fa,fa,fa,fa,fa,fa,fa,fa,fa,fa,fa] rfl rfl (any_of HT_.out (by kernel_rfl)) (fun _ _ _ h => h) (Or.inl ⟨by rfl, ?_⟩) ?_ ?_
              rotate_left
              ·intro w'
               go_simp
               with_reducible rfl
              rotate_left
              ·simp only [sP]
               rfl
              refine pure_ (i := 11) (N := some 93) (v := ?_) (a' := ?_) #[tr,tr,tr,tr,tr,tr,tr,tr,tr,tr,fa,tr,fa,fa,fa,fa,fa,fa,fa,fa,fa,fa,fa,fa,fa,fa,fa,fa,fa,fa,fa] rfl rfl (any_of HT_.out (by kernel_rfl)) (fun _ _ _ h => h) (Or.inl ⟨by rfl, ?_⟩) ?_ ?_
              rotate_left
              ·intro w'
               go_simp
               with_reducible rfl
              rotate_left
              ·simp only [sP]
               rfl
              refine take_ (i := 10) (N := some 92) (v := ?_) (a' := ?_) #[tr,tr,tr,tr,tr,tr,tr,tr,tr,tr,tr,tr,fa,fa,fa,fa,fa,fa,fa,fa,fa,fa,fa,fa,fa,fa,fa,fa,fa,fa,fa] rfl rfl (take_ofW HT_.out HW_.out (by kernel_rfl)) (fun _ _ _ h => h) (Or.inl ⟨by rfl, ?_⟩) hHeld ?_ ?_
              rotate_left
              ·rintro w' ⟨s0, s1, s2, s3, s4, s5, s6, s7, s8, s9⟩
               go_simp
               with_reducible rfl
              rotate_left
              ·simp only [sP]
               rfl
              refine take_ (i := 12) (N := some 94) (v := ?_) (a' := ?_) #[tr,tr,tr,tr,tr,tr,tr,tr,tr,tr,tr,tr,tr,fa,fa,fa,fa,fa,fa,fa,fa,fa,fa,fa,fa,fa,fa,fa,fa,fa,fa] rfl rfl (take_ofW HT_.out HW_.out (by kernel_rfl)) (fun _ _ _ h => h) (Or.inl ⟨by rfl, ?_⟩) hHeld ?_ ?_
              rotate_left
              ·rintro w' ⟨s0, s1, s2, s3, s4, s5, s6, s7, s8, s9⟩
               go_simp
               with_reducible rfl
              rotate_left
              ·simp only [sP]
               rfl
              refine take_ (i := 13) (N := some 95) (v := ?_) (a' := ?_) #[tr,tr,tr,tr,tr,tr,tr,tr,tr,tr,tr,tr,tr,tr,fa,fa,fa,fa,fa,fa,fa,fa,fa,fa,fa,fa,fa,fa,fa,fa,fa] rfl rfl (take_ofW HT_.out HW_.out (by kernel_rfl)) (fun _ _ _ h => h) (Or.inl ⟨by rfl, ?_⟩) hHeld ?_ ?_
              rotate_left
              ·rintro w' ⟨s0, s1, s2, s3, s4, s5, s6, s7, s8, s9⟩
               go_simp
               with_reducible rfl
              rotate_left
              ·simp only [sP]
               rfl
              refine one_ (i := 14) (N := some 96) #[tr,tr,tr,tr,tr,tr,tr,tr,tr,tr,tr,tr,tr,tr,tr,fa,fa,fa,fa,fa,fa,fa,fa,fa,fa,fa,fa,fa,fa,fa,fa] rfl rfl (one_of HT_.out (by kernel_rfl)) (by decide) (fun K hK => ?_)
              refine goes_ Try.func22 (by kernel_rfl) rfl #[.agg #[.bool a0_0, .int .u64 a0_1, .int .u64 a0_2, .int .i64 a0_3], .bool a0_0, .agg #[.int .u64 t364, .int .u64 t365]] (by rfl) rfl rfl gS ?_
              with_reducible refine (addr_Has.calls kj67 a0_0 a0_1 a0_2 a0_3 a0_0 t364 t365 t372 _ A110.out).mono ?_
              rintro e w117 ⟨rfl, hb⟩
              refine ⟨_, rfl, ?_⟩
              have n0_ := Ax (blk_below (g := gb349) (o := .cells #[.bool a0_0, .int .u64 a0_1, .int .u64 a0_2, .int .i64 a0_3] 33 (0, 0)) (bf0 BK349.out) hb)
              have n1_ := Ax (blk_below (g := gb350) (o := .cells #[.bool a1_0, .int .u64 a1_1, .int .u64 a1_2, .int .i64 a1_3] 33 (0, 0)) (bf0 BK350.out) hb)
              have n2_ := Ax (blk_below (g := gb351) (o := .cells #[.int .u64 a2_0, .int .u64 a2_1] 24 (0, 0)) (bf0 BK351.out) hb)
              have n3_ := Ax (blk_below (g := gb356) (o := .cells #[.int .u64 t353, .int .u64 t354] 24 (0, 0)) (bf0 BK356.out) hb)
              have n4_ := Ax (blk_below (g := gb367) (o := .cells #[.int .u64 t364, .int .u64 t365] 24 (0, 0)) (bf0 BK367.out) hb)
              have n5_ := Ax (below_step (bw5 HB.out GE349.out GE350.out GE351.out GE356.out GE367.out) hb)
              clear BK349
              clear BK350
              clear BK351
              clear BK356
              clear BK367
              clear HB
              have BK349 := n0_
              have BK350 := n1_
              have BK351 := n2_
              have BK356 := n3_
              have BK367 := n4_
              have HB := n5_
              clear n0_ n1_ n2_ n3_ n4_ n5_
              (try clear hb)
              (try clear hb2)
              (try clear hk)
              (try clear hi)
              refine hK.out _ _ ⟨(blk_cell BK349.out 0).trans rfl, (blk_cell BK349.out 1).trans rfl, (blk_cell BK349.out 2).trans rfl, (blk_cell BK349.out 3).trans rfl, (blk_cell BK350.out 0).trans rfl, (blk_cell BK350.out 1).trans rfl, (blk_cell BK350.out 2).trans rfl, (blk_cell BK350.out 3).trans rfl, (blk_cell BK367.out 0).trans rfl, (blk_cell BK367.out 1).trans rfl⟩ (fun hHeld => ?_)
              clear hK K
              refine norm_ (a' := ?_) ?_ ?_
              rotate_left
              ·show Act.put _ (some 96) _ = _
               simp only [sP]
               rfl
              refine pure_ (i := 15) (N := some 97) (v := ?_) (a' := ?_) #[tr,tr,tr,tr,tr,tr,tr,tr,tr,tr,tr,tr,tr,tr,tr,tr,fa,fa,fa,fa,fa,fa,fa,fa,fa,fa,fa,fa,fa,fa,fa] rfl rfl (any_of HT_.out (by kernel_rfl)) (fun _ _ _ h => h) (Or.inl ⟨by rfl, ?_⟩) ?_ ?_
              rotate_left
              ·intro w'
               go_simp
               with_reducible rfl
              rotate_left
              ·simp only [sP]
               rfl
              refine pure_ (i := 16) (N := some 98) (v := ?_) (a' := ?_) #[tr,tr,tr,tr,tr,tr,tr,tr,tr,tr,tr,tr,tr,tr,tr,tr,tr,fa,fa,fa,fa,fa,fa,fa,fa,fa,fa,fa,fa,fa,fa] rfl rfl (any_of HT_.out (by kernel_rfl)) (fun _ _ _ h => h) (Or.inl ⟨by rfl, ?_⟩) ?_ ?_
              rotate_left
              ·intro w'
               go_simp
               with_reducible rfl
              rotate_left
              ·simp only [sP]
               rfl
              refine pure_ (i := 17) (N := some 99) (v := ?_) (a' := ?_) #[tr,tr,tr,tr,tr,tr,tr,tr,tr,tr,tr,tr,tr,tr,tr,tr,tr,tr,fa,fa,fa,fa,fa,fa,fa,fa,fa,fa,fa,fa,fa] rfl rfl (any_of HT_.out (by kernel_rfl)) (fun _ _ _ h => h) (Or.inl ⟨by rfl, ?_⟩) ?_ ?_
              rotate_left
              ·intro w'
               go_simp
               with_reducible rfl
              rotate_left
              ·simp only [sP]
               rfl
              refine take_ (i := 18) (N := some 100) (v := ?_) (a' := ?_) #[tr,tr,tr,tr,tr,tr,tr,tr,tr,tr,tr,tr,tr,tr,tr,tr,tr,tr,tr,fa,fa,fa,fa,fa,fa,fa,fa,fa,fa,fa,fa] rfl rfl (take_ofW HT_.out HW_.out (by kernel_rfl)) (fun _ _ _ h => h) (Or.inl ⟨by rfl, ?_⟩) hHeld ?_ ?_
              rotate_left
              ·rintro w' ⟨s0, s1, s2, s3, s4, s5, s6, s7, s8, s9⟩
               go_simp
               with_reducible rfl
              rotate_left
              ·simp only [sP]
               rfl
              refine take_ (i := 19) (N := some 101) (v := ?_) (a' := ?_) #[tr,tr,tr,tr,tr,tr,tr,tr,tr,tr,tr,tr,tr,tr,tr,tr,tr,tr,tr,tr,fa,fa,fa,fa,fa,fa,fa,fa,fa,fa,fa] rfl rfl (take_ofW HT_.out HW_.out (by kernel_rfl)) (fun _ _ _ h => h) (Or.inl ⟨by rfl, ?_⟩) hHeld ?_ ?_
              rotate_left
              ·rintro w' ⟨s0, s1, s2, s3, s4, s5, s6, s7, s8, s9⟩
               go_simp
               with_reducible rfl
              rotate_left
              ·simp only [sP]
               rfl
              refine one_ (i := 20) (N := some 102) #[tr,tr,tr,tr,tr,tr,tr,tr,tr,tr,tr,tr,tr,tr,tr,tr,tr,tr,tr,tr,tr,fa,fa,fa,fa,fa,fa,fa,fa,fa,fa] rfl rfl (one_of HT_.out (by kernel_rfl)) (by decide) (fun K hK => ?_)
              refine goes_ Try.func24 (by kernel_rfl) rfl #[.agg #[.bool a0_0, .int .u64 a0_1, .int .u64 a0_2, .int .i64 a0_3], .agg #[.bool a1_0, .int .u64 a1_1, .int .u64 a1_2, .int .i64 a1_3]] (by rfl) rfl rfl gS ?_
              with_reducible refine (addr_Covers.calls kj67 a0_0 a0_1 a0_2 a0_3 a1_0 a1_1 a1_2 a1_3 true _ A112.out).mono ?_
              rintro e w118 ⟨rfl, hb⟩
              refine ⟨_, rfl, ?_⟩
              have n0_ := Ax (blk_below (g := gb349) (o := .cells #[.bool a0_0, .int .u64 a0_1, .int .u64 a0_2, .int .i64 a0_3] 33 (0, 0)) (bf0 BK349.out) hb)
              have n1_ := Ax (blk_below (g := gb350) (o := .cells #[.bool a1_0, .int .u64 a1_1, .int .u64 a1_2, .int .i64 a1_3] 33 (0, 0)) (bf0 BK350.out) hb)
              have n2_ := Ax (blk_below (g := gb351) (o := .cells #[.int .u64 a2_0, .int .u64 a2_1] 24 (0, 0)) (bf0 BK351.out) hb)
              have n3_ := Ax (blk_below (g := gb356) (o := .cells #[.int .u64 t353, .int .u64 t354] 24 (0, 0)) (bf0 BK356.out) hb)
              have n4_ := Ax (blk_below (g := gb367) (o := .cells #[.int .u64 t364, .int .u64 t365] 24 (0, 0)) (bf0 BK367.out) hb)
              have n5_ := Ax (below_step (bw5 HB.out GE349.out GE350.out GE351.out GE356.out GE367.out) hb)
              clear BK349
              clear BK350
              clear BK351
              clear BK356
              clear BK367
              clear HB
              have BK349 := n0_
              have BK350 := n1_
              have BK351 := n2_
              have BK356 := n3_
              have BK367 := n4_
              have HB := n5_
              clear n0_ n1_ n2_ n3_ n4_ n5_
              (try clear hb)
              (try clear hb2)
              (try clear hk)
              (try clear hi)
              refine hK.out _ _ ⟨(blk_cell BK349.out 0).trans rfl, (blk_cell BK349.out 1).trans rfl, (blk_cell BK349.out 2).trans rfl, (blk_cell BK349.out 3).trans rfl, (blk_cell BK350.out 0).trans rfl, (blk_cell BK350.out 1).trans rfl, (blk_cell BK350.out 2).trans rfl, (blk_cell BK350.out 3).trans rfl, (blk_cell BK367.out 0).trans rfl, (blk_cell BK367.out 1).trans rfl⟩ (fun hHeld => ?_)
              clear hK K
              refine norm_ (a' := ?_) ?_ ?_
              rotate_left
              ·show Act.put _ (some 102) _ = _
               simp only [sP]
               rfl
              refine pure_ (i := 21) (N := some 103) (v := ?_) (a' := ?_) #[tr,tr,tr,tr,tr,tr,tr,tr,tr,tr,tr,tr,tr,tr,tr,tr,tr,tr,tr,tr,tr,tr,fa,fa,fa,fa,fa,fa,fa,fa,fa] rfl rfl (any_of HT_.out (by kernel_rfl)) (fun _ _ _ h => h) (Or.inl ⟨by rfl, ?_⟩) ?_ ?_
              rotate_left
              ·intro w'
               go_simp
               with_reducible rfl
              rotate_left
              ·simp only [sP]
               rfl
              refine pure_ (i := 22) (N := some 104) (v := ?_) (a' := ?_) #[tr,tr,tr,tr,tr,tr,tr,tr,tr,tr,tr,tr,tr,tr,tr,tr,tr,tr,tr,tr,tr,tr,tr,fa,fa,fa,fa,fa,fa,fa,fa] rfl rfl (any_of HT_.out (by kernel_rfl)) (fun _ _ _ h => h) (Or.inl ⟨by rfl, ?_⟩) ?_ ?_
              rotate_left
              ·intro w'
               go_simp
               with_reducible rfl
              rotate_left
              ·simp only [sP]
               rfl
              refine pure_ (i := 23) (N := some 105) (v := ?_) (a' := ?_) #[tr,tr,tr,tr,tr,tr,tr,tr,tr,tr,tr,tr,tr,tr,tr,tr,tr,tr,tr,tr,tr,tr,tr,tr,fa,fa,fa,fa,fa,fa,fa] rfl rfl (any_of HT_.out (by kernel_rfl)) (fun _ _ _ h => h) (Or.inl ⟨by rfl, ?_⟩) ?_ ?_
              rotate_left
              ·intro w'
               go_simp
               with_reducible rfl
              rotate_left
              ·simp only [sP]
               rfl
              refine pure_ (i := 25) (N := some 107) (v := ?_) (a' := ?_) #[tr,tr,tr,tr,tr,tr,tr,tr,tr,tr,tr,tr,tr,tr,tr,tr,tr,tr,tr,tr,tr,tr,tr,tr,fa,tr,fa,fa,fa,fa,fa] rfl rfl (any_of HT_.out (by kernel_rfl)) (fun _ _ _ h => h) (Or.inl ⟨by rfl, ?_⟩) ?_ ?_
              rotate_left
              ·intro w'
               go_simp
               with_reducible rfl
              rotate_left
              ·simp only [sP]
               rfl
              refine take_ (i := 24) (N := some 106) (v := ?_) (a' := ?_) #[tr,tr,tr,tr,tr,tr,tr,tr,tr,tr,tr,tr,tr,tr,tr,tr,tr,tr,tr,tr,tr,tr,tr,tr,tr,tr,fa,fa,fa,fa,fa] rfl rfl (take_ofW HT_.out HW_.out (by kernel_rfl)) (fun _ _ _ h => h) (Or.inl ⟨by rfl, ?_⟩) hHeld ?_ ?_
              rotate_left
              ·rintro w' ⟨s0, s1, s2, s3, s4, s5, s6, s7, s8, s9⟩
               go_simp
               with_reducible rfl
              rotate_left
              ·simp only [sP]
               rfl
              refine take_ (i := 26) (N := some 108) (v := ?_) (a' := ?_) #[tr,tr,tr,tr,tr,tr,tr,tr,tr,tr,tr,tr,tr,tr,tr,tr,tr,tr,tr,tr,tr,tr,tr,tr,tr,tr,tr,fa,fa,fa,fa] rfl rfl (take_ofW HT_.out HW_.out (by kernel_rfl)) (fun _ _ _ h => h) (Or.inl ⟨by rfl, ?_⟩) hHeld ?_ ?_
              rotate_left
              ·rintro w' ⟨s0, s1, s2, s3, s4, s5, s6, s7, s8, s9⟩
               go_simp
               with_reducible rfl
              rotate_left
              ·simp only [sP]
               rfl
              refine pure_ (i := 27) (N := some 109) (v := ?_) (a' := ?_) #[tr,tr,tr,tr,tr,tr,tr,tr,tr,tr,tr,tr,tr,tr,tr,tr,tr,tr,tr,tr,tr,tr,tr,tr,tr,tr,tr,tr,fa,fa,fa] rfl rfl (any_of HT_.out (by kernel_rfl)) (fun _ _ _ h => h) (Or.inl ⟨by rfl, ?_⟩) ?_ ?_
              rotate_left
              ·intro w'
               go_simp
               with_reducible rfl
              rotate_left
              ·simp only [sP]
               rfl
              refine pure_ (i := 28) (N := some 110) (v := ?_) (a' := ?_) #[tr,tr,tr,tr,tr,tr,tr,tr,tr,tr,tr,tr,tr,tr,tr,tr,tr,tr,tr,tr,tr,tr,tr,tr,tr,tr,tr,tr,tr,fa,fa] rfl rfl (any_of HT_.out (by kernel_rfl)) (fun _ _ _ h => h) (Or.inl ⟨by rfl, ?_⟩) ?_ ?_
              rotate_left
              ·intro w'
               go_simp
               with_reducible rfl
              rotate_left
              ·simp only [sP]
               rfl
              refine pure_ (i := 29) (N := some 111) (v := ?_) (a' := ?_) #[tr,tr,tr,tr,tr,tr,tr,tr,tr,tr,tr,tr,tr,tr,tr,tr,tr,tr,tr,tr,tr,tr,tr,tr,tr,tr,tr,tr,tr,tr,fa] rfl rfl (any_of HT_.out (by kernel_rfl)) (fun _ _ _ h => h) (Or.inl ⟨by rfl, ?_⟩) ?_ ?_
              rotate_left
              ·intro w'
               go_simp
               with_reducible rfl
              rotate_left
              ·simp only [sP]
               rfl
              refine pure_ (i := 30) (N := some 6) (v := ?_) (a' := ?_) #[tr,tr,tr,tr,tr,tr,tr,tr,tr,tr,tr,tr,tr,tr,tr,tr,tr,tr,tr,tr,tr,tr,tr,tr,tr,tr,tr,tr,tr,tr,tr] rfl rfl (any_of HT_.out (by kernel_rfl)) (fun _ _ _ h => h) (Or.inl ⟨by rfl, ?_⟩) ?_ ?_
              rotate_left
              ·intro w'
               go_simp
               with_reducible rfl
              rotate_left
              ·simp only [sP]
               rfl
              refine done_ (done_of HT_.out (by kernel_rfl)) ?_
              try go_wp2
              go_ret
              exact ⟨eS, bw5 HB.out GE349.out GE350.out GE351.out GE356.out GE367.out⟩
             ·replace c113 := Bool.eq_false_iff.mpr c113
              subst c113
              have H1 : (some true) = some r := by rw [if_neg (show ¬ (false = true) by decide)] at H; exact H
              clear H
              have H := H1
              clear H1
              obtain rfl := Option.some.inj H
              try go_wp2
              have n0_ := Ax (blk_drew BK349.out)
              have n1_ := Ax (blk_drew BK350.out)
              have n2_ := Ax (blk_drew BK351.out)
              have n3_ := Ax (blk_drew BK356.out)
              have n4_ := Ax (blk_drew BK367.out)
              have n5_ := Ax (below_drew1 HB.out)
              clear BK349
              clear BK350
              clear BK351
              clear BK356
              clear BK367
              clear HB
              have BK349 := n0_
              have BK350 := n1_
              have BK351 := n2_
              have BK356 := n3_
              have BK367 := n4_
              have HB := n5_
              clear n0_ n1_ n2_ n3_ n4_ n5_
              refine start_ (n := 31) (S := fun w' => w'.cell? ⟨gb349, 0, none⟩ = some (.bool a0_0) ∧ w'.cell? ⟨gb349, 1, none⟩ = some (.int .u64 a0_1) ∧ w'.cell? ⟨gb349, 2, none⟩ = some (.int .u64 a0_2) ∧ w'.cell? ⟨gb349, 3, none⟩ = some (.int .i64 a0_3) ∧ w'.cell? ⟨gb350, 0, none⟩ = some (.bool a1_0) ∧ w'.cell? ⟨gb350, 1, none⟩ = some (.int .u64 a1_1) ∧ w'.cell? ⟨gb350, 2, none⟩ = some (.int .u64 a1_2) ∧ w'.cell? ⟨gb350, 3, none⟩ = some (.int .i64 a1_3) ∧ w'.cell? ⟨gb367, 0, none⟩ = some (.int .u64 t364) ∧ w'.cell? ⟨gb367, 1, none⟩ = some (.int .u64 t365)) (ds := []) #[fa,fa,fa,fa,fa,fa,fa,fa,fa,fa,fa,fa,fa,fa,fa,fa,fa,fa,fa,fa,fa,fa,fa,fa,fa,fa,fa,fa,fa,fa,fa] (by kernel_rfl) rfl rfl ⟨(blk_cell BK349.out 0).trans rfl, (blk_cell BK349.out 1).trans rfl, (blk_cell BK349.out 2).trans rfl, (blk_cell BK349.out 3).trans rfl, (blk_cell BK350.out 0).trans rfl, (blk_cell BK350.out 1).trans rfl, (blk_cell BK350.out 2).trans rfl, (blk_cell BK350.out 3).trans rfl, (blk_cell BK367.out 0).trans rfl, (blk_cell BK367.out 1).trans rfl⟩ (fun hHeld => ?_); refine with_tabW spoorlaw09_AddrBetween.tab11 spoorlaw09_AddrBetween.bits11 (fun HT_ HW_ => ?_)
              generalize wc.drew = w119 at BK349 BK350 BK351 BK356 BK367 HB hHeld ⊢
              refine pure_ (i := 4) (N := some 86) (v := ?_) (a' := ?_) #[fa,fa,fa,fa,tr,fa,fa,fa,fa,fa,fa,fa,fa,fa,fa,fa,fa,fa,fa,fa,fa,fa,fa,fa,fa,fa,fa,fa,fa,fa,fa] rfl rfl (any_of HT_.out (by kernel_rfl)) (fun _ _ _ h => h) (Or.inl ⟨by rfl, ?_⟩) ?_ ?_
              rotate_left
              ·intro w'
               go_simp
               with_reducible rfl
              rotate_left
              ·simp only [sP]
               rfl
              refine pure_ (i := 6) (N := some 88) (v := ?_) (a' := ?_) #[fa,fa,fa,fa,tr,fa,tr,fa,fa,fa,fa,fa,fa,fa,fa,fa,fa,fa,fa,fa,fa,fa,fa,fa,fa,fa,fa,fa,fa,fa,fa] rfl rfl (any_of HT_.out (by kernel_rfl)) (fun _ _ _ h => h) (Or.inl ⟨by rfl, ?_⟩) ?_ ?_
              rotate_left
              ·intro w'
               go_simp
               with_reducible rfl
              rotate_left
              ·simp only [sP]
               rfl
              refine take_ (i := 0) (N := some 82) (v := ?_) (a' := ?_) #[tr,fa,fa,fa,tr,fa,tr,fa,fa,fa,fa,fa,fa,fa,fa,fa,fa,fa,fa,fa,fa,fa,fa,fa,fa,fa,fa,fa,fa,fa,fa] rfl rfl (take_ofW HT_.out HW_.out (by kernel_rfl)) (fun _ _ _ h => h) (Or.inl ⟨by rfl, ?_⟩) hHeld ?_ ?_
              rotate_left
              ·rintro w' ⟨s0, s1, s2, s3, s4, s5, s6, s7, s8, s9⟩
               go_simp
               with_reducible rfl
              rotate_left
              ·simp only [sP]
               rfl
              refine take_ (i := 1) (N := some 83) (v := ?_) (a' := ?_) #[tr,tr,fa,fa,tr,fa,tr,fa,fa,fa,fa,fa,fa,fa,fa,fa,fa,fa,fa,fa,fa,fa,fa,fa,fa,fa,fa,fa,fa,fa,fa] rfl rfl (take_ofW HT_.out HW_.out (by kernel_rfl)) (fun _ _ _ h => h) (Or.inl ⟨by rfl, ?_⟩) hHeld ?_ ?_
              rotate_left
              ·rintro w' ⟨s0, s1, s2, s3, s4, s5, s6, s7, s8, s9⟩
               go_simp
               with_reducible rfl
              rotate_left
              ·simp only [sP]
               rfl
              refine take_ (i := 3) (N := some 85) (v := ?_) (a' := ?_) #[tr,tr,fa,tr,tr,fa,tr,fa,fa,fa,fa,fa,fa,fa,fa,fa,fa,fa,fa,fa,fa,fa,fa,fa,fa,fa,fa,fa,fa,fa,fa] rfl rfl (take_ofW HT_.out HW_.out (by kernel_rfl)) (fun _ _ _ h => h) (Or.inl ⟨by rfl, ?_⟩) hHeld ?_ ?_
              rotate_left
              ·rintro w' ⟨s0, s1, s2, s3, s4, s5, s6, s7, s8, s9⟩
               go_simp
               with_reducible rfl
              rotate_left
              ·simp only [sP]
               rfl
              refine take_ (i := 5) (N := some 87) (v := ?_) (a' := ?_) #[tr,tr,fa,tr,tr,tr,tr,fa,fa,fa,fa,fa,fa,fa,fa,fa,fa,fa,fa,fa,fa,fa,fa,fa,fa,fa,fa,fa,fa,fa,fa] rfl rfl (take_ofW HT_.out HW_.out (by kernel_rfl)) (fun _ _ _ h => h) (Or.inl ⟨by rfl, ?_⟩) hHeld ?_ ?_
              rotate_left
              ·rintro w' ⟨s0, s1, s2, s3, s4, s5, s6, s7, s8, s9⟩
               go_simp
               with_reducible rfl
              rotate_left
              ·simp only [sP]
               rfl
              refine take_ (i := 7) (N := some 89) (v := ?_) (a' := ?_) #[tr,tr,fa,tr,tr,tr,tr,tr,fa,fa,fa,fa,fa,fa,fa,fa,fa,fa,fa,fa,fa,fa,fa,fa,fa,fa,fa,fa,fa,fa,fa] rfl rfl (take_ofW HT_.out HW_.out (by kernel_rfl)) (fun _ _ _ h => h) (Or.inl ⟨by rfl, ?_⟩) hHeld ?_ ?_
              rotate_left
              ·rintro w' ⟨s0, s1, s2, s3, s4, s5, s6, s7, s8, s9⟩
               go_simp
               with_reducible rfl
              rotate_left
              ·simp only [sP]
               rfl
              refine one_ (i := 2) (N := some 84) #[tr,tr,tr,tr,tr,tr,tr,tr,fa,fa,fa,fa,fa,fa,fa,fa,fa,fa,fa,fa,fa,fa,fa,fa,fa,fa,fa,fa,fa,fa,fa] rfl rfl (one_of HT_.out (by kernel_rfl)) (by decide) (fun K hK => ?_)
              refine goes_ Try.func24 (by kernel_rfl) rfl #[.agg #[.bool a0_0, .int .u64 a0_1, .int .u64 a0_2, .int .i64 a0_3], .agg #[.bool a1_0, .int .u64 a1_1, .int .u64 a1_2, .int .i64 a1_3]] (by rfl) rfl rfl gS ?_
              with_reducible refine (addr_Covers.calls kj67 a0_0 a0_1 a0_2 a0_3 a1_0 a1_1 a1_2 a1_3 t370 _ A107.out).mono ?_
              rintro e w120 ⟨rfl, hb⟩
              refine ⟨_, rfl, ?_⟩
              have n0_ := Ax (blk_below (g := gb349) (o := .cells #[.bool a0_0, .int .u64 a0_1, .int .u64 a0_2, .int .i64 a0_3] 33 (0, 0)) (bf0 BK349.out) hb)
              have n1_ := Ax (blk_below (g := gb350) (o := .cells #[.bool a1_0, .int .u64 a1_1, .int .u64 a1_2, .int .i64 a1_3] 33 (0, 0)) (bf0 BK350.out) hb)
              have n2_ := Ax (blk_below (g := gb351) (o := .cells #[.int .u64 a2_0, .int .u64 a2_1] 24 (0, 0)) (bf0 BK351.out) hb)
              have n3_ := Ax (blk_below (g := gb356) (o := .cells #[.int .u64 t353, .int .u64 t354] 24 (0, 0)) (bf0 BK356.out) hb)
              have n4_ := Ax (blk_below (g := gb367) (o := .cells #[.int .u64 t364, .int .u64 t365] 24 (0, 0)) (bf0 BK367.out) hb)
              have n5_ := Ax (below_step (bw5 HB.out GE349.out GE350.out GE351.out GE356.out GE367.out) hb)
              clear BK349
              clear BK350
              clear BK351
              clear BK356
              clear BK367
              clear HB
              have BK349 := n0_
              have BK350 := n1_
              have BK351 := n2_
              have BK356 := n3_
              have BK367 := n4_
              have HB := n5_
              clear n0_ n1_ n2_ n3_ n4_ n5_
              (try clear hb)
              (try clear hb2)
              (try clear hk)
              (try clear hi)
              refine hK.out _ _ ⟨(blk_cell BK349.out 0).trans rfl, (blk_cell BK349.out 1).trans rfl, (blk_cell BK349.out 2).trans rfl, (blk_cell BK349.out 3).trans rfl, (blk_cell BK350.out 0).trans rfl, (blk_cell BK350.out 1).trans rfl, (blk_cell BK350.out 2).trans rfl, (blk_cell BK350.out 3).trans rfl, (blk_cell BK367.out 0).trans rfl, (blk_cell BK367.out 1).trans rfl⟩ (fun hHeld => ?_)
              clear hK K
              refine norm_ (a' := ?_) ?_ ?_
              rotate_left
              ·show Act.put _ (some 84) _ = _
               simp only [sP]
               rfl
              refine one_ (i := 8) (N := some 90) #[tr,tr,tr,tr,tr,tr,tr,tr,tr,fa,fa,fa,fa,fa,fa,fa,fa,fa,fa,fa,fa,fa,fa,fa,fa,fa,fa,fa,fa,fa,fa] rfl rfl (one_of HT_.out (by kernel_rfl)) (by decide) (fun K hK => ?_)
              refine goes_ Try.func22 (by kernel_rfl) rfl #[.agg #[.bool a0_0, .int .u64 a0_1, .int .u64 a0_2, .int .i64 a0_3], .bool a0_0, .agg #[.int .u64 a1_1, .int .u64 a1_2]] (by rfl) rfl rfl gS ?_
              with_reducible refine (addr_Has.calls kj67 a0_0 a0_1 a0_2 a0_3 a0_0 a1_1 a1_2 true _ A108.out).mono ?_
              rintro e w121 ⟨rfl, hb⟩
              refine ⟨_, rfl, ?_⟩
              have n0_ := Ax (blk_below (g := gb349) (o := .cells #[.bool a0_0, .int .u64 a0_1, .int .u64 a0_2, .int .i64 a0_3] 33 (0, 0)) (bf0 BK349.out) hb)
              have n1_ := Ax (blk_below (g := gb350) (o := .cells #[.bool a1_0, .int .u64 a1_1, .int .u64 a1_2, .int .i64 a1_3] 33 (0, 0)) (bf0 BK350.out) hb)
              have n2_ := Ax (blk_below (g := gb351) (o := .cells #[.int .u64 a2_0, .int .u64 a2_1] 24 (0, 0)) (bf0 BK351.out) hb)
              have n3_ := Ax (blk_below (g := gb356) (o := .cells #[.int .u64 t353, .int .u64 t354] 24 (0, 0)) (bf0 BK356.out) hb)
              have n4_ := Ax (blk_below (g := gb367) (o := .cells #[.int .u64 t364, .int .u64 t365] 24 (0, 0)) (bf0 BK367.out) hb)
              have n5_ := Ax (below_step (bw5 HB.out GE349.out GE350.out GE351.out GE356.out GE367.out) hb)
              clear BK349
              clear BK350
              clear BK351
              clear BK356
              clear BK367
              clear HB
              have BK349 := n0_
              have BK350 := n1_
              have BK351 := n2_
              have BK356 := n3_
              have BK367 := n4_
              have HB := n5_
              clear n0_ n1_ n2_ n3_ n4_ n5_
              (try clear hb)
              (try clear hb2)
              (try clear hk)
              (try clear hi)
              refine hK.out _ _ ⟨(blk_cell BK349.out 0).trans rfl, (blk_cell BK349.out 1).trans rfl, (blk_cell BK349.out 2).trans rfl, (blk_cell BK349.out 3).trans rfl, (blk_cell BK350.out 0).trans rfl, (blk_cell BK350.out 1).trans rfl, (blk_cell BK350.out 2).trans rfl, (blk_cell BK350.out 3).trans rfl, (blk_cell BK367.out 0).trans rfl, (blk_cell BK367.out 1).trans rfl⟩ (fun hHeld => ?_)
              clear hK K
              refine norm_ (a' := ?_) ?_ ?_
              rotate_left
              ·show Act.put _ (some 90) _ = _
               simp only [sP]
               rfl
              refine pure_ (i := 9) (N := some 91) (v := ?_) (a' := ?_) #[tr,tr,tr,tr,tr,tr,tr,tr,tr,tr,fa,fa,fa,fa,fa,fa,fa,fa,fa,fa,fa,fa,fa,fa,fa,fa,fa,fa,fa,fa,fa] rfl rfl (any_of HT_.out (by kernel_rfl)) (fun _ _ _ h => h) (Or.inl ⟨by rfl, ?_⟩) ?_ ?_
              rotate_left
              ·intro w'
               go_simp
               with_reducible rfl
              rotate_left
              ·simp only [sP]
               rfl
              refine pure_ (i := 11) (N := some 93) (v := ?_) (a' := ?_) #[tr,tr,tr,tr,tr,tr,tr,tr,tr,tr,fa,tr,fa,fa,fa,fa,fa,fa,fa,fa,fa,fa,fa,fa,fa,fa,fa,fa,fa,fa,fa] rfl rfl (any_of HT_.out (by kernel_rfl)) (fun _ _ _ h => h) (Or.inl ⟨by rfl, ?_⟩) ?_ ?_
              rotate_left
              ·intro w'
               go_simp
               with_reducible rfl
              rotate_left
              ·simp only [sP]
               rfl
              refine take_ (i := 10) (N := some 92) (v := ?_) (a' := ?_) #[tr,tr,tr,tr,tr,tr,tr,tr,tr,tr,tr,tr,fa,fa,fa,fa,fa,fa,fa,fa,fa,fa,fa,fa,fa,fa,fa,fa,fa,fa,fa] rfl rfl (take_ofW HT_.out HW_.out (by kernel_rfl)) (fun _ _ _ h => h) (Or.inl ⟨by rfl, ?_⟩) hHeld ?_ ?_
              rotate_left
              ·rintro w' ⟨s0, s1, s2, s3, s4, s5, s6, s7, s8, s9⟩
               go_simp
               with_reducible rfl
              rotate_left
              ·simp only [sP]
               rfl
              refine take_ (i := 12) (N := some 94) (v := ?_) (a' := ?_) #[tr,tr,tr,tr,tr,tr,tr,tr,tr,tr,tr,tr,tr,fa,fa,fa,fa,fa,fa,fa,fa,fa,fa,fa,fa,fa,fa,fa,fa,fa,fa] rfl rfl (take_ofW HT_.out HW_.out (by kernel_rfl)) (fun _ _ _ h => h) (Or.inl ⟨by rfl, ?_⟩) hHeld ?_ ?_
              rotate_left
              ·rintro w' ⟨s0, s1, s2, s3, s4, s5, s6, s7, s8, s9⟩
               go_simp
               with_reducible rfl
              rotate_left
              ·simp only [sP]
               rfl
              refine take_ (i := 13) (N := some 95) (v := ?_) (a' := ?_) #[tr,tr,tr,tr,tr,tr,tr,tr,tr,tr,tr,tr,tr,tr,fa,fa,fa,fa,fa,fa,fa,fa,fa,fa,fa,fa,fa,fa,fa,fa,fa] rfl rfl (take_ofW HT_.out HW_.out (by kernel_rfl)) (fun _ _ _ h => h) (Or.inl ⟨by rfl, ?_⟩) hHeld ?_ ?_
              rotate_left
              ·rintro w' ⟨s0, s1, s2, s3, s4, s5, s6, s7, s8, s9⟩
               go_simp
               with_reducible rfl
              rotate_left
              ·simp only [sP]
               rfl
              refine one_ (i := 14) (N := some 96) #[tr,tr,tr,tr,tr,tr,tr,tr,tr,tr,tr,tr,tr,tr,tr,fa,fa,fa,fa,fa,fa,fa,fa,fa,fa,fa,fa,fa,fa,fa,fa] rfl rfl (one_of HT_.out (by kernel_rfl)) (by decide) (fun K hK => ?_)
              refine goes_ Try.func22 (by kernel_rfl) rfl #[.agg #[.bool a0_0, .int .u64 a0_1, .int .u64 a0_2, .int .i64 a0_3], .bool a0_0, .agg #[.int .u64 t364, .int .u64 t365]] (by rfl) rfl rfl gS ?_
              with_reducible refine (addr_Has.calls kj67 a0_0 a0_1 a0_2 a0_3 a0_0 t364 t365 t372 _ A110.out).mono ?_
              rintro e w122 ⟨rfl, hb⟩
              refine ⟨_, rfl, ?_⟩
              have n0_ := Ax (blk_below (g := gb349) (o := .cells #[.bool a0_0, .int .u64 a0_1, .int .u64 a0_2, .int .i64 a0_3] 33 (0, 0)) (bf0 BK349.out) hb)
              have n1_ := Ax (blk_below (g := gb350) (o := .cells #[.bool a1_0, .int .u64 a1_1, .int .u64 a1_2, .int .i64 a1_3] 33 (0, 0)) (bf0 BK350.out) hb)
              have n2_ := Ax (blk_below (g := gb351) (o := .cells #[.int .u64 a2_0, .int .u64 a2_1] 24 (0, 0)) (bf0 BK351.out) hb)
              have n3_ := Ax (blk_below (g := gb356) (o := .cells #[.int .u64 t353, .int .u64 t354] 24 (0, 0)) (bf0 BK356.out) hb)
              have n4_ := Ax (blk_below (g := gb367) (o := .cells #[.int .u64 t364, .int .u64 t365] 24 (0, 0)) (bf0 BK367.out) hb)
              have n5_ := Ax (below_step (bw5 HB.out GE349.out GE350.out GE351.out GE356.out GE367.out) hb)
              clear BK349
              clear BK350
              clear BK351
              clear BK356
              clear BK367
              clear HB
              have BK349 := n0_
              have BK350 := n1_
              have BK351 := n2_
              have BK356 := n3_
              have BK367 := n4_
              have HB := n5_
              clear n0_ n1_ n2_ n3_ n4_ n5_
              (try clear hb)
              (try clear hb2)
              (try clear hk)
              (try clear hi)
              refine hK.out _ _ ⟨(blk_cell BK349.out 0).trans rfl, (blk_cell BK349.out 1).trans rfl, (blk_cell BK349.out 2).trans rfl, (blk_cell BK349.out 3).trans rfl, (blk_cell BK350.out 0).trans rfl, (blk_cell BK350.out 1).trans rfl, (blk_cell BK350.out 2).trans rfl, (blk_cell BK350.out 3).trans rfl, (blk_cell BK367.out 0).trans rfl, (blk_cell BK367.out 1).trans rfl⟩ (fun hHeld => ?_)
              clear hK K
              refine norm_ (a' := ?_) ?_ ?_
              rotate_left
              ·show Act.put _ (some 96) _ = _
               simp only [sP]
               rfl
              refine pure_ (i := 15) (N := some 97) (v := ?_) (a' := ?_) #[tr,tr,tr,tr,tr,tr,tr,tr,tr,tr,tr,tr,tr,tr,tr,tr,fa,fa,fa,fa,fa,fa,fa,fa,fa,fa,fa,fa,fa,fa,fa] rfl rfl (any_of HT_.out (by kernel_rfl)) (fun _ _ _ h => h) (Or.inl ⟨by rfl, ?_⟩) ?_ ?_
              rotate_left
              ·intro w'
               go_simp
               with_reducible rfl
              rotate_left
              ·simp only [sP]
               rfl
              refine pure_ (i := 16) (N := some 98) (v := ?_) (a' := ?_) #[tr,tr,tr,tr,tr,tr,tr,tr,tr,tr,tr,tr,tr,tr,tr,tr,tr,fa,fa,fa,fa,fa,fa,fa,fa,fa,fa,fa,fa,fa,fa] rfl rfl (any_of HT_.out (by kernel_rfl)) (fun _ _ _ h => h) (Or.inl ⟨by rfl, ?_⟩) ?_ ?_
              rotate_left
              ·intro w'
               go_simp
               with_reducible rfl
              rotate_left
              ·simp only [sP]
               rfl
              refine pure_ (i := 17) (N := some 99) (v := ?_) (a' := ?_) #[tr,tr,tr,tr,tr,tr,tr,tr,tr,tr,tr,tr,tr,tr,tr,tr,tr,tr,fa,fa,fa,fa,fa,fa,fa,fa,fa,fa,fa,fa,fa] rfl rfl (any_of HT_.out (by kernel_rfl)) (fun _ _ _ h => h) (Or.inl ⟨by rfl, ?_⟩) ?_ ?_
              rotate_left
              ·intro w'
               go_simp
               with_reducible rfl
              rotate_left
              ·simp only [sP]
               rfl
              refine take_ (i := 18) (N := some 100) (v := ?_) (a' := ?_) #[tr,tr,tr,tr,tr,tr,tr,tr,tr,tr,tr,tr,tr,tr,tr,tr,tr,tr,tr,fa,fa,fa,fa,fa,fa,fa,fa,fa,fa,fa,fa] rfl rfl (take_ofW HT_.out HW_.out (by kernel_rfl)) (fun _ _ _ h => h) (Or.inl ⟨by rfl, ?_⟩) hHeld ?_ ?_
              rotate_left
              ·rintro w' ⟨s0, s1, s2, s3, s4, s5, s6, s7, s8, s9⟩
               go_simp
               with_reducible rfl
              rotate_left
              ·simp only [sP]
               rfl
              refine take_ (i := 19) (N := some 101) (v := ?_) (a' := ?_) #[tr,tr,tr,tr,tr,tr,tr,tr,tr,tr,tr,tr,tr,tr,tr,tr,tr,tr,tr,tr,fa,fa,fa,fa,fa,fa,fa,fa,fa,fa,fa] rfl rfl (take_ofW HT_.out HW_.out (by kernel_rfl)) (fun _ _ _ h => h) (Or.inl ⟨by rfl, ?_⟩) hHeld ?_ ?_
              rotate_left
              ·rintro w' ⟨s0, s1, s2, s3, s4, s5, s6, s7, s8, s9⟩
               go_simp
               with_reducible rfl
              rotate_left
              ·simp only [sP]
               rfl
              refine one_ (i := 20) (N := some 102) #[tr,tr,tr,tr,tr,tr,tr,tr,tr,tr,tr,tr,tr,tr,tr,tr,tr,tr,tr,tr,tr,fa,fa,fa,fa,fa,fa,fa,fa,fa,fa] rfl rfl (one_of HT_.out (by kernel_rfl)) (by decide) (fun K hK => ?_)
              refine goes_ Try.func24 (by kernel_rfl) rfl #[.agg #[.bool a0_0, .int .u64 a0_1, .int .u64 a0_2, .int .i64 a0_3], .agg #[.bool a1_0, .int .u64 a1_1, .int .u64 a1_2, .int .i64 a1_3]] (by rfl) rfl rfl gS ?_
              with_reducible refine (addr_Covers.calls kj67 a0_0 a0_1 a0_2 a0_3 a1_0 a1_1 a1_2 a1_3 false _ A112.out).mono ?_
              rintro e w123 ⟨rfl, hb⟩
              refine ⟨_, rfl, ?_⟩
              have n0_ := Ax (blk_below (g := gb349) (o := .cells #[.bool a0_0, .int .u64 a0_1, .int .u64 a0_2, .int .i64 a0_3] 33 (0, 0)) (bf0 BK349.out) hb)
              have n1_ := Ax (blk_below (g := gb350) (o := .cells #[.bool a1_0, .int .u64 a1_1, .int .u64 a1_2, .int .i64 a1_3] 33 (0, 0)) (bf0 BK350.out) hb)
              have n2_ := Ax (blk_below (g := gb351) (o := .cells #[.int .u64 a2_0, .int .u64 a2_1] 24 (0, 0)) (bf0 BK351.out) hb)
              have n3_ := Ax (blk_below (g := gb356) (o := .cells #[.int .u64 t353, .int .u64 t354] 24 (0, 0)) (bf0 BK356.out) hb)
              have n4_ := Ax (blk_below (g := gb367) (o := .cells #[.int .u64 t364, .int .u64 t365] 24 (0, 0)) (bf0 BK367.out) hb)
              have n5_ := Ax (below_step (bw5 HB.out GE349.out GE350.out GE351.out GE356.out GE367.out) hb)
              clear BK349
              clear BK350
              clear BK351
              clear BK356
              clear BK367
              clear HB
              have BK349 := n0_
              have BK350 := n1_
              have BK351 := n2_
              have BK356 := n3_
              have BK367 := n4_
              have HB := n5_
              clear n0_ n1_ n2_ n3_ n4_ n5_
              (try clear hb)
              (try clear hb2)
              (try clear hk)
              (try clear hi)
              refine hK.out _ _ ⟨(blk_cell BK349.out 0).trans rfl, (blk_cell BK349.out 1).trans rfl, (blk_cell BK349.out 2).trans rfl, (blk_cell BK349.out 3).trans rfl, (blk_cell BK350.out 0).trans rfl, (blk_cell BK350.out 1).trans rfl, (blk_cell BK350.out 2).trans rfl, (blk_cell BK350.out 3).trans rfl, (blk_cell BK367.out 0).trans rfl, (blk_cell BK367.out 1).trans rfl⟩ (fun hHeld => ?_)
              clear hK K
              refine norm_ (a' := ?_) ?_ ?_
              rotate_left
              ·show Act.put _ (some 102) _ = _
               simp only [sP]
               rfl
              refine pure_ (i := 21) (N := some 103) (v := ?_) (a' := ?_) #[tr,tr,tr,tr,tr,tr,tr,tr,tr,tr,tr,tr,tr,tr,tr,tr,tr,tr,tr,tr,tr,tr,fa,fa,fa,fa,fa,fa,fa,fa,fa] rfl rfl (any_of HT_.out (by kernel_rfl)) (fun _ _ _ h => h) (Or.inl ⟨by rfl, ?_⟩) ?_ ?_
              rotate_left
              ·intro w'
               go_simp
               with_reducible rfl
              rotate_left
              ·simp only [sP]
               rfl
              refine pure_ (i := 22) (N := some 104) (v := ?_) (a' := ?_) #[tr,tr,tr,tr,tr,tr,tr,tr,tr,tr,tr,tr,tr,tr,tr,tr,tr,tr,tr,tr,tr,tr,tr,fa,fa,fa,fa,fa,fa,fa,fa] rfl rfl (any_of HT_.out (by kernel_rfl)) (fun _ _ _ h => h) (Or.inl ⟨by rfl, ?_⟩) ?_ ?_
              rotate_left
              ·intro w'
               go_simp
               with_reducible rfl
              rotate_left
              ·simp only [sP]
               rfl
              refine pure_ (i := 23) (N := some 105) (v := undef) (a' := ?_) #[tr,tr,tr,tr,tr,tr,tr,tr,tr,tr,tr,tr,tr,tr,tr,tr,tr,tr,tr,tr,tr,tr,tr,tr,fa,fa,fa,fa,fa,fa,fa] rfl rfl (any_of HT_.out (by kernel_rfl)) (fun _ _ _ h => h) (Or.inr ⟨by rfl, rfl⟩) ?_ ?_
              rotate_left
              ·simp only [sP]
               rfl
              refine pure_ (i := 24) (N := some 106) (v := undef) (a' := ?_) #[tr,tr,tr,tr,tr,tr,tr,tr,tr,tr,tr,tr,tr,tr,tr,tr,tr,tr,tr,tr,tr,tr,tr,tr,tr,fa,fa,fa,fa,fa,fa] rfl rfl (any_of HT_.out (by kernel_rfl)) (fun _ _ _ h => h) (Or.inr ⟨by rfl, rfl⟩) ?_ ?_
              rotate_left
              ·simp only [sP]
               rfl
              refine pure_ (i := 25) (N := some 107) (v := undef) (a' := ?_) #[tr,tr,tr,tr,tr,tr,tr,tr,tr,tr,tr,tr,tr,tr,tr,tr,tr,tr,tr,tr,tr,tr,tr,tr,tr,tr,fa,fa,fa,fa,fa] rfl rfl (any_of HT_.out (by kernel_rfl)) (fun _ _ _ h => h) (Or.inr ⟨by rfl, rfl⟩) ?_ ?_
              rotate_left
              ·simp only [sP]
               rfl
              refine pure_ (i := 26) (N := some 108) (v := undef) (a' := ?_) #[tr,tr,tr,tr,tr,tr,tr,tr,tr,tr,tr,tr,tr,tr,tr,tr,tr,tr,tr,tr,tr,tr,tr,tr,tr,tr,tr,fa,fa,fa,fa] rfl rfl (any_of HT_.out (by kernel_rfl)) (fun _ _ _ h => h) (Or.inr ⟨by rfl, rfl⟩) ?_ ?_
              rotate_left
              ·simp only [sP]
               rfl
              refine pure_ (i := 27) (N := some 109) (v := undef) (a' := ?_) #[tr,tr,tr,tr,tr,tr,tr,tr,tr,tr,tr,tr,tr,tr,tr,tr,tr,tr,tr,tr,tr,tr,tr,tr,tr,tr,tr,tr,fa,fa,fa] rfl rfl (any_of HT_.out (by kernel_rfl)) (fun _ _ _ h => h) (Or.inr ⟨by rfl, rfl⟩) ?_ ?_
              rotate_left
              ·simp only [sP]
               rfl
              refine pure_ (i := 28) (N := some 110) (v := ?_) (a' := ?_) #[tr,tr,tr,tr,tr,tr,tr,tr,tr,tr,tr,tr,tr,tr,tr,tr,tr,tr,tr,tr,tr,tr,tr,tr,tr,tr,tr,tr,tr,fa,fa] rfl rfl (any_of HT_.out (by kernel_rfl)) (fun _ _ _ h => h) (Or.inl ⟨by rfl, ?_⟩) ?_ ?_
              rotate_left
              ·intro w'
               go_simp
               with_reducible rfl
              rotate_left
              ·simp only [sP]
               rfl
              refine pure_ (i := 29) (N := some 111) (v := ?_) (a' := ?_) #[tr,tr,tr,tr,tr,tr,tr,tr,tr,tr,tr,tr,tr,tr,tr,tr,tr,tr,tr,tr,tr,tr,tr,tr,tr,tr,tr,tr,tr,tr,fa] rfl rfl (any_of HT_.out (by kernel_rfl)) (fun _ _ _ h => h) (Or.inl ⟨by rfl, ?_⟩) ?_ ?_
              rotate_left
              ·intro w'
               go_simp
               with_reducible rfl
              rotate_left
              ·simp only [sP]
               rfl
              refine pure_ (i := 30) (N := some 6) (v := ?_) (a' := ?_) #[tr,tr,tr,tr,tr,tr,tr,tr,tr,tr,tr,tr,tr,tr,tr,tr,tr,tr,tr,tr,tr,tr,tr,tr,tr,tr,tr,tr,tr,tr,tr] rfl rfl (any_of HT_.out (by kernel_rfl)) (fun _ _ _ h => h) (Or.inl ⟨by rfl, ?_⟩) ?_ ?_
              rotate_left
              ·intro w'
               go_simp
               with_reducible rfl
              rotate_left
              ·simp only [sP]
               rfl
              refine done_ (done_of HT_.out (by kernel_rfl)) ?_
              try go_wp2
              go_ret
              exact ⟨eS, bw5 HB.out GE349.out GE350.out GE351.out GE356.out GE367.out⟩
            ·rw [if_neg c111] at H
             have c111b0 : (t370 == t372) = false := by simpa using c111
             (try (have c111b1 : decide (t370 = t372) = false := by simpa using c111))
             (try (have c111b2 : (t370 == t372) = false := by simpa using c111))
             (try (have c111b3 : ¬ (t370 = t372) := by simpa using c111))
             clear c111
             exact absurd H (by simp)
           ·replace c109 := Bool.eq_false_iff.mpr c109
            subst c109
            have H1 : (if (t370 == false) = true then ((addr_Covers.f kj67 a0_0 a0_1 a0_2 a0_3 a1_0 a1_1 a1_2 a1_3).bind fun t374 => (if t374 = true then (some (decide (a0_3 ≤ a1_3))) else (some true))) else (none)) = some r := by rw [if_neg (show ¬ (false = true) by decide)] at H; exact H
            clear H
            have H := H1
            clear H1
            by_cases c124 : (t370 == false) = true
            ·rw [if_pos c124] at H
             have c124b0 : (t370 == false) = true := c124
             (try (have c124b1 : decide (t370 = false) = true := by simpa using c124))
             (try (have c124b2 : (t370 == false) = true := by simpa using c124))
             clear c124
             replace H := Option.bind_eq_some_iff.mp H
             obtain ⟨t374, A1250, H⟩ := H
             replace H : (if t374 = true then (some (decide (a0_3 ≤ a1_3))) else (some true)) = some r := H
             have A125 := Ax A1250
             clear A1250
             by_cases c126 : t374 = true
             ·subst c126
              have H1 : (some (decide (a0_3 ≤ a1_3))) = some r := by rw [if_pos rfl] at H; exact H
              clear H
              have H := H1
              clear H1
              obtain rfl := Option.some.inj H
              try go_wp2
              have n0_ := Ax (blk_drew BK349.out)
              have n1_ := Ax (blk_drew BK350.out)
              have n2_ := Ax (blk_drew BK351.out)
              have n3_ := Ax (blk_drew BK356.out)
              have n4_ := Ax (blk_drew BK367.out)
              have n5_ := Ax (below_drew1 HB.out)
              clear BK349
              clear BK350
              clear BK351
              clear BK356
              clear BK367
              clear HB
              have BK349 := n0_
              have BK350 := n1_
              have BK351 := n2_
              have BK356 := n3_
              have BK367 := n4_
              have HB := n5_
              clear n0_ n1_ n2_ n3_ n4_ n5_
              refine start_ (n := 31) (S := fun w' => w'.cell? ⟨gb349, 0, none⟩ = some (.bool a0_0) ∧ w'.cell? ⟨gb349, 1, none⟩ = some (.int .u64 a0_1) ∧ w'.cell? ⟨gb349, 2, none⟩ = some (.int .u64 a0_2) ∧ w'.cell? ⟨gb349, 3, none⟩ = some (.int .i64 a0_3) ∧ w'.cell? ⟨gb350, 0, none⟩ = some (.bool a1_0) ∧ w'.cell? ⟨gb350, 1, none⟩ = some (.int .u64 a1_1) ∧ w'.cell? ⟨gb350, 2, none⟩ = some (.int .u64 a1_2) ∧ w'.cell? ⟨gb350, 3, none⟩ = some (.int .i64 a1_3)) (ds := []) #[fa,fa,fa,fa,fa,fa,fa,fa,fa,fa,fa,fa,fa,fa,fa,fa,fa,fa,fa,fa,fa,fa,fa,fa,fa,fa,fa,fa,fa,fa,fa] (by kernel_rfl) rfl rfl ⟨(blk_cell BK349.out 0).trans rfl, (blk_cell BK349.out 1).trans rfl, (blk_cell BK349.out 2).trans rfl, (blk_cell BK349.out 3).trans rfl, (blk_cell BK350.out 0).trans rfl, (blk_cell BK350.out 1).trans rfl, (blk_cell BK350.out 2).trans rfl, (blk_cell BK350.out 3).trans rfl⟩ (fun hHeld => ?_); refine with_tabW spoorlaw09_AddrBetween.tab11 spoorlaw09_AddrBetween.bits11 (fun HT_ HW_ => ?_)
              generalize wc.drew = w127 at BK349 BK350 BK351 BK356 BK367 HB hHeld ⊢
              refine pure_ (i := 4) (N := some 86) (v := ?_) (a' := ?_) #[fa,fa,fa,fa,tr,fa,fa,fa,fa,fa,fa,fa,fa,fa,fa,fa,fa,fa,fa,fa,fa,fa,fa,fa,fa,fa,fa,fa,fa,fa,fa] rfl rfl (any_of HT_.out (by kernel_rfl)) (fun _ _ _ h => h) (Or.inl ⟨by rfl, ?_⟩) ?_ ?_
              rotate_left
              ·intro w'
               go_simp
               with_reducible rfl
              rotate_left
              ·simp only [sP]
               rfl
              refine pure_ (i := 6) (N := some 88) (v := ?_) (a' := ?_) #[fa,fa,fa,fa,tr,fa,tr,fa,fa,fa,fa,fa,fa,fa,fa,fa,fa,fa,fa,fa,fa,fa,fa,fa,fa,fa,fa,fa,fa,fa,fa] rfl rfl (any_of HT_.out (by kernel_rfl)) (fun _ _ _ h => h) (Or.inl ⟨by rfl, ?_⟩) ?_ ?_
              rotate_left
              ·intro w'
               go_simp
               with_reducible rfl
              rotate_left
              ·simp only [sP]
               rfl
              refine take_ (i := 0) (N := some 82) (v := ?_) (a' := ?_) #[tr,fa,fa,fa,tr,fa,tr,fa,fa,fa,fa,fa,fa,fa,fa,fa,fa,fa,fa,fa,fa,fa,fa,fa,fa,fa,fa,fa,fa,fa,fa] rfl rfl (take_ofW HT_.out HW_.out (by kernel_rfl)) (fun _ _ _ h => h) (Or.inl ⟨by rfl, ?_⟩) hHeld ?_ ?_
              rotate_left
              ·rintro w' ⟨s0, s1, s2, s3, s4, s5, s6, s7⟩
               go_simp
               with_reducible rfl
              rotate_left
              ·simp only [sP]
               rfl
              refine take_ (i := 1) (N := some 83) (v := ?_) (a' := ?_) #[tr,tr,fa,fa,tr,fa,tr,fa,fa,fa,fa,fa,fa,fa,fa,fa,fa,fa,fa,fa,fa,fa,fa,fa,fa,fa,fa,fa,fa,fa,fa] rfl rfl (take_ofW HT_.out HW_.out (by kernel_rfl)) (fun _ _ _ h => h) (Or.inl ⟨by rfl, ?_⟩) hHeld ?_ ?_
              rotate_left
              ·rintro w' ⟨s0, s1, s2, s3, s4, s5, s6, s7⟩
               go_simp
               with_reducible rfl
              rotate_left
              ·simp only [sP]
               rfl
              refine take_ (i := 3) (N := some 85) (v := ?_) (a' := ?_) #[tr,tr,fa,tr,tr,fa,tr,fa,fa,fa,fa,fa,fa,fa,fa,fa,fa,fa,fa,fa,fa,fa,fa,fa,fa,fa,fa,fa,fa,fa,fa] rfl rfl (take_ofW HT_.out HW_.out (by kernel_rfl)) (fun _ _ _ h => h) (Or.inl ⟨by rfl, ?_⟩) hHeld ?_ ?_
              rotate_left
              ·rintro w' ⟨s0, s1, s2, s3, s4, s5, s6, s7⟩
               go_simp
               with_reducible rfl
              rotate_left
              ·simp only [sP]
               rfl
              refine take_ (i := 5) (N := some 87) (v := ?_) (a' := ?_) #[tr,tr,fa,tr,tr,tr,tr,fa,fa,fa,fa,fa,fa,fa,fa,fa,fa,fa,fa,fa,fa,fa,fa,fa,fa,fa,fa,fa,fa,fa,fa] rfl rfl (take_ofW HT_.out HW_.out (by kernel_rfl)) (fun _ _ _ h => h) (Or.inl ⟨by rfl, ?_⟩) hHeld ?_ ?_
              rotate_left
              ·rintro w' ⟨s0, s1, s2, s3, s4, s5, s6, s7⟩
               go_simp
               with_reducible rfl
              rotate_left
              ·simp only [sP]
               rfl
              refine take_ (i := 7) (N := some 89) (v := ?_) (a' := ?_) #[tr,tr,fa,tr,tr,tr,tr,tr,fa,fa,fa,fa,fa,fa,fa,fa,fa,fa,fa,fa,fa,fa,fa,fa,fa,fa,fa,fa,fa,fa,fa] rfl rfl (take_ofW HT_.out HW_.out (by kernel_rfl)) (fun _ _ _ h => h) (Or.inl ⟨by rfl, ?_⟩) hHeld ?_ ?_
              rotate_left
              ·rintro w' ⟨s0, s1, s2, s3, s4, s5, s6, s7⟩
               go_simp
               with_reducible rfl
              rotate_left
              ·simp only [sP]
               rfl
              refine one_ (i := 2) (N := some 84) #[tr,tr,tr,tr,tr,tr,tr,tr,fa,fa,fa,fa,fa,fa,fa,fa,fa,fa,fa,fa,fa,fa,fa,fa,fa,fa,fa,fa,fa,fa,fa] rfl rfl (one_of HT_.out (by kernel_rfl)) (by decide) (fun K hK => ?_)
              refine goes_ Try.func24 (by kernel_rfl) rfl #[.agg #[.bool a0_0, .int .u64 a0_1, .int .u64 a0_2, .int .i64 a0_3], .agg #[.bool a1_0, .int .u64 a1_1, .int .u64 a1_2, .int .i64 a1_3]] (by rfl) rfl rfl gS ?_
              with_reducible refine (addr_Covers.calls kj67 a0_0 a0_1 a0_2 a0_3 a1_0 a1_1 a1_2 a1_3 t370 _ A107.out).mono ?_
              rintro e w128 ⟨rfl, hb⟩
              refine ⟨_, rfl, ?_⟩
              have n0_ := Ax (blk_below (g := gb349) (o := .cells #[.bool a0_0, .int .u64 a0_1, .int .u64 a0_2, .int .i64 a0_3] 33 (0, 0)) (bf0 BK349.out) hb)
              have n1_ := Ax (blk_below (g := gb350) (o := .cells #[.bool a1_0, .int .u64 a1_1, .int .u64 a1_2, .int .i64 a1_3] 33 (0, 0)) (bf0 BK350.out) hb)
              have n2_ := Ax (blk_below (g := gb351) (o := .cells #[.int .u64 a2_0, .int .u64 a2_1] 24 (0, 0)) (bf0 BK351.out) hb)
              have n3_ := Ax (blk_below (g := gb356) (o := .cells #[.int .u64 t353, .int .u64 t354] 24 (0, 0)) (bf0 BK356.out) hb)
              have n4_ := Ax (blk_below (g := gb367) (o := .cells #[.int .u64 t364, .int .u64 t365] 24 (0, 0)) (bf0 BK367.out) hb)
              have n5_ := Ax (below_step (bw5 HB.out GE349.out GE350.out GE351.out GE356.out GE367.out) hb)
              clear BK349
              clear BK350
              clear BK351
              clear BK356
              clear BK367
              clear HB
              have BK349 := n0_
              have BK350 := n1_
              have BK351 := n2_
              have BK356 := n3_
              have BK367 := n4_
              have HB := n5_
              clear n0_ n1_ n2_ n3_ n4_ n5_
              (try clear hb)
              (try clear hb2)
              (try clear hk)
              (try clear hi)
              refine hK.out _ _ ⟨(blk_cell BK349.out 0).trans rfl, (blk_cell BK349.out 1).trans rfl, (blk_cell BK349.out 2).trans rfl, (blk_cell BK349.out 3).trans rfl, (blk_cell BK350.out 0).trans rfl, (blk_cell BK350.out 1).trans rfl, (blk_cell BK350.out 2).trans rfl, (blk_cell BK350.out 3).trans rfl⟩ (fun hHeld => ?_)
              clear hK K
              refine norm_ (a' := ?_) ?_ ?_
              rotate_left
              ·show Act.put _ (some 84) _ = _
               simp only [sP]
               rfl
              refine one_ (i := 8) (N := some 90) #[tr,tr,tr,tr,tr,tr,tr,tr,tr,fa,fa,fa,fa,fa,fa,fa,fa,fa,fa,fa,fa,fa,fa,fa,fa,fa,fa,fa,fa,fa,fa] rfl rfl (one_of HT_.out (by kernel_rfl)) (by decide) (fun K hK => ?_)
              refine goes_ Try.func22 (by kernel_rfl) rfl #[.agg #[.bool a0_0, .int .u64 a0_1, .int .u64 a0_2, .int .i64 a0_3], .bool a0_0, .agg #[.int .u64 a1_1, .int .u64 a1_2]] (by rfl) rfl rfl gS ?_
              with_reducible refine (addr_Has.calls kj67 a0_0 a0_1 a0_2 a0_3 a0_0 a1_1 a1_2 false _ A108.out).mono ?_
              rintro e w129 ⟨rfl, hb⟩
              refine ⟨_, rfl, ?_⟩
              have n0_ := Ax (blk_below (g := gb349) (o := .cells #[.bool a0_0, .int .u64 a0_1, .int .u64 a0_2, .int .i64 a0_3] 33 (0, 0)) (bf0 BK349.out) hb)
              have n1_ := Ax (blk_below (g := gb350) (o := .cells #[.bool a1_0, .int .u64 a1_1, .int .u64 a1_2, .int .i64 a1_3] 33 (0, 0)) (bf0 BK350.out) hb)
              have n2_ := Ax (blk_below (g := gb351) (o := .cells #[.int .u64 a2_0, .int .u64 a2_1] 24 (0, 0)) (bf0 BK351.out) hb)
              have n3_ := Ax (blk_below (g := gb356) (o := .cells #[.int .u64 t353, .int .u64 t354] 24 (0, 0)) (bf0 BK356.out) hb)
              have n4_ := Ax (blk_below (g := gb367) (o := .cells #[.int .u64 t364, .int .u64 t365] 24 (0, 0)) (bf0 BK367.out) hb)
              have n5_ := Ax (below_step (bw5 HB.out GE349.out GE350.out GE351.out GE356.out GE367.out) hb)
              clear BK349
              clear BK350
              clear BK351
              clear BK356
              clear BK367
              clear HB
              have BK349 := n0_
              have BK350 := n1_
              have BK351 := n2_
              have BK356 := n3_
              have BK367 := n4_
              have HB := n5_
              clear n0_ n1_ n2_ n3_ n4_ n5_
              (try clear hb)
              (try clear hb2)
              (try clear hk)
              (try clear hi)
              refine hK.out _ _ ⟨(blk_cell BK349.out 0).trans rfl, (blk_cell BK349.out 1).trans rfl, (blk_cell BK349.out 2).trans rfl, (blk_cell BK349.out 3).trans rfl, (blk_cell BK350.out 0).trans rfl, (blk_cell BK350.out 1).trans rfl, (blk_cell BK350.out 2).trans rfl, (blk_cell BK350.out 3).trans rfl⟩ (fun hHeld => ?_)
              clear hK K
              refine norm_ (a' := ?_) ?_ ?_
              rotate_left
              ·show Act.put _ (some 90) _ = _
               simp only [sP]
               rfl
              refine pure_ (i := 9) (N := some 91) (v := ?_) (a' := ?_) #[tr,tr,tr,tr,tr,tr,tr,tr,tr,tr,fa,fa,fa,fa,fa,fa,fa,fa,fa,fa,fa,fa,fa,fa,fa,fa,fa,fa,fa,fa,fa] rfl rfl (any_of HT_.out (by kernel_rfl)) (fun _ _ _ h => h) (Or.inl ⟨by rfl, ?_⟩) ?_ ?_
              rotate_left
              ·intro w'
               go_simp
               with_reducible rfl
              rotate_left
              ·simp only [sP]
               rfl
              refine pure_ (i := 10) (N := some 92) (v := undef) (a' := ?_) #[tr,tr,tr,tr,tr,tr,tr,tr,tr,tr,tr,fa,fa,fa,fa,fa,fa,fa,fa,fa,fa,fa,fa,fa,fa,fa,fa,fa,fa,fa,fa] rfl rfl (any_of HT_.out (by kernel_rfl)) (fun _ _ _ h => h) (Or.inr ⟨by rfl, rfl⟩) ?_ ?_
              rotate_left
              ·simp only [sP]
               rfl
              refine pure_ (i := 11) (N := some 93) (v := undef) (a' := ?_) #[tr,tr,tr,tr,tr,tr,tr,tr,tr,tr,tr,tr,fa,fa,fa,fa,fa,fa,fa,fa,fa,fa,fa,fa,fa,fa,fa,fa,fa,fa,fa] rfl rfl (any_of HT_.out (by kernel_rfl)) (fun _ _ _ h => h) (Or.inr ⟨by rfl, rfl⟩) ?_ ?_
              rotate_left
              ·simp only [sP]
               rfl
              refine pure_ (i := 12) (N := some 94) (v := undef) (a' := ?_) #[tr,tr,tr,tr,tr,tr,tr,tr,tr,tr,tr,tr,tr,fa,fa,fa,fa,fa,fa,fa,fa,fa,fa,fa,fa,fa,fa,fa,fa,fa,fa] rfl rfl (any_of HT_.out (by kernel_rfl)) (fun _ _ _ h => h) (Or.inr ⟨by rfl, rfl⟩) ?_ ?_
              rotate_left
              ·simp only [sP]
               rfl
              refine pure_ (i := 13) (N := some 95) (v := undef) (a' := ?_) #[tr,tr,tr,tr,tr,tr,tr,tr,tr,tr,tr,tr,tr,tr,fa,fa,fa,fa,fa,fa,fa,fa,fa,fa,fa,fa,fa,fa,fa,fa,fa] rfl rfl (any_of HT_.out (by kernel_rfl)) (fun _ _ _ h => h) (Or.inr ⟨by rfl, rfl⟩) ?_ ?_
              rotate_left
              ·simp only [sP]
               rfl
              refine pure_ (i := 14) (N := some 96) (v := undef) (a' := ?_) #[tr,tr,tr,tr,tr,tr,tr,tr,tr,tr,tr,tr,tr,tr,tr,fa,fa,fa,fa,fa,fa,fa,fa,fa,fa,fa,fa,fa,fa,fa,fa] rfl rfl (any_of HT_.out (by kernel_rfl)) (fun _ _ _ h => h) (Or.inr ⟨by rfl, rfl⟩) ?_ ?_
              rotate_left
              ·simp only [sP]
               rfl
              refine pure_ (i := 15) (N := some 97) (v := ?_) (a' := ?_) #[tr,tr,tr,tr,tr,tr,tr,tr,tr,tr,tr,tr,tr,tr,tr,tr,fa,fa,fa,fa,fa,fa,fa,fa,fa,fa,fa,fa,fa,fa,fa] rfl rfl (any_of HT_.out (by kernel_rfl)) (fun _ _ _ h => h) (Or.inl ⟨by rfl, ?_⟩) ?_ ?_
              rotate_left
              ·intro w'
               go_simp
               with_reducible rfl
              rotate_left
              ·simp only [sP]
               rfl
              refine pure_ (i := 16) (N := some 98) (v := ?_) (a' := ?_) #[tr,tr,tr,tr,tr,tr,tr,tr,tr,tr,tr,tr,tr,tr,tr,tr,tr,fa,fa,fa,fa,fa,fa,fa,fa,fa,fa,fa,fa,fa,fa] rfl rfl (any_of HT_.out (by kernel_rfl)) (fun _ _ _ h => h) (Or.inl ⟨by rfl, ?_⟩) ?_ ?_
              rotate_left
              ·intro w'
               go_simp
               with_reducible rfl
              rotate_left
              ·simp only [sP]
               rfl
              refine pure_ (i := 17) (N := some 99) (v := ?_) (a' := ?_) #[tr,tr,tr,tr,tr,tr,tr,tr,tr,tr,tr,tr,tr,tr,tr,tr,tr,tr,fa,fa,fa,fa,fa,fa,fa,fa,fa,fa,fa,fa,fa] rfl rfl (any_of HT_.out (by kernel_rfl)) (fun _ _ _ h => h) (Or.inl ⟨by rfl, ?_⟩) ?_ ?_
              rotate_left
              ·intro w'
               go_simp
               with_reducible rfl
              rotate_left
              ·simp only [sP]
               rfl
              refine take_ (i := 18) (N := some 100) (v := ?_) (a' := ?_) #[tr,tr,tr,tr,tr,tr,tr,tr,tr,tr,tr,tr,tr,tr,tr,tr,tr,tr,tr,fa,fa,fa,fa,fa,fa,fa,fa,fa,fa,fa,fa] rfl rfl (take_ofW HT_.out HW_.out (by kernel_rfl)) (fun _ _ _ h => h) (Or.inl ⟨by rfl, ?_⟩) hHeld ?_ ?_
              rotate_left
              ·rintro w' ⟨s0, s1, s2, s3, s4, s5, s6, s7⟩
               go_simp
               with_reducible rfl
              rotate_left
              ·simp only [sP]
               rfl
              refine take_ (i := 19) (N := some 101) (v := ?_) (a' := ?_) #[tr,tr,tr,tr,tr,tr,tr,tr,tr,tr,tr,tr,tr,tr,tr,tr,tr,tr,tr,tr,fa,fa,fa,fa,fa,fa,fa,fa,fa,fa,fa] rfl rfl (take_ofW HT_.out HW_.out (by kernel_rfl)) (fun _ _ _ h => h) (Or.inl ⟨by rfl, ?_⟩) hHeld ?_ ?_
              rotate_left
              ·rintro w' ⟨s0, s1, s2, s3, s4, s5, s6, s7⟩
               go_simp
               with_reducible rfl
              rotate_left
              ·simp only [sP]
               rfl
              refine one_ (i := 20) (N := some 102) #[tr,tr,tr,tr,tr,tr,tr,tr,tr,tr,tr,tr,tr,tr,tr,tr,tr,tr,tr,tr,tr,fa,fa,fa,fa,fa,fa,fa,fa,fa,fa] rfl rfl (one_of HT_.out (by kernel_rfl)) (by decide) (fun K hK => ?_)
              refine goes_ Try.func24 (by kernel_rfl) rfl #[.agg #[.bool a0_0, .int .u64 a0_1, .int .u64 a0_2, .int .i64 a0_3], .agg #[.bool a1_0, .int .u64 a1_1, .int .u64 a1_2, .int .i64 a1_3]] (by rfl) rfl rfl gS ?_
              with_reducible refine (addr_Covers.calls kj67 a0_0 a0_1 a0_2 a0_3 a1_0 a1_1 a1_2 a1_3 true _ A125.out).mono ?_
              rintro e w130 ⟨rfl, hb⟩
              refine ⟨_, rfl, ?_⟩
              have n0_ := Ax (blk_below (g := gb349) (o := .cells #[.bool a0_0, .int .u64 a0_1, .int .u64 a0_2, .int .i64 a0_3] 33 (0, 0)) (bf0 BK349.out) hb)
              have n1_ := Ax (blk_below (g := gb350) (o := .cells #[.bool a1_0, .int .u64 a1_1, .int .u64 a1_2, .int .i64 a1_3] 33 (0, 0)) (bf0 BK350.out) hb)
              have n2_ := Ax (blk_below (g := gb351) (o := .cells #[.int .u64 a2_0, .int .u64 a2_1] 24 (0, 0)) (bf0 BK351.out) hb)
              have n3_ := Ax (blk_below (g := gb356) (o := .cells #[.int .u64 t353, .int .u64 t354] 24 (0, 0)) (bf0 BK356.out) hb)
              have n4_ := Ax (blk_below (g := gb367) (o := .cells #[.int .u64 t364, .int .u64 t365] 24 (0, 0)) (bf0 BK367.out) hb)
              have n5_ := Ax (below_step (bw5 HB.out GE349.out GE350.out GE351.out GE356.out GE367.out) hb)
              clear BK349
              clear BK350
              clear BK351
              clear BK356
              clear BK367
              clear HB
              have BK349 := n0_
              have BK350 := n1_
              have BK351 := n2_
              have BK356 := n3_
              have BK367 := n4_
              have HB := n5_
              clear n0_ n1_ n2_ n3_ n4_ n5_
              (try clear hb)
              (try clear hb2)
              (try clear hk)
              (try clear hi)
              refine hK.out _ _ ⟨(blk_cell BK349.out 0).trans rfl, (blk_cell BK349.out 1).trans rfl, (blk_cell BK349.out 2).trans rfl, (blk_cell BK349.out 3).trans rfl, (blk_cell BK350.out 0).trans rfl, (blk_cell BK350.out 1).trans rfl, (blk_cell BK350.out 2).trans rfl, (blk_cell BK350.out 3).trans rfl⟩ (fun hHeld => ?_)
              clear hK K
              refine norm_ (a' := ?_) ?_ ?_
              rotate_left
              ·show Act.put _ (some 102) _ = _
               simp only [sP]
               rfl
              refine pure_ (i := 21) (N := some 103) (v := ?_) (a' := ?_) #[tr,tr,tr,tr,tr,tr,tr,tr,tr,tr,tr,tr,tr,tr,tr,tr,tr,tr,tr,tr,tr,tr,fa,fa,fa,fa,fa,fa,fa,fa,fa] rfl rfl (any_of HT_.out (by kernel_rfl)) (fun _ _ _ h => h) (Or.inl ⟨by rfl, ?_⟩) ?_ ?_
              rotate_left
              ·intro w'
               go_simp
               with_reducible rfl
              rotate_left
              ·simp only [sP]
               rfl
              refine pure_ (i := 22) (N := some 104) (v := ?_) (a' := ?_) #[tr,tr,tr,tr,tr,tr,tr,tr,tr,tr,tr,tr,tr,tr,tr,tr,tr,tr,tr,tr,tr,tr,tr,fa,fa,fa,fa,fa,fa,fa,fa] rfl rfl (any_of HT_.out (by kernel_rfl)) (fun _ _ _ h => h) (Or.inl ⟨by rfl, ?_⟩) ?_ ?_
              rotate_left
              ·intro w'
               go_simp
               with_reducible rfl
              rotate_left
              ·simp only [sP]
               rfl
              refine pure_ (i := 23) (N := some 105) (v := ?_) (a' := ?_) #[tr,tr,tr,tr,tr,tr,tr,tr,tr,tr,tr,tr,tr,tr,tr,tr,tr,tr,tr,tr,tr,tr,tr,tr,fa,fa,fa,fa,fa,fa,fa] rfl rfl (any_of HT_.out (by kernel_rfl)) (fun _ _ _ h => h) (Or.inl ⟨by rfl, ?_⟩) ?_ ?_
              rotate_left
              ·intro w'
               go_simp
               with_reducible rfl
              rotate_left
              ·simp only [sP]
               rfl
              refine pure_ (i := 25) (N := some 107) (v := ?_) (a' := ?_) #[tr,tr,tr,tr,tr,tr,tr,tr,tr,tr,tr,tr,tr,tr,tr,tr,tr,tr,tr,tr,tr,tr,tr,tr,fa,tr,fa,fa,fa,fa,fa] rfl rfl (any_of HT_.out (by kernel_rfl)) (fun _ _ _ h => h) (Or.inl ⟨by rfl, ?_⟩) ?_ ?_
              rotate_left
              ·intro w'
               go_simp
               with_reducible rfl
              rotate_left
              ·simp only [sP]
               rfl
              refine take_ (i := 24) (N := some 106) (v := ?_) (a' := ?_) #[tr,tr,tr,tr,tr,tr,tr,tr,tr,tr,tr,tr,tr,tr,tr,tr,tr,tr,tr,tr,tr,tr,tr,tr,tr,tr,fa,fa,fa,fa,fa] rfl rfl (take_ofW HT_.out HW_.out (by kernel_rfl)) (fun _ _ _ h => h) (Or.inl ⟨by rfl, ?_⟩) hHeld ?_ ?_
              rotate_left
              ·rintro w' ⟨s0, s1, s2, s3, s4, s5, s6, s7⟩
               go_simp
               with_reducible rfl
              rotate_left
              ·simp only [sP]
               rfl
              refine take_ (i := 26) (N := some 108) (v := ?_) (a' := ?_) #[tr,tr,tr,tr,tr,tr,tr,tr,tr,tr,tr,tr,tr,tr,tr,tr,tr,tr,tr,tr,tr,tr,tr,tr,tr,tr,tr,fa,fa,fa,fa] rfl rfl (take_ofW HT_.out HW_.out (by kernel_rfl)) (fun _ _ _ h => h) (Or.inl ⟨by rfl, ?_⟩) hHeld ?_ ?_
              rotate_left
              ·rintro w' ⟨s0, s1, s2, s3, s4, s5, s6, s7⟩
               go_simp
               with_reducible rfl
              rotate_left
              ·simp only [sP]
               rfl
              refine pure_ (i := 27) (N := some 109) (v := ?_) (a' := ?_) #[tr,tr,tr,tr,tr,tr,tr,tr,tr,tr,tr,tr,tr,tr,tr,tr,tr,tr,tr,tr,tr,tr,tr,tr,tr,tr,tr,tr,fa,fa,fa] rfl rfl (any_of HT_.out (by kernel_rfl)) (fun _ _ _ h => h) (Or.inl ⟨by rfl, ?_⟩) ?_ ?_
              rotate_left
              ·intro w'
               go_simp
               with_reducible rfl
              rotate_left
              ·simp only [sP]
               rfl
              refine pure_ (i := 28) (N := some 110) (v := ?_) (a' := ?_) #[tr,tr,tr,tr,tr,tr,tr,tr,tr,tr,tr,tr,tr,tr,tr,tr,tr,tr,tr,tr,tr,tr,tr,tr,tr,tr,tr,tr,tr,fa,fa] rfl rfl (any_of HT_.out (by kernel_rfl)) (fun _ _ _ h => h) (Or.inl ⟨by rfl, ?_⟩) ?_ ?_
              rotate_left
              ·intro w'
               go_simp
               with_reducible rfl
              rotate_left
              ·simp only [sP]
               rfl
              refine pure_ (i := 29) (N := some 111) (v := ?_) (a' := ?_) #[tr,tr,tr,tr,tr,tr,tr,tr,tr,tr,tr,tr,tr,tr,tr,tr,tr,tr,tr,tr,tr,tr,tr,tr,tr,tr,tr,tr,tr,tr,fa] rfl rfl (any_of HT_.out (by kernel_rfl)) (fun _ _ _ h => h) (Or.inl ⟨by rfl, ?_⟩) ?_ ?_
              rotate_left
              ·intro w'
               go_simp
               with_reducible rfl
              rotate_left
              ·simp only [sP]
               rfl
              refine pure_ (i := 30) (N := some 6) (v := ?_) (a' := ?_) #[tr,tr,tr,tr,tr,tr,tr,tr,tr,tr,tr,tr,tr,tr,tr,tr,tr,tr,tr,tr,tr,tr,tr,tr,tr,tr,tr,tr,tr,tr,tr] rfl rfl (any_of HT_.out (by kernel_rfl)) (fun _ _ _ h => h) (Or.inl ⟨by rfl, ?_⟩) ?_ ?_
              rotate_left
              ·intro w'
               go_simp
               with_reducible rfl
              rotate_left
              ·simp only [sP]
               rfl
              refine done_ (done_of HT_.out (by kernel_rfl)) ?_
              try go_wp2
              go_ret
              exact ⟨eS, bw5 HB.out GE349.out GE350.out GE351.out GE356.out GE367.out⟩
             ·replace c126 := Bool.eq_false_iff.mpr c126
              subst c126
              have H1 : (some true) = some r := by rw [if_neg (show ¬ (false = true) by decide)] at H; exact H
              clear H
              have H := H1
              clear H1
              obtain rfl := Option.some.inj H
              try go_wp2
              have n0_ := Ax (blk_drew BK349.out)
              have n1_ := Ax (blk_drew BK350.out)
              have n2_ := Ax (blk_drew BK351.out)
              have n3_ := Ax (blk_drew BK356.out)
              have n4_ := Ax (blk_drew BK367.out)
              have n5_ := Ax (below_drew1 HB.out)
              clear BK349
              clear BK350
              clear BK351
              clear BK356
              clear BK367
              clear HB
              have BK349 := n0_
              have BK350 := n1_
              have BK351 := n2_
              have BK356 := n3_
              have BK367 := n4_
              have HB := n5_
              clear n0_ n1_ n2_ n3_ n4_ n5_
              refine start_ (n := 31) (S := fun w' => w'.cell? ⟨gb349, 0, none⟩ = some (.bool a0_0) ∧ w'.cell? ⟨gb349, 1, none⟩ = some (.int .u64 a0_1) ∧ w'.cell? ⟨gb349, 2, none⟩ = some (.int .u64 a0_2) ∧ w'.cell? ⟨gb349, 3, none⟩ = some (.int .i64 a0_3) ∧ w'.cell? ⟨gb350, 0, none⟩ = some (.bool a1_0) ∧ w'.cell? ⟨gb350, 1, none⟩ = some (.int .u64 a1_1) ∧ w'.cell? ⟨gb350, 2, none⟩ = some (.int .u64 a1_2) ∧ w'.cell? ⟨gb350, 3, none⟩ = some (.int .i64 a1_3)) (ds := []) #[fa,fa,fa,fa,fa,fa,fa,fa,fa,fa,fa,fa,fa,fa,fa,fa,fa,fa,fa,fa,fa,fa,fa,fa,fa,fa,fa,fa,fa,fa,fa] (by kernel_rfl) rfl rfl ⟨(blk_cell BK349.out 0).trans rfl, (blk_cell BK349.out 1).trans rfl, (blk_cell BK349.out 2).trans rfl, (blk_cell BK349.out 3).trans rfl, (blk_cell BK350.out 0).trans rfl, (blk_cell BK350.out 1).trans rfl, (blk_cell BK350.out 2).trans rfl, (blk_cell BK350.out 3).trans rfl⟩ (fun hHeld => ?_); refine with_tabW spoorlaw09_AddrBetween.tab11 spoorlaw09_AddrBetween.bits11 (fun HT_ HW_ => ?_)
              generalize wc.drew = w131 at BK349 BK350 BK351 BK356 BK367 HB hHeld ⊢
              refine pure_ (i := 4) (N := some 86) (v := ?_) (a' := ?_) #[fa,fa,fa,fa,tr,fa,fa,fa,fa,fa,fa,fa,fa,fa,fa,fa,fa,fa,fa,fa,fa,fa,fa,fa,fa,fa,fa,fa,fa,fa,fa] rfl rfl (any_of HT_.out (by kernel_rfl)) (fun _ _ _ h => h) (Or.inl ⟨by rfl, ?_⟩) ?_ ?_
              rotate_left
              ·intro w'
               go_simp
               with_reducible rfl
              rotate_left
              ·simp only [sP]
               rfl
              refine pure_ (i := 6) (N := some 88) (v := ?_) (a' := ?_) #[fa,fa,fa,fa,tr,fa,tr,fa,fa,fa,fa,fa,fa,fa,fa,fa,fa,fa,fa,fa,fa,fa,fa,fa,fa,fa,fa,fa,fa,fa,fa] rfl rfl (any_of HT_.out (by kernel_rfl)) (fun _ _ _ h => h) (Or.inl ⟨by rfl, ?_⟩) ?_ ?_
              rotate_left
              ·intro w'
               go_simp
               with_reducible rfl
              rotate_left
              ·simp only [sP]
               rfl
              refine take_ (i := 0) (N := some 82) (v := ?_) (a' := ?_) #[tr,fa,fa,fa,tr,fa,tr,fa,fa,fa,fa,fa,fa,fa,fa,fa,fa,fa,fa,fa,fa,fa,fa,fa,fa,fa,fa,fa,fa,fa,fa] rfl rfl (take_ofW HT_.out HW_.out (by kernel_rfl)) (fun _ _ _ h => h) (Or.inl ⟨by rfl, ?_⟩) hHeld ?_ ?_
              rotate_left
              ·rintro w' ⟨s0, s1, s2, s3, s4, s5, s6, s7⟩
               go_simp
               with_reducible rfl
              rotate_left
              ·simp only [sP]
               rfl
              refine take_ (i := 1) (N := some 83) (v := ?_) (a' := ?_) #[tr,tr,fa,fa,tr,fa,tr,fa,fa,fa,fa,fa,fa,fa,fa,fa,fa,fa,fa,fa,fa,fa,fa,fa,fa,fa,fa,fa,fa,fa,fa] rfl rfl (take_ofW HT_.out HW_.out (by kernel_rfl)) (fun _ _ _ h => h) (Or.inl ⟨by rfl, ?_⟩) hHeld ?_ ?_
              rotate_left
              ·rintro w' ⟨s0, s1, s2, s3, s4, s5, s6, s7⟩
               go_simp
               with_reducible rfl
              rotate_left
              ·simp only [sP]
               rfl
              refine take_ (i := 3) (N := some 85) (v := ?_) (a' := ?_) #[tr,tr,fa,tr,tr,fa,tr,fa,fa,fa,fa,fa,fa,fa,fa,fa,fa,fa,fa,fa,fa,fa,fa,fa,fa,fa,fa,fa,fa,fa,fa] rfl rfl (take_ofW HT_.out HW_.out (by kernel_rfl)) (fun _ _ _ h => h) (Or.inl ⟨by rfl, ?_⟩) hHeld ?_ ?_
              rotate_left
              ·rintro w' ⟨s0, s1, s2, s3, s4, s5, s6, s7⟩
               go_simp
               with_reducible rfl
              rotate_left
              ·simp only [sP]
               rfl
              refine take_ (i := 5) (N := some 87) (v := ?_) (a' := ?_) #[tr,tr,fa,tr,tr,tr,tr,fa,fa,fa,fa,fa,fa,fa,fa,fa,fa,fa,fa,fa,fa,fa,fa,fa,fa,fa,fa,fa,fa,fa,fa] rfl rfl (take_ofW HT_.out HW_.out (by kernel_rfl)) (fun _ _ _ h => h) (Or.inl ⟨by rfl, ?_⟩) hHeld ?_ ?_
              rotate_left
              ·rintro w' ⟨s0, s1, s2, s3, s4, s5, s6, s7⟩
               go_simp
               with_reducible rfl
              rotate_left
              ·simp only [sP]
               rfl
              refine take_ (i := 7) (N := some 89) (v := ?_) (a' := ?_) #[tr,tr,fa,tr,tr,tr,tr,tr,fa,fa,fa,fa,fa,fa,fa,fa,fa,fa,fa,fa,fa,fa,fa,fa,fa,fa,fa,fa,fa,fa,fa] rfl rfl (take_ofW HT_.out HW_.out (by kernel_rfl)) (fun _ _ _ h => h) (Or.inl ⟨by rfl, ?_⟩) hHeld ?_ ?_
              rotate_left
              ·rintro w' ⟨s0, s1, s2, s3, s4, s5, s6, s7⟩
               go_simp
               with_reducible rfl
              rotate_left
              ·simp only [sP]
               rfl
              refine one_ (i := 2) (N := some 84) #[tr,tr,tr,tr,tr,tr,tr,tr,fa,fa,fa,fa,fa,fa,fa,fa,fa,fa,fa,fa,fa,fa,fa,fa,fa,fa,fa,fa,fa,fa,fa] rfl rfl (one_of HT_.out (by kernel_rfl)) (by decide) (fun K hK => ?_)
              refine goes_ Try.func24 (by kernel_rfl) rfl #[.agg #[.bool a0_0, .int .u64 a0_1, .int .u64 a0_2, .int .i64 a0_3], .agg #[.bool a1_0, .int .u64 a1_1, .int .u64 a1_2, .int .i64 a1_3]] (by rfl) rfl rfl gS ?_
              with_reducible refine (addr_Covers.calls kj67 a0_0 a0_1 a0_2 a0_3 a1_0 a1_1 a1_2 a1_3 t370 _ A107.out).mono ?_
              rintro e w132 ⟨rfl, hb⟩
              refine ⟨_, rfl, ?_⟩
              have n0_ := Ax (blk_below (g := gb349) (o := .cells #[.bool a0_0, .int .u64 a0_1, .int .u64 a0_2, .int .i64 a0_3] 33 (0, 0)) (bf0 BK349.out) hb)
              have n1_ := Ax (blk_below (g := gb350) (o := .cells #[.bool a1_0, .int .u64 a1_1, .int .u64 a1_2, .int .i64 a1_3] 33 (0, 0)) (bf0 BK350.out) hb)
              have n2_ := Ax (blk_below (g := gb351) (o := .cells #[.int .u64 a2_0, .int .u64 a2_1] 24 (0, 0)) (bf0 BK351.out) hb)
              have n3_ := Ax (blk_below (g := gb356) (o := .cells #[.int .u64 t353, .int .u64 t354] 24 (0, 0)) (bf0 BK356.out) hb)
              have n4_ := Ax (blk_below (g := gb367) (o := .cells #[.int .u64 t364, .int .u64 t365] 24 (0, 0)) (bf0 BK367.out) hb)
              have n5_ := Ax (below_step (bw5 HB.out GE349.out GE350.out GE351.out GE356.out GE367.out) hb)
              clear BK349
              clear BK350
              clear BK351
              clear BK356
              clear BK367
              clear HB
              have BK349 := n0_
              have BK350 := n1_
              have BK351 := n2_
              have BK356 := n3_
              have BK367 := n4_
              have HB := n5_
              clear n0_ n1_ n2_ n3_ n4_ n5_
              (try clear hb)
              (try clear hb2)
              (try clear hk)
              (try clear hi)
              refine hK.out _ _ ⟨(blk_cell BK349.out 0).trans rfl, (blk_cell BK349.out 1).trans rfl, (blk_cell BK349.out 2).trans rfl, (blk_cell BK349.out 3).trans rfl, (blk_cell BK350.out 0).trans rfl, (blk_cell BK350.out 1).trans rfl, (blk_cell BK350.out 2).trans rfl, (blk_cell BK350.out 3).trans rfl⟩ (fun hHeld => ?_)
              clear hK K
              refine norm_ (a' := ?_) ?_ ?_
              rotate_left
              ·show Act.put _ (some 84) _ = _
               simp only [sP]
               rfl
              refine one_ (i := 8) (N := some 90) #[tr,tr,tr,tr,tr,tr,tr,tr,tr,fa,fa,fa,fa,fa,fa,fa,fa,fa,fa,fa,fa,fa,fa,fa,fa,fa,fa,fa,fa,fa,fa] rfl rfl (one_of HT_.out (by kernel_rfl)) (by decide) (fun K hK => ?_)
              refine goes_ Try.func22 (by kernel_rfl) rfl #[.agg #[.bool a0_0, .int .u64 a0_1, .int .u64 a0_2, .int .i64 a0_3], .bool a0_0, .agg #[.int .u64 a1_1, .int .u64 a1_2]] (by rfl) rfl rfl gS ?_
              with_reducible refine (addr_Has.calls kj67 a0_0 a0_1 a0_2 a0_3 a0_0 a1_1 a1_2 false _ A108.out).mono ?_
              rintro e w133 ⟨rfl, hb⟩
              refine ⟨_, rfl, ?_⟩
              have n0_ := Ax (blk_below (g := gb349) (o := .cells #[.bool a0_0, .int .u64 a0_1, .int .u64 a0_2, .int .i64 a0_3] 33 (0, 0)) (bf0 BK349.out) hb)
              have n1_ := Ax (blk_below (g := gb350) (o := .cells #[.bool a1_0, .int .u64 a1_1, .int .u64 a1_2, .int .i64 a1_3] 33 (0, 0)) (bf0 BK350.out) hb)
              have n2_ := Ax (blk_below (g := gb351) (o := .cells #[.int .u64 a2_0, .int .u64 a2_1] 24 (0, 0)) (bf0 BK351.out) hb)
              have n3_ := Ax (blk_below (g := gb356) (o := .cells #[.int .u64 t353, .int .u64 t354] 24 (0, 0)) (bf0 BK356.out) hb)
              have n4_ := Ax (blk_below (g := gb367) (o := .cells #[.int .u64 t364, .int .u64 t365] 24 (0, 0)) (bf0 BK367.out) hb)
              have n5_ := Ax (below_step (bw5 HB.out GE349.out GE350.out GE351.out GE356.out GE367.out) hb)
              clear BK349
              clear BK350
              clear BK351
              clear BK356
              clear BK367
              clear HB
              have BK349 := n0_
              have BK350 := n1_
              have BK351 := n2_
              have BK356 := n3_
              have BK367 := n4_
              have HB := n5_
              clear n0_ n1_ n2_ n3_ n4_ n5_
              (try clear hb)
              (try clear hb2)
              (try clear hk)
              (try clear hi)
              refine hK.out _ _ ⟨(blk_cell BK349.out 0).trans rfl, (blk_cell BK349.out 1).trans rfl, (blk_cell BK349.out 2).trans rfl, (blk_cell BK349.out 3).trans rfl, (blk_cell BK350.out 0).trans rfl, (blk_cell BK350.out 1).trans rfl, (blk_cell BK350.out 2).trans rfl, (blk_cell BK350.out 3).trans rfl⟩ (fun hHeld => ?_)
              clear hK K
              refine norm_ (a' := ?_) ?_ ?_
              rotate_left
              ·show Act.put _ (some 90) _ = _
               simp only [sP]
               rfl
              refine pure_ (i := 9) (N := some 91) (v := ?_) (a' := ?_) #[tr,tr,tr,tr,tr,tr,tr,tr,tr,tr,fa,fa,fa,fa,fa,fa,fa,fa,fa,fa,fa,fa,fa,fa,fa,fa,fa,fa,fa,fa,fa] rfl rfl (any_of HT_.out (by kernel_rfl)) (fun _ _ _ h => h) (Or.inl ⟨by rfl, ?_⟩) ?_ ?_
              rotate_left
              ·intro w'
               go_simp
               with_reducible rfl
              rotate_left
              ·simp only [sP]
               rfl
              refine pure_ (i := 10) (N := some 92) (v := undef) (a' := ?_) #[tr,tr,tr,tr,tr,tr,tr,tr,tr,tr,tr,fa,fa,fa,fa,fa,fa,fa,fa,fa,fa,fa,fa,fa,fa,fa,fa,fa,fa,fa,fa] rfl rfl (any_of HT_.out (by kernel_rfl)) (fun _ _ _ h => h) (Or.inr ⟨by rfl, rfl⟩) ?_ ?_
              rotate_left
              ·simp only [sP]
               rfl
              refine pure_ (i := 11) (N := some 93) (v := undef) (a' := ?_) #[tr,tr,tr,tr,tr,tr,tr,tr,tr,tr,tr,tr,fa,fa,fa,fa,fa,fa,fa,fa,fa,fa,fa,fa,fa,fa,fa,fa,fa,fa,fa] rfl rfl (any_of HT_.out (by kernel_rfl)) (fun _ _ _ h => h) (Or.inr ⟨by rfl, rfl⟩) ?_ ?_
              rotate_left
              ·simp only [sP]
               rfl
              refine pure_ (i := 12) (N := some 94) (v := undef) (a' := ?_) #[tr,tr,tr,tr,tr,tr,tr,tr,tr,tr,tr,tr,tr,fa,fa,fa,fa,fa,fa,fa,fa,fa,fa,fa,fa,fa,fa,fa,fa,fa,fa] rfl rfl (any_of HT_.out (by kernel_rfl)) (fun _ _ _ h => h) (Or.inr ⟨by rfl, rfl⟩) ?_ ?_
              rotate_left
              ·simp only [sP]
               rfl
              refine pure_ (i := 13) (N := some 95) (v := undef) (a' := ?_) #[tr,tr,tr,tr,tr,tr,tr,tr,tr,tr,tr,tr,tr,tr,fa,fa,fa,fa,fa,fa,fa,fa,fa,fa,fa,fa,fa,fa,fa,fa,fa] rfl rfl (any_of HT_.out (by kernel_rfl)) (fun _ _ _ h => h) (Or.inr ⟨by rfl, rfl⟩) ?_ ?_
              rotate_left
              ·simp only [sP]
               rfl
              refine pure_ (i := 14) (N := some 96) (v := undef) (a' := ?_) #[tr,tr,tr,tr,tr,tr,tr,tr,tr,tr,tr,tr,tr,tr,tr,fa,fa,fa,fa,fa,fa,fa,fa,fa,fa,fa,fa,fa,fa,fa,fa] rfl rfl (any_of HT_.out (by kernel_rfl)) (fun _ _ _ h => h) (Or.inr ⟨by rfl, rfl⟩) ?_ ?_
              rotate_left
              ·simp only [sP]
               rfl
              refine pure_ (i := 15) (N := some 97) (v := ?_) (a' := ?_) #[tr,tr,tr,tr,tr,tr,tr,tr,tr,tr,tr,tr,tr,tr,tr,tr,fa,fa,fa,fa,fa,fa,fa,fa,fa,fa,fa,fa,fa,fa,fa] rfl rfl (any_of HT_.out (by kernel_rfl)) (fun _ _ _ h => h) (Or.inl ⟨by rfl, ?_⟩) ?_ ?_
              rotate_left
              ·intro w'
               go_simp
               with_reducible rfl
              rotate_left
              ·simp only [sP]
               rfl
              refine pure_ (i := 16) (N := some 98) (v := ?_) (a' := ?_) #[tr,tr,tr,tr,tr,tr,tr,tr,tr,tr,tr,tr,tr,tr,tr,tr,tr,fa,fa,fa,fa,fa,fa,fa,fa,fa,fa,fa,fa,fa,fa] rfl rfl (any_of HT_.out (by kernel_rfl)) (fun _ _ _ h => h) (Or.inl ⟨by rfl, ?_⟩) ?_ ?_
              rotate_left
              ·intro w'
               go_simp
               with_reducible rfl
              rotate_left
              ·simp only [sP]
               rfl
              refine pure_ (i := 17) (N := some 99) (v := ?_) (a' := ?_) #[tr,tr,tr,tr,tr,tr,tr,tr,tr,tr,tr,tr,tr,tr,tr,tr,tr,tr,fa,fa,fa,fa,fa,fa,fa,fa,fa,fa,fa,fa,fa] rfl rfl (any_of HT_.out (by kernel_rfl)) (fun _ _ _ h => h) (Or.inl ⟨by rfl, ?_⟩) ?_ ?_
              rotate_left
              ·intro w'
               go_simp
               with_reducible rfl
              rotate_left
              ·simp only [sP]
               rfl
              refine take_ (i := 18) (N := some 100) (v := ?_) (a' := ?_) #[tr,tr,tr,tr,tr,tr,tr,tr,tr,tr,tr,tr,tr,tr,tr,tr,tr,tr,tr,fa,fa,fa,fa,fa,fa,fa,fa,fa,fa,fa,fa] rfl rfl (take_ofW HT_.out HW_.out (by kernel_rfl)) (fun _ _ _ h => h) (Or.inl ⟨by rfl, ?_⟩) hHeld ?_ ?_
              rotate_left
              ·rintro w' ⟨s0, s1, s2, s3, s4, s5, s6, s7⟩
               go_simp
               with_reducible rfl
              rotate_left
              ·simp only [sP]
               rfl
              refine take_ (i := 19) (N := some 101) (v := ?_) (a' := ?_) #[tr,tr,tr,tr,tr,tr,tr,tr,tr,tr,tr,tr,tr,tr,tr,tr,tr,tr,tr,tr,fa,fa,fa,fa,fa,fa,fa,fa,fa,fa,fa] rfl rfl (take_ofW HT_.out HW_.out (by kernel_rfl)) (fun _ _ _ h => h) (Or.inl ⟨by rfl, ?_⟩) hHeld ?_ ?_
              rotate_left
              ·rintro w' ⟨s0, s1, s2, s3, s4, s5, s6, s7⟩
               go_simp
               with_reducible rfl
              rotate_left
              ·simp only [sP]
               rfl
              refine one_ (i := 20) (N := some 102) #[tr,tr,tr,tr,tr,tr,tr,tr,tr,tr,tr,tr,tr,tr,tr,tr,tr,tr,tr,tr,tr,fa,fa,fa,fa,fa,fa,fa,fa,fa,fa] rfl rfl (one_of HT_.out (by kernel_rfl)) (by decide) (fun K hK => ?_)
              refine goes_ Try.func24 (by kernel_rfl) rfl #[.agg #[.bool a0_0, .int .u64 a0_1, .int .u64 a0_2, .int .i64 a0_3], .agg #[.bool a1_0, .int .u64 a1_1, .int .u64 a1_2, .int .i64 a1_3]] (by rfl) rfl rfl gS ?_
              with_reducible refine (addr_Covers.calls kj67 a0_0 a0_1 a0_2 a0_3 a1_0 a1_1 a1_2 a1_3 false _ A125.out).mono ?_
              rintro e w134 ⟨rfl, hb⟩
              refine ⟨_, rfl, ?_⟩
              have n0_ := Ax (blk_below (g := gb349) (o := .cells #[.bool a0_0, .int .u64 a0_1, .int .u64 a0_2, .int .i64 a0_3] 33 (0, 0)) (bf0 BK349.out) hb)
              have n1_ := Ax (blk_below (g := gb350) (o := .cells #[.bool a1_0, .int .u64 a1_1, .int .u64 a1_2, .int .i64 a1_3] 33 (0, 0)) (bf0 BK350.out) hb)
              have n2_ := Ax (blk_below (g := gb351) (o := .cells #[.int .u64 a2_0, .int .u64 a2_1] 24 (0, 0)) (bf0 BK351.out) hb)
              have n3_ := Ax (blk_below (g := gb356) (o := .cells #[.int .u64 t353, .int .u64 t354] 24 (0, 0)) (bf0 BK356.out) hb)
              have n4_ := Ax (blk_below (g := gb367) (o := .cells #[.int .u64 t364, .int .u64 t365] 24 (0, 0)) (bf0 BK367.out) hb)
              have n5_ := Ax (below_step (bw5 HB.out GE349.out GE350.out GE351.out GE356.out GE367.out) hb)
              clear BK349
              clear BK350
              clear BK351
              clear BK356
              clear BK367
              clear HB
              have BK349 := n0_
              have BK350 := n1_
              have BK351 := n2_
              have BK356 := n3_
              have BK367 := n4_
              have HB := n5_
              clear n0_ n1_ n2_ n3_ n4_ n5_
              (try clear hb)
              (try clear hb2)
              (try clear hk)
              (try clear hi)
              refine hK.out _ _ ⟨(blk_cell BK349.out 0).trans rfl, (blk_cell BK349.out 1).trans rfl, (blk_cell BK349.out 2).trans rfl, (blk_cell BK349.out 3).trans rfl, (blk_cell BK350.out 0).trans rfl, (blk_cell BK350.out 1).trans rfl, (blk_cell BK350.out 2).trans rfl, (blk_cell BK350.out 3).trans rfl⟩ (fun hHeld => ?_)
              clear hK K
              refine norm_ (a' := ?_) ?_ ?_
              rotate_left
              ·show Act.put _ (some 102) _ = _
               simp only [sP]
               rfl
              refine pure_ (i := 21) (N := some 103) (v := ?_) (a' := ?_) #[tr,tr,tr,tr,tr,tr,tr,tr,tr,tr,tr,tr,tr,tr,tr,tr,tr,tr,tr,tr,tr,tr,fa,fa,fa,fa,fa,fa,fa,fa,fa] rfl rfl (any_of HT_.out (by kernel_rfl)) (fun _ _ _ h => h) (Or.inl ⟨by rfl, ?_⟩) ?_ ?_
              rotate_left
              ·intro w'
               go_simp
               with_reducible rfl
              rotate_left
              ·simp only [sP]
               rfl
              refine pure_ (i := 22) (N := some 104) (v := ?_) (a' := ?_) #[tr,tr,tr,tr,tr,tr,tr,tr,tr,tr,tr,tr,tr,tr,tr,tr,tr,tr,tr,tr,tr,tr,tr,fa,fa,fa,fa,fa,fa,fa,fa] rfl rfl (any_of HT_.out (by kernel_rfl)) (fun _ _ _ h => h) (Or.inl ⟨by rfl, ?_⟩) ?_ ?_
              rotate_left
              ·intro w'
               go_simp
               with_reducible rfl
              rotate_left
              ·simp only [sP]
               rfl
              refine pure_ (i := 23) (N := some 105) (v := undef) (a' := ?_) #[tr,tr,tr,tr,tr,tr,tr,tr,tr,tr,tr,tr,tr,tr,tr,tr,tr,tr,tr,tr,tr,tr,tr,tr,fa,fa,fa,fa,fa,fa,fa] rfl rfl (any_of HT_.out (by kernel_rfl)) (fun _ _ _ h => h) (Or.inr ⟨by rfl, rfl⟩) ?_ ?_
              rotate_left
              ·simp only [sP]
               rfl
              refine pure_ (i := 24) (N := some 106) (v := undef) (a' := ?_) #[tr,tr,tr,tr,tr,tr,tr,tr,tr,tr,tr,tr,tr,tr,tr,tr,tr,tr,tr,tr,tr,tr,tr,tr,tr,fa,fa,fa,fa,fa,fa] rfl rfl (any_of HT_.out (by kernel_rfl)) (fun _ _ _ h => h) (Or.inr ⟨by rfl, rfl⟩) ?_ ?_
              rotate_left
              ·simp only [sP]
               rfl
              refine pure_ (i := 25) (N := some 107) (v := undef) (a' := ?_) #[tr,tr,tr,tr,tr,tr,tr,tr,tr,tr,tr,tr,tr,tr,tr,tr,tr,tr,tr,tr,tr,tr,tr,tr,tr,tr,fa,fa,fa,fa,fa] rfl rfl (any_of HT_.out (by kernel_rfl)) (fun _ _ _ h => h) (Or.inr ⟨by rfl, rfl⟩) ?_ ?_
              rotate_left
              ·simp only [sP]
               rfl
              refine pure_ (i := 26) (N := some 108) (v := undef) (a' := ?_) #[tr,tr,tr,tr,tr,tr,tr,tr,tr,tr,tr,tr,tr,tr,tr,tr,tr,tr,tr,tr,tr,tr,tr,tr,tr,tr,tr,fa,fa,fa,fa] rfl rfl (any_of HT_.out (by kernel_rfl)) (fun _ _ _ h => h) (Or.inr ⟨by rfl, rfl⟩) ?_ ?_
              rotate_left
              ·simp only [sP]
               rfl
              refine pure_ (i := 27) (N := some 109) (v := undef) (a' := ?_) #[tr,tr,tr,tr,tr,tr,tr,tr,tr,tr,tr,tr,tr,tr,tr,tr,tr,tr,tr,tr,tr,tr,tr,tr,tr,tr,tr,tr,fa,fa,fa] rfl rfl (any_of HT_.out (by kernel_rfl)) (fun _ _ _ h => h) (Or.inr ⟨by rfl, rfl⟩) ?_ ?_
              rotate_left
              ·simp only [sP]
               rfl
              refine pure_ (i := 28) (N := some 110) (v := ?_) (a' := ?_) #[tr,tr,tr,tr,tr,tr,tr,tr,tr,tr,tr,tr,tr,tr,tr,tr,tr,tr,tr,tr,tr,tr,tr,tr,tr,tr,tr,tr,tr,fa,fa] rfl rfl (any_of HT_.out (by kernel_rfl)) (fun _ _ _ h => h) (Or.inl ⟨by rfl, ?_⟩) ?_ ?_
              rotate_left
              ·intro w'
               go_simp
               with_reducible rfl
              rotate_left
              ·simp only [sP]
               rfl
              refine pure_ (i := 29) (N := some 111) (v := ?_) (a' := ?_) #[tr,tr,tr,tr,tr,tr,tr,tr,tr,tr,tr,tr,tr,tr,tr,tr,tr,tr,tr,tr,tr,tr,tr,tr,tr,tr,tr,tr,tr,tr,fa] rfl rfl (any_of HT_.out (by kernel_rfl)) (fun _ _ _ h => h) (Or.inl ⟨by rfl, ?_⟩) ?_ ?_
              rotate_left
              ·intro w'
               go_simp
               with_reducible rfl
              rotate_left
              ·simp only [sP]
               rfl
              refine pure_ (i := 30) (N := some 6) (v := ?_) (a' := ?_) #[tr,tr,tr,tr,tr,tr,tr,tr,tr,tr,tr,tr,tr,tr,tr,tr,tr,tr,tr,tr,tr,tr,tr,tr,tr,tr,tr,tr,tr,tr,tr] rfl rfl (any_of HT_.out (by kernel_rfl)) (fun _ _ _ h => h) (Or.inl ⟨by rfl, ?_⟩) ?_ ?_
              rotate_left
              ·intro w'
               go_simp
               with_reducible rfl
              rotate_left
              ·simp only [sP]
               rfl
              refine done_ (done_of HT_.out (by kernel_rfl)) ?_
              try go_wp2
              go_ret
              exact ⟨eS, bw5 HB.out GE349.out GE350.out GE351.out GE356.out GE367.out⟩
            ·rw [if_neg c124] at H
             have c124b0 : (t370 == false) = false := by simpa using c124
             (try (have c124b1 : decide (t370 = false) = false := by simpa using c124))
             (try (have c124b2 : (t370 == false) = false := by simpa using c124))
             (try (have c124b3 : ¬ (t370 = false) := by simpa using c124))
             clear c124
             exact absurd H (by simp)
 ·replace c5 := Bool.eq_false_iff.mpr c5
  subst c5
  have H1 : (none) = some r := by rw [if_neg (show ¬ (false = true) by decide)] at H; exact H
  clear H
  have H := H1
  clear H1
  exact absurd H (by simp)

end Go.Proofs.Ytafclgjnomocdaa.Q
