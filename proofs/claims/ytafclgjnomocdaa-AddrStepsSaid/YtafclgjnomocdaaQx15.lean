-- Printed by this session's program wip/tools/mp.sh out of the translation.
import Derived.Test.YtafclgjnomocdaaQx0
import Derived.Test.YtafclgjnomocdaaQx1
import Derived.Test.YtafclgjnomocdaaQx3
import Derived.Test.YtafclgjnomocdaaQx4
import Derived.Test.YtafclgjnomocdaaQx6
import Derived.Test.YtafclgjnomocdaaQx7
import Derived.Test.YtafclgjnomocdaaQx12
import Derived.Test.YtafclgjnomocdaaQx13
import Derived.Test.YtafclgjnomocdaaQx14
namespace Go.Proofs.Ytafclgjnomocdaa.Q
open Go.RowKit Go.Proofs.YtafclgjnomocdaaW.PrintWords Go.Proofs.YtafclgjnomocdaaW.PrintLast Go.Proofs.YtafclgjnomocdaaW.PrintMore
attribute [local go_sem] max2_int min2_int max_two min_two max_three min_three max_four min_four   -- for this text's walks alone
set_option linter.unusedVariables false
set_option linter.unusedSimpArgs false

attribute [local go_sem high] eqA24
/-! ### spoorlaw09_AddrSteps: function 3 -/
set_option maxHeartbeats 8000000 in
set_option maxRecDepth 100000 in
theorem spoorlaw09_AddrSteps.calls (k : Nat) (a0 : Bool) (a1_0 : Int) (a1_1 : Int) (a2_0 : Int) (a2_1 : Int) (r : Bool) (w : World) (h : spoorlaw09_AddrSteps.f k a0 a1_0 a1_1 a2_0 a2_1 = some r) :
  Calls Try.prog 3 #[.bool a0, .agg #[.int .u64 a1_0, .int .u64 a1_1], .agg #[.int .u64 a2_0, .int .u64 a2_1]] w fun e w' => e = .returned (.bool r) ∧ Below w.heap.size w w' := by
 have hu24 := Try.underlying24
 have HB := Ax (Below.refl w.heap.size w)
 have H : ((addr_Next.f a0 a1_0 a1_1).bind fun bt245 => ((spoorref09_Next.f k a0 a1_0 a1_1).bind fun bt249 => ((addr_Prev.f a0 a1_0 a1_1).bind fun bt253 => ((spoorref09_Prev.f k a0 a1_0 a1_1).bind fun bt257 => ((spoorlaw09_steps.f k).bind fun t261 => (if t261 = true then ((addr_Right.f a0 a1_0 a1_1).bind fun t262 => ((spoorref09_Right.f a0 a1_0 a1_1).bind fun t263 => (if (t262 == t263) = true then ((addr_Cmp.f k a1_0 a1_1 a2_0 a2_1).bind fun t264 => ((spoorref09_Cmp.f k a1_0 a1_1 a2_0 a2_1).bind fun t265 => (if t264 = t265 then (if (bt245.1 == bt249.1 && (bt245.2.1 == bt249.2.1)) = true then (if bt245.2.2 = bt249.2.2 then (if (bt253.1 == bt257.1 && (bt253.2.1 == bt257.2.1)) = true then (some (bt253.2.2 == bt257.2.2)) else (none)) else (none)) else (none)) else (none)))) else (none)))) else (none))))))) = some r := h
 clear h
 replace H := Option.bind_eq_some_iff.mp H
 obtain ⟨⟨t245, t246, t247⟩, A40, H⟩ := H
 replace H : ((spoorref09_Next.f k a0 a1_0 a1_1).bind fun bt249 => ((addr_Prev.f a0 a1_0 a1_1).bind fun bt253 => ((spoorref09_Prev.f k a0 a1_0 a1_1).bind fun bt257 => ((spoorlaw09_steps.f k).bind fun t261 => (if t261 = true then ((addr_Right.f a0 a1_0 a1_1).bind fun t262 => ((spoorref09_Right.f a0 a1_0 a1_1).bind fun t263 => (if (t262 == t263) = true then ((addr_Cmp.f k a1_0 a1_1 a2_0 a2_1).bind fun t264 => ((spoorref09_Cmp.f k a1_0 a1_1 a2_0 a2_1).bind fun t265 => (if t264 = t265 then (if (t245 == bt249.1 && (t246 == bt249.2.1)) = true then (if t247 = bt249.2.2 then (if (bt253.1 == bt257.1 && (bt253.2.1 == bt257.2.1)) = true then (some (bt253.2.2 == bt257.2.2)) else (none)) else (none)) else (none)) else (none)))) else (none)))) else (none)))))) = some r := H
 have A4 := Ax A40
 clear A40
 replace H := Option.bind_eq_some_iff.mp H
 obtain ⟨⟨t249, t250, t251⟩, A50, H⟩ := H
 replace H : ((addr_Prev.f a0 a1_0 a1_1).bind fun bt253 => ((spoorref09_Prev.f k a0 a1_0 a1_1).bind fun bt257 => ((spoorlaw09_steps.f k).bind fun t261 => (if t261 = true then ((addr_Right.f a0 a1_0 a1_1).bind fun t262 => ((spoorref09_Right.f a0 a1_0 a1_1).bind fun t263 => (if (t262 == t263) = true then ((addr_Cmp.f k a1_0 a1_1 a2_0 a2_1).bind fun t264 => ((spoorref09_Cmp.f k a1_0 a1_1 a2_0 a2_1).bind fun t265 => (if t264 = t265 then (if (t245 == t249 && (t246 == t250)) = true then (if t247 = t251 then (if (bt253.1 == bt257.1 && (bt253.2.1 == bt257.2.1)) = true then (some (bt253.2.2 == bt257.2.2)) else (none)) else (none)) else (none)) else (none)))) else (none)))) else (none))))) = some r := H
 have A5 := Ax A50
 clear A50
 replace H := Option.bind_eq_some_iff.mp H
 obtain ⟨⟨t253, t254, t255⟩, A60, H⟩ := H
 replace H : ((spoorref09_Prev.f k a0 a1_0 a1_1).bind fun bt257 => ((spoorlaw09_steps.f k).bind fun t261 => (if t261 = true then ((addr_Right.f a0 a1_0 a1_1).bind fun t262 => ((spoorref09_Right.f a0 a1_0 a1_1).bind fun t263 => (if (t262 == t263) = true then ((addr_Cmp.f k a1_0 a1_1 a2_0 a2_1).bind fun t264 => ((spoorref09_Cmp.f k a1_0 a1_1 a2_0 a2_1).bind fun t265 => (if t264 = t265 then (if (t245 == t249 && (t246 == t250)) = true then (if t247 = t251 then (if (t253 == bt257.1 && (t254 == bt257.2.1)) = true then (some (t255 == bt257.2.2)) else (none)) else (none)) else (none)) else (none)))) else (none)))) else (none)))) = some r := H
 have A6 := Ax A60
 clear A60
 replace H := Option.bind_eq_some_iff.mp H
 obtain ⟨⟨t257, t258, t259⟩, A70, H⟩ := H
 replace H : ((spoorlaw09_steps.f k).bind fun t261 => (if t261 = true then ((addr_Right.f a0 a1_0 a1_1).bind fun t262 => ((spoorref09_Right.f a0 a1_0 a1_1).bind fun t263 => (if (t262 == t263) = true then ((addr_Cmp.f k a1_0 a1_1 a2_0 a2_1).bind fun t264 => ((spoorref09_Cmp.f k a1_0 a1_1 a2_0 a2_1).bind fun t265 => (if t264 = t265 then (if (t245 == t249 && (t246 == t250)) = true then (if t247 = t251 then (if (t253 == t257 && (t254 == t258)) = true then (some (t255 == t259)) else (none)) else (none)) else (none)) else (none)))) else (none)))) else (none))) = some r := H
 have A7 := Ax A70
 clear A70
 replace H := Option.bind_eq_some_iff.mp H
 obtain ⟨t261, A80, H⟩ := H
 replace H : (if t261 = true then ((addr_Right.f a0 a1_0 a1_1).bind fun t262 => ((spoorref09_Right.f a0 a1_0 a1_1).bind fun t263 => (if (t262 == t263) = true then ((addr_Cmp.f k a1_0 a1_1 a2_0 a2_1).bind fun t264 => ((spoorref09_Cmp.f k a1_0 a1_1 a2_0 a2_1).bind fun t265 => (if t264 = t265 then (if (t245 == t249 && (t246 == t250)) = true then (if t247 = t251 then (if (t253 == t257 && (t254 == t258)) = true then (some (t255 == t259)) else (none)) else (none)) else (none)) else (none)))) else (none)))) else (none)) = some r := H
 have A8 := Ax A80
 clear A80
 by_cases c9 : t261 = true
 ·subst c9
  have H1 : ((addr_Right.f a0 a1_0 a1_1).bind fun t262 => ((spoorref09_Right.f a0 a1_0 a1_1).bind fun t263 => (if (t262 == t263) = true then ((addr_Cmp.f k a1_0 a1_1 a2_0 a2_1).bind fun t264 => ((spoorref09_Cmp.f k a1_0 a1_1 a2_0 a2_1).bind fun t265 => (if t264 = t265 then (if (t245 == t249 && (t246 == t250)) = true then (if t247 = t251 then (if (t253 == t257 && (t254 == t258)) = true then (some (t255 == t259)) else (none)) else (none)) else (none)) else (none)))) else (none)))) = some r := by rw [if_pos rfl] at H; exact H
  clear H
  have H := H1
  clear H1
  replace H := Option.bind_eq_some_iff.mp H
  obtain ⟨t262, A100, H⟩ := H
  replace H : ((spoorref09_Right.f a0 a1_0 a1_1).bind fun t263 => (if (t262 == t263) = true then ((addr_Cmp.f k a1_0 a1_1 a2_0 a2_1).bind fun t264 => ((spoorref09_Cmp.f k a1_0 a1_1 a2_0 a2_1).bind fun t265 => (if t264 = t265 then (if (t245 == t249 && (t246 == t250)) = true then (if t247 = t251 then (if (t253 == t257 && (t254 == t258)) = true then (some (t255 == t259)) else (none)) else (none)) else (none)) else (none)))) else (none))) = some r := H
  have A10 := Ax A100
  clear A100
  replace H := Option.bind_eq_some_iff.mp H
  obtain ⟨t263, A110, H⟩ := H
  replace H : (if (t262 == t263) = true then ((addr_Cmp.f k a1_0 a1_1 a2_0 a2_1).bind fun t264 => ((spoorref09_Cmp.f k a1_0 a1_1 a2_0 a2_1).bind fun t265 => (if t264 = t265 then (if (t245 == t249 && (t246 == t250)) = true then (if t247 = t251 then (if (t253 == t257 && (t254 == t258)) = true then (some (t255 == t259)) else (none)) else (none)) else (none)) else (none)))) else (none)) = some r := H
  have A11 := Ax A110
  clear A110
  by_cases c12 : (t262 == t263) = true
  ·rw [if_pos c12] at H
   have c12b0 : (t262 == t263) = true := c12
   (try (have c12b1 : decide (t262 = t263) = true := by simpa using c12))
   (try (have c12b2 : (t262 == t263) = true := by simpa using c12))
   clear c12
   replace H := Option.bind_eq_some_iff.mp H
   obtain ⟨t264, A130, H⟩ := H
   replace H : ((spoorref09_Cmp.f k a1_0 a1_1 a2_0 a2_1).bind fun t265 => (if t264 = t265 then (if (t245 == t249 && (t246 == t250)) = true then (if t247 = t251 then (if (t253 == t257 && (t254 == t258)) = true then (some (t255 == t259)) else (none)) else (none)) else (none)) else (none))) = some r := H
   have A13 := Ax A130
   clear A130
   replace H := Option.bind_eq_some_iff.mp H
   obtain ⟨t265, A140, H⟩ := H
   replace H : (if t264 = t265 then (if (t245 == t249 && (t246 == t250)) = true then (if t247 = t251 then (if (t253 == t257 && (t254 == t258)) = true then (some (t255 == t259)) else (none)) else (none)) else (none)) else (none)) = some r := H
   have A14 := Ax A140
   clear A140
   by_cases c15 : t264 = t265
   ·rw [if_pos c15] at H
    have c15b0 : (t264 == t265) = true := beq_iff_eq.mpr c15
    have c15b1 : (t264 != t265) = false := bne_eq_false_iff_eq.mpr c15
    clear c15
    by_cases c16 : (t245 == t249 && (t246 == t250)) = true
    ·rw [if_pos c16] at H
     have c16b0 : (t245 == t249 && (t246 == t250)) = true := c16
     (try (have c16b1 : decide (t245 = t249 && (t246 == t250)) = true := by simpa using c16))
     (try (have c16b2 : (t245 == t249 && (t246 == t250)) = true := by simpa using c16))
     clear c16
     by_cases c17 : t247 = t251
     ·rw [if_pos c17] at H
      have c17b0 : (t247 == t251) = true := beq_iff_eq.mpr c17
      have c17b1 : (t247 != t251) = false := bne_eq_false_iff_eq.mpr c17
      clear c17
      by_cases c18 : (t253 == t257 && (t254 == t258)) = true
      ·rw [if_pos c18] at H
       have c18b0 : (t253 == t257 && (t254 == t258)) = true := c18
       (try (have c18b1 : decide (t253 = t257 && (t254 == t258)) = true := by simpa using c18))
       (try (have c18b2 : (t253 == t257 && (t254 == t258)) = true := by simpa using c18))
       clear c18
       obtain rfl := Option.some.inj H
       go_enter Try.func3, Try.ntmps3
       try go_wp2_with (first | ((with_reducible refine gate_dst (N := 4) rfl ?_); refine box_event ?hg (N := 4) ?hd (cs := #[.int .u64 a1_0, .int .u64 a1_1]) (t := 24) ?hr ?_; (case hd => rfl); (case hg => rfl); (case hr => first | (go_simp; done) | (go_simp; rfl)); intro gb243 hg w19 hbox hb; have n0_ := Ax (below_step (bw0 HB.out) hb); have n1_ := Ax (hbox); have n2_ := Ax ((by rw [hg]; exact (below_size (bw0 HB.out)) : w.heap.size ≤ gb243)); have n3_ := Ax ((by rw [hg]; exact (below_size (bw0 HB.out)) : w.heap.size ≤ gb243)); clear HB; have HB := n0_; have BK243 := n1_; have GW243 := n2_; have GE243 := n3_; clear n0_ n1_ n2_ n3_; clear hb hbox hg) | ((with_reducible refine gate_dst (N := 5) rfl ?_); refine box_event ?hg (N := 5) ?hd (cs := #[.int .u64 a2_0, .int .u64 a2_1]) (t := 24) ?hr ?_; (case hd => rfl); (case hg => rfl); (case hr => first | (go_simp; done) | (go_simp; rfl)); intro gb244 hg w20 hbox hb; have n0_ := Ax (blk_below (g := gb243) (o := .cells #[.int .u64 a1_0, .int .u64 a1_1] 24 (0, 0)) (bf0 BK243.out) hb); have n1_ := Ax (below_step (bw1 HB.out GE243.out) hb); have n2_ := Ax (hbox); have n3_ := Ax ((by rw [hg]; exact (below_size (bw1 HB.out GE243.out)) : w.heap.size ≤ gb244)); have n4_ := Ax ((by rw [hg]; exact (below_size (bw1 HB.out GE243.out)) : w.heap.size ≤ gb244)); have n5_ := Ax ((by rw [hg]; exact Nat.ne_of_lt (blk_lt (g := gb243) (o := .cells #[.int .u64 a1_0, .int .u64 a1_1] 24 (0, 0)) (bf0 BK243.out)) : gb243 ≠ gb244)); have n6_ := Ax ((by rw [hg]; exact Nat.ne_of_gt (blk_lt (g := gb243) (o := .cells #[.int .u64 a1_0, .int .u64 a1_1] 24 (0, 0)) (bf0 BK243.out)) : gb244 ≠ gb243)); clear BK243; clear HB; have BK243 := n0_; have HB := n1_; have BK244 := n2_; have GW244 := n3_; have GE244 := n4_; have NB243_244 := n5_; have NB244_243 := n6_; clear n0_ n1_ n2_ n3_ n4_ n5_ n6_; clear hb hbox hg; have hnb21 := NB243_244.out; have hnc21 := NB244_243.out; have hcz22_0 : w20.cell? ⟨gb243, 0, none⟩ = some (.int .u64 a1_0) := (blk_cell BK243.out 0).trans rfl; have hcz22_1 : w20.cell? ⟨gb243, 1, none⟩ = some (.int .u64 a1_1) := (blk_cell BK243.out 1).trans rfl; have hfz22_0 := blk_frozen BK243.out 0; have hfz22_1 := blk_frozen BK243.out 1) | ((with_reducible refine gate_callee (f := 7) rfl ?_); refine goesL_ (some 18) rfl rfl Try.func7 (by kernel_rfl) rfl #[.bool a0, .agg #[.int .u64 a1_0, .int .u64 a1_1]] rfl gS ?_; (with_reducible refine (addr_Next.calls a0 a1_0 a1_1 t245 t246 t247 _ A4.out).mono ?_); rintro e w23 ⟨rfl, hb⟩; refine ⟨_, rfl, ?_⟩; have n0_ := Ax (blk_below (g := gb243) (o := .cells #[.int .u64 a1_0, .int .u64 a1_1] 24 (0, 0)) (bf0 BK243.out) hb); have n1_ := Ax (blk_below (g := gb244) (o := .cells #[.int .u64 a2_0, .int .u64 a2_1] 24 (0, 0)) (bf0 BK244.out) hb); have n2_ := Ax (below_step (bw2 HB.out GE243.out GE244.out) hb); clear BK243; clear BK244; clear HB; have BK243 := n0_; have BK244 := n1_; have HB := n2_; clear n0_ n1_ n2_; (try clear hb); (try clear hb2); (try clear hk); (try clear hi)) | ((with_reducible refine gate_dst (N := 7) rfl ?_); refine box_event ?hg (N := 7) ?hd (cs := #[.int .u64 0, .int .u64 0]) (t := 24) ?hr ?_; (case hd => rfl); (case hg => rfl); (case hr => first | (go_simp; done) | (go_simp; rfl)); intro gb248 hg w24 hbox hb; have n0_ := Ax (blk_below (g := gb243) (o := .cells #[.int .u64 a1_0, .int .u64 a1_1] 24 (0, 0)) (bf0 BK243.out) hb); have n1_ := Ax (blk_below (g := gb244) (o := .cells #[.int .u64 a2_0, .int .u64 a2_1] 24 (0, 0)) (bf0 BK244.out) hb); have n2_ := Ax (below_step (bw2 HB.out GE243.out GE244.out) hb); have n3_ := Ax (hbox); have n4_ := Ax ((by rw [hg]; exact (below_size (bw2 HB.out GE243.out GE244.out)) : w.heap.size ≤ gb248)); have n5_ := Ax ((by rw [hg]; exact (below_size (bw2 HB.out GE243.out GE244.out)) : w.heap.size ≤ gb248)); have n6_ := Ax ((by rw [hg]; exact Nat.ne_of_lt (blk_lt (g := gb243) (o := .cells #[.int .u64 a1_0, .int .u64 a1_1] 24 (0, 0)) (bf0 BK243.out)) : gb243 ≠ gb248)); have n7_ := Ax ((by rw [hg]; exact Nat.ne_of_gt (blk_lt (g := gb243) (o := .cells #[.int .u64 a1_0, .int .u64 a1_1] 24 (0, 0)) (bf0 BK243.out)) : gb248 ≠ gb243)); have n8_ := Ax ((by rw [hg]; exact Nat.ne_of_lt (blk_lt (g := gb244) (o := .cells #[.int .u64 a2_0, .int .u64 a2_1] 24 (0, 0)) (bf0 BK244.out)) : gb244 ≠ gb248)); have n9_ := Ax ((by rw [hg]; exact Nat.ne_of_gt (blk_lt (g := gb244) (o := .cells #[.int .u64 a2_0, .int .u64 a2_1] 24 (0, 0)) (bf0 BK244.out)) : gb248 ≠ gb244)); clear BK243; clear BK244; clear HB; have BK243 := n0_; have BK244 := n1_; have HB := n2_; have BK248 := n3_; have GW248 := n4_; have GE248 := n5_; have NB243_248 := n6_; have NB248_243 := n7_; have NB244_248 := n8_; have NB248_244 := n9_; clear n0_ n1_ n2_ n3_ n4_ n5_ n6_ n7_ n8_ n9_; clear hb hbox hg; have hnb25 := NB248_243.out; have hnc25 := NB243_248.out; have hnb26 := NB248_244.out; have hnc26 := NB244_248.out; have hcz27_0 : w24.cell? ⟨gb248, 0, none⟩ = some (.int .u64 0) := (blk_cell BK248.out 0).trans rfl; have hcz27_1 : w24.cell? ⟨gb248, 1, none⟩ = some (.int .u64 0) := (blk_cell BK248.out 1).trans rfl; have hfz27_0 := blk_frozen BK248.out 0; have hfz27_1 := blk_frozen BK248.out 1; have hcz28_0 : w24.cell? ⟨gb243, 0, none⟩ = some (.int .u64 a1_0) := (blk_cell BK243.out 0).trans rfl; have hcz28_1 : w24.cell? ⟨gb243, 1, none⟩ = some (.int .u64 a1_1) := (blk_cell BK243.out 1).trans rfl; have hfz28_0 := blk_frozen BK243.out 0; have hfz28_1 := blk_frozen BK243.out 1) | ((with_reducible refine gate_callee (f := 8) rfl ?_); refine goesL_ (some 24) rfl rfl Try.func8 (by kernel_rfl) rfl #[.bool a0, .agg #[.int .u64 a1_0, .int .u64 a1_1]] rfl gS ?_; (with_reducible refine (spoorref09_Next.calls k a0 a1_0 a1_1 t249 t250 t251 _ A5.out).mono ?_); rintro e w29 ⟨rfl, hb⟩; refine ⟨_, rfl, ?_⟩; have n0_ := Ax (blk_below (g := gb243) (o := .cells #[.int .u64 a1_0, .int .u64 a1_1] 24 (0, 0)) (bf2 BK243.out NB243_248.out NB243_248.out) hb); have n1_ := Ax (blk_below (g := gb244) (o := .cells #[.int .u64 a2_0, .int .u64 a2_1] 24 (0, 0)) (bf2 BK244.out NB244_248.out NB244_248.out) hb); have n2_ := Ax (blk_below (g := gb248) (o := .cells #[.int .u64 t245, .int .u64 t246] 24 (0, 0)) (by (with_reducible repeat (first | refine blk_drewN ?_ _ | refine blk_drew ?_ | refine blk_alloc ?_ _)); refine blk_put (cs := #[.int .u64 t245, .int .u64 0]) ?_ 1 _ rfl; (with_reducible repeat (first | refine blk_drewN ?_ _ | refine blk_drew ?_ | refine blk_alloc ?_ _)); refine blk_put (cs := #[.int .u64 0, .int .u64 0]) ?_ 0 _ rfl; (with_reducible repeat (first | refine blk_drewN ?_ _ | refine blk_drew ?_ | refine blk_alloc ?_ _)); exact BK248.out) hb); have n3_ := Ax (below_step (bw3 HB.out GE243.out GE244.out GE248.out) hb); clear BK243; clear BK244; clear BK248; clear HB; have BK243 := n0_; have BK244 := n1_; have BK248 := n2_; have HB := n3_; clear n0_ n1_ n2_ n3_; (try clear hb); (try clear hb2); (try clear hk); (try clear hi)) | ((with_reducible refine gate_dst (N := 9) rfl ?_); refine box_event ?hg (N := 9) ?hd (cs := #[.int .u64 0, .int .u64 0]) (t := 24) ?hr ?_; (case hd => rfl); (case hg => rfl); (case hr => first | (go_simp; done) | (go_simp; rfl)); intro gb252 hg w30 hbox hb; have n0_ := Ax (blk_below (g := gb243) (o := .cells #[.int .u64 a1_0, .int .u64 a1_1] 24 (0, 0)) (bf0 BK243.out) hb); have n1_ := Ax (blk_below (g := gb244) (o := .cells #[.int .u64 a2_0, .int .u64 a2_1] 24 (0, 0)) (bf0 BK244.out) hb); have n2_ := Ax (blk_below (g := gb248) (o := .cells #[.int .u64 t245, .int .u64 t246] 24 (0, 0)) (bf0 BK248.out) hb); have n3_ := Ax (below_step (bw3 HB.out GE243.out GE244.out GE248.out) hb); have n4_ := Ax (hbox); have n5_ := Ax ((by rw [hg]; exact (below_size (bw3 HB.out GE243.out GE244.out GE248.out)) : w.heap.size ≤ gb252)); have n6_ := Ax ((by rw [hg]; exact (below_size (bw3 HB.out GE243.out GE244.out GE248.out)) : w.heap.size ≤ gb252)); have n7_ := Ax ((by rw [hg]; exact Nat.ne_of_lt (blk_lt (g := gb243) (o := .cells #[.int .u64 a1_0, .int .u64 a1_1] 24 (0, 0)) (bf0 BK243.out)) : gb243 ≠ gb252)); have n8_ := Ax ((by rw [hg]; exact Nat.ne_of_gt (blk_lt (g := gb243) (o := .cells #[.int .u64 a1_0, .int .u64 a1_1] 24 (0, 0)) (bf0 BK243.out)) : gb252 ≠ gb243)); have n9_ := Ax ((by rw [hg]; exact Nat.ne_of_lt (blk_lt (g := gb244) (o := .cells #[.int .u64 a2_0, .int .u64 a2_1] 24 (0, 0)) (bf0 BK244.out)) : gb244 ≠ gb252)); have n10_ := Ax ((by rw [hg]; exact Nat.ne_of_gt (blk_lt (g := gb244) (o := .cells #[.int .u64 a2_0, .int .u64 a2_1] 24 (0, 0)) (bf0 BK244.out)) : gb252 ≠ gb244)); have n11_ := Ax ((by rw [hg]; exact Nat.ne_of_lt (blk_lt (g := gb248) (o := .cells #[.int .u64 t245, .int .u64 t246] 24 (0, 0)) (bf0 BK248.out)) : gb248 ≠ gb252)); have n12_ := Ax ((by rw [hg]; exact Nat.ne_of_gt (blk_lt (g := gb248) (o := .cells #[.int .u64 t245, .int .u64 t246] 24 (0, 0)) (bf0 BK248.out)) : gb252 ≠ gb248)); clear BK243; clear BK244; clear BK248; clear HB; have BK243 := n0_; have BK244 := n1_; have BK248 := n2_; have HB := n3_; have BK252 := n4_; have GW252 := n5_; have GE252 := n6_; have NB243_252 := n7_; have NB252_243 := n8_; have NB244_252 := n9_; have NB252_244 := n10_; have NB248_252 := n11_; have NB252_248 := n12_; clear n0_ n1_ n2_ n3_ n4_ n5_ n6_ n7_ n8_ n9_ n10_ n11_ n12_; clear hb hbox hg; have hnb31 := NB252_243.out; have hnc31 := NB243_252.out; have hnb32 := NB252_244.out; have hnc32 := NB244_252.out; have hnb33 := NB252_248.out; have hnc33 := NB248_252.out; have hcz34_0 : w30.cell? ⟨gb252, 0, none⟩ = some (.int .u64 0) := (blk_cell BK252.out 0).trans rfl; have hcz34_1 : w30.cell? ⟨gb252, 1, none⟩ = some (.int .u64 0) := (blk_cell BK252.out 1).trans rfl; have hfz34_0 := blk_frozen BK252.out 0; have hfz34_1 := blk_frozen BK252.out 1; have hcz35_0 : w30.cell? ⟨gb243, 0, none⟩ = some (.int .u64 a1_0) := (blk_cell BK243.out 0).trans rfl; have hcz35_1 : w30.cell? ⟨gb243, 1, none⟩ = some (.int .u64 a1_1) := (blk_cell BK243.out 1).trans rfl; have hfz35_0 := blk_frozen BK243.out 0; have hfz35_1 := blk_frozen BK243.out 1) | ((with_reducible refine gate_callee (f := 9) rfl ?_); refine goesL_ (some 30) rfl rfl Try.func9 (by kernel_rfl) rfl #[.bool a0, .agg #[.int .u64 a1_0, .int .u64 a1_1]] rfl gS ?_; (with_reducible refine (addr_Prev.calls a0 a1_0 a1_1 t253 t254 t255 _ A6.out).mono ?_); rintro e w36 ⟨rfl, hb⟩; refine ⟨_, rfl, ?_⟩; have n0_ := Ax (blk_below (g := gb243) (o := .cells #[.int .u64 a1_0, .int .u64 a1_1] 24 (0, 0)) (bf2 BK243.out NB243_252.out NB243_252.out) hb); have n1_ := Ax (blk_below (g := gb244) (o := .cells #[.int .u64 a2_0, .int .u64 a2_1] 24 (0, 0)) (bf2 BK244.out NB244_252.out NB244_252.out) hb); have n2_ := Ax (blk_below (g := gb248) (o := .cells #[.int .u64 t245, .int .u64 t246] 24 (0, 0)) (bf2 BK248.out NB248_252.out NB248_252.out) hb); have n3_ := Ax (blk_below (g := gb252) (o := .cells #[.int .u64 t249, .int .u64 t250] 24 (0, 0)) (by (with_reducible repeat (first | refine blk_drewN ?_ _ | refine blk_drew ?_ | refine blk_alloc ?_ _)); refine blk_put (cs := #[.int .u64 t249, .int .u64 0]) ?_ 1 _ rfl; (with_reducible repeat (first | refine blk_drewN ?_ _ | refine blk_drew ?_ | refine blk_alloc ?_ _)); refine blk_put (cs := #[.int .u64 0, .int .u64 0]) ?_ 0 _ rfl; (with_reducible repeat (first | refine blk_drewN ?_ _ | refine blk_drew ?_ | refine blk_alloc ?_ _)); exact BK252.out) hb); have n4_ := Ax (below_step (bw4 HB.out GE243.out GE244.out GE248.out GE252.out) hb); clear BK243; clear BK244; clear BK248; clear BK252; clear HB; have BK243 := n0_; have BK244 := n1_; have BK248 := n2_; have BK252 := n3_; have HB := n4_; clear n0_ n1_ n2_ n3_ n4_; (try clear hb); (try clear hb2); (try clear hk); (try clear hi)) | ((with_reducible refine gate_dst (N := 11) rfl ?_); refine box_event ?hg (N := 11) ?hd (cs := #[.int .u64 0, .int .u64 0]) (t := 24) ?hr ?_; (case hd => rfl); (case hg => rfl); (case hr => first | (go_simp; done) | (go_simp; rfl)); intro gb256 hg w37 hbox hb; have n0_ := Ax (blk_below (g := gb243) (o := .cells #[.int .u64 a1_0, .int .u64 a1_1] 24 (0, 0)) (bf0 BK243.out) hb); have n1_ := Ax (blk_below (g := gb244) (o := .cells #[.int .u64 a2_0, .int .u64 a2_1] 24 (0, 0)) (bf0 BK244.out) hb); have n2_ := Ax (blk_below (g := gb248) (o := .cells #[.int .u64 t245, .int .u64 t246] 24 (0, 0)) (bf0 BK248.out) hb); have n3_ := Ax (blk_below (g := gb252) (o := .cells #[.int .u64 t249, .int .u64 t250] 24 (0, 0)) (bf0 BK252.out) hb); have n4_ := Ax (below_step (bw4 HB.out GE243.out GE244.out GE248.out GE252.out) hb); have n5_ := Ax (hbox); have n6_ := Ax ((by rw [hg]; exact (below_size (bw4 HB.out GE243.out GE244.out GE248.out GE252.out)) : w.heap.size ≤ gb256)); have n7_ := Ax ((by rw [hg]; exact (below_size (bw4 HB.out GE243.out GE244.out GE248.out GE252.out)) : w.heap.size ≤ gb256)); have n8_ := Ax ((by rw [hg]; exact Nat.ne_of_lt (blk_lt (g := gb243) (o := .cells #[.int .u64 a1_0, .int .u64 a1_1] 24 (0, 0)) (bf0 BK243.out)) : gb243 ≠ gb256)); have n9_ := Ax ((by rw [hg]; exact Nat.ne_of_gt (blk_lt (g := gb243) (o := .cells #[.int .u64 a1_0, .int .u64 a1_1] 24 (0, 0)) (bf0 BK243.out)) : gb256 ≠ gb243)); have n10_ := Ax ((by rw [hg]; exact Nat.ne_of_lt (blk_lt (g := gb244) (o := .cells #[.int .u64 a2_0, .int .u64 a2_1] 24 (0, 0)) (bf0 BK244.out)) : gb244 ≠ gb256)); have n11_ := Ax ((by rw [hg]; exact Nat.ne_of_gt (blk_lt (g := gb244) (o := .cells #[.int .u64 a2_0, .int .u64 a2_1] 24 (0, 0)) (bf0 BK244.out)) : gb256 ≠ gb244)); have n12_ := Ax ((by rw [hg]; exact Nat.ne_of_lt (blk_lt (g := gb248) (o := .cells #[.int .u64 t245, .int .u64 t246] 24 (0, 0)) (bf0 BK248.out)) : gb248 ≠ gb256)); have n13_ := Ax ((by rw [hg]; exact Nat.ne_of_gt (blk_lt (g := gb248) (o := .cells #[.int .u64 t245, .int .u64 t246] 24 (0, 0)) (bf0 BK248.out)) : gb256 ≠ gb248)); have n14_ := Ax ((by rw [hg]; exact Nat.ne_of_lt (blk_lt (g := gb252) (o := .cells #[.int .u64 t249, .int .u64 t250] 24 (0, 0)) (bf0 BK252.out)) : gb252 ≠ gb256)); have n15_ := Ax ((by rw [hg]; exact Nat.ne_of_gt (blk_lt (g := gb252) (o := .cells #[.int .u64 t249, .int .u64 t250] 24 (0, 0)) (bf0 BK252.out)) : gb256 ≠ gb252)); clear BK243; clear BK244; clear BK248; clear BK252; clear HB; have BK243 := n0_; have BK244 := n1_; have BK248 := n2_; have BK252 := n3_; have HB := n4_; have BK256 := n5_; have GW256 := n6_; have GE256 := n7_; have NB243_256 := n8_; have NB256_243 := n9_; have NB244_256 := n10_; have NB256_244 := n11_; have NB248_256 := n12_; have NB256_248 := n13_; have NB252_256 := n14_; have NB256_252 := n15_; clear n0_ n1_ n2_ n3_ n4_ n5_ n6_ n7_ n8_ n9_ n10_ n11_ n12_ n13_ n14_ n15_; clear hb hbox hg; have hnb38 := NB256_243.out; have hnc38 := NB243_256.out; have hnb39 := NB256_244.out; have hnc39 := NB244_256.out; have hnb40 := NB256_248.out; have hnc40 := NB248_256.out; have hnb41 := NB256_252.out; have hnc41 := NB252_256.out; have hcz42_0 : w37.cell? ⟨gb256, 0, none⟩ = some (.int .u64 0) := (blk_cell BK256.out 0).trans rfl; have hcz42_1 : w37.cell? ⟨gb256, 1, none⟩ = some (.int .u64 0) := (blk_cell BK256.out 1).trans rfl; have hfz42_0 := blk_frozen BK256.out 0; have hfz42_1 := blk_frozen BK256.out 1; have hcz43_0 : w37.cell? ⟨gb243, 0, none⟩ = some (.int .u64 a1_0) := (blk_cell BK243.out 0).trans rfl; have hcz43_1 : w37.cell? ⟨gb243, 1, none⟩ = some (.int .u64 a1_1) := (blk_cell BK243.out 1).trans rfl; have hfz43_0 := blk_frozen BK243.out 0; have hfz43_1 := blk_frozen BK243.out 1) | ((with_reducible refine gate_callee (f := 10) rfl ?_); refine goesL_ (some 36) rfl rfl Try.func10 (by kernel_rfl) rfl #[.bool a0, .agg #[.int .u64 a1_0, .int .u64 a1_1]] rfl gS ?_; (with_reducible refine (spoorref09_Prev.calls k a0 a1_0 a1_1 t257 t258 t259 _ A7.out).mono ?_); rintro e w44 ⟨rfl, hb⟩; refine ⟨_, rfl, ?_⟩; have n0_ := Ax (blk_below (g := gb243) (o := .cells #[.int .u64 a1_0, .int .u64 a1_1] 24 (0, 0)) (bf2 BK243.out NB243_256.out NB243_256.out) hb); have n1_ := Ax (blk_below (g := gb244) (o := .cells #[.int .u64 a2_0, .int .u64 a2_1] 24 (0, 0)) (bf2 BK244.out NB244_256.out NB244_256.out) hb); have n2_ := Ax (blk_below (g := gb248) (o := .cells #[.int .u64 t245, .int .u64 t246] 24 (0, 0)) (bf2 BK248.out NB248_256.out NB248_256.out) hb); have n3_ := Ax (blk_below (g := gb252) (o := .cells #[.int .u64 t249, .int .u64 t250] 24 (0, 0)) (bf2 BK252.out NB252_256.out NB252_256.out) hb); have n4_ := Ax (blk_below (g := gb256) (o := .cells #[.int .u64 t253, .int .u64 t254] 24 (0, 0)) (by (with_reducible repeat (first | refine blk_drewN ?_ _ | refine blk_drew ?_ | refine blk_alloc ?_ _)); refine blk_put (cs := #[.int .u64 t253, .int .u64 0]) ?_ 1 _ rfl; (with_reducible repeat (first | refine blk_drewN ?_ _ | refine blk_drew ?_ | refine blk_alloc ?_ _)); refine blk_put (cs := #[.int .u64 0, .int .u64 0]) ?_ 0 _ rfl; (with_reducible repeat (first | refine blk_drewN ?_ _ | refine blk_drew ?_ | refine blk_alloc ?_ _)); exact BK256.out) hb); have n5_ := Ax (below_step (bw5 HB.out GE243.out GE244.out GE248.out GE252.out GE256.out) hb); clear BK243; clear BK244; clear BK248; clear BK252; clear BK256; clear HB; have BK243 := n0_; have BK244 := n1_; have BK248 := n2_; have BK252 := n3_; have BK256 := n4_; have HB := n5_; clear n0_ n1_ n2_ n3_ n4_ n5_; (try clear hb); (try clear hb2); (try clear hk); (try clear hi)) | ((with_reducible refine gate_dst (N := 13) rfl ?_); refine box_event ?hg (N := 13) ?hd (cs := #[.int .u64 0, .int .u64 0]) (t := 24) ?hr ?_; (case hd => rfl); (case hg => rfl); (case hr => first | (go_simp; done) | (go_simp; rfl)); intro gb260 hg w45 hbox hb; have n0_ := Ax (blk_below (g := gb243) (o := .cells #[.int .u64 a1_0, .int .u64 a1_1] 24 (0, 0)) (bf0 BK243.out) hb); have n1_ := Ax (blk_below (g := gb244) (o := .cells #[.int .u64 a2_0, .int .u64 a2_1] 24 (0, 0)) (bf0 BK244.out) hb); have n2_ := Ax (blk_below (g := gb248) (o := .cells #[.int .u64 t245, .int .u64 t246] 24 (0, 0)) (bf0 BK248.out) hb); have n3_ := Ax (blk_below (g := gb252) (o := .cells #[.int .u64 t249, .int .u64 t250] 24 (0, 0)) (bf0 BK252.out) hb); have n4_ := Ax (blk_below (g := gb256) (o := .cells #[.int .u64 t253, .int .u64 t254] 24 (0, 0)) (bf0 BK256.out) hb); have n5_ := Ax (below_step (bw5 HB.out GE243.out GE244.out GE248.out GE252.out GE256.out) hb); have n6_ := Ax (hbox); have n7_ := Ax ((by rw [hg]; exact (below_size (bw5 HB.out GE243.out GE244.out GE248.out GE252.out GE256.out)) : w.heap.size ≤ gb260)); have n8_ := Ax ((by rw [hg]; exact (below_size (bw5 HB.out GE243.out GE244.out GE248.out GE252.out GE256.out)) : w.heap.size ≤ gb260)); have n9_ := Ax ((by rw [hg]; exact Nat.ne_of_lt (blk_lt (g := gb243) (o := .cells #[.int .u64 a1_0, .int .u64 a1_1] 24 (0, 0)) (bf0 BK243.out)) : gb243 ≠ gb260)); have n10_ := Ax ((by rw [hg]; exact Nat.ne_of_gt (blk_lt (g := gb243) (o := .cells #[.int .u64 a1_0, .int .u64 a1_1] 24 (0, 0)) (bf0 BK243.out)) : gb260 ≠ gb243)); have n11_ := Ax ((by rw [hg]; exact Nat.ne_of_lt (blk_lt (g := gb244) (o := .cells #[.int .u64 a2_0, .int .u64 a2_1] 24 (0, 0)) (bf0 BK244.out)) : gb244 ≠ gb260)); have n12_ := Ax ((by rw [hg]; exact Nat.ne_of_gt (blk_lt (g := gb244) (o := .cells #[.int .u64 a2_0, .int .u64 a2_1] 24 (0, 0)) (bf0 BK244.out)) : gb260 ≠ gb244)); have n13_ := Ax ((by rw [hg]; exact Nat.ne_of_lt (blk_lt (g := gb248) (o := .cells #[.int .u64 t245, .int .u64 t246] 24 (0, 0)) (bf0 BK248.out)) : gb248 ≠ gb260)); have n14_ := Ax ((by rw [hg]; exact Nat.ne_of_gt (blk_lt (g := gb248) (o := .cells #[.int .u64 t245, .int .u64 t246] 24 (0, 0)) (bf0 BK248.out)) : gb260 ≠ gb248)); have n15_ := Ax ((by rw [hg]; exact Nat.ne_of_lt (blk_lt (g := gb252) (o := .cells #[.int .u64 t249, .int .u64 t250] 24 (0, 0)) (bf0 BK252.out)) : gb252 ≠ gb260)); have n16_ := Ax ((by rw [hg]; exact Nat.ne_of_gt (blk_lt (g := gb252) (o := .cells #[.int .u64 t249, .int .u64 t250] 24 (0, 0)) (bf0 BK252.out)) : gb260 ≠ gb252)); have n17_ := Ax ((by rw [hg]; exact Nat.ne_of_lt (blk_lt (g := gb256) (o := .cells #[.int .u64 t253, .int .u64 t254] 24 (0, 0)) (bf0 BK256.out)) : gb256 ≠ gb260)); have n18_ := Ax ((by rw [hg]; exact Nat.ne_of_gt (blk_lt (g := gb256) (o := .cells #[.int .u64 t253, .int .u64 t254] 24 (0, 0)) (bf0 BK256.out)) : gb260 ≠ gb256)); clear BK243; clear BK244; clear BK248; clear BK252; clear BK256; clear HB; have BK243 := n0_; have BK244 := n1_; have BK248 := n2_; have BK252 := n3_; have BK256 := n4_; have HB := n5_; have BK260 := n6_; have GW260 := n7_; have GE260 := n8_; have NB243_260 := n9_; have NB260_243 := n10_; have NB244_260 := n11_; have NB260_244 := n12_; have NB248_260 := n13_; have NB260_248 := n14_; have NB252_260 := n15_; have NB260_252 := n16_; have NB256_260 := n17_; have NB260_256 := n18_; clear n0_ n1_ n2_ n3_ n4_ n5_ n6_ n7_ n8_ n9_ n10_ n11_ n12_ n13_ n14_ n15_ n16_ n17_ n18_; clear hb hbox hg; have hnb46 := NB260_243.out; have hnc46 := NB243_260.out; have hnb47 := NB260_244.out; have hnc47 := NB244_260.out; have hnb48 := NB260_248.out; have hnc48 := NB248_260.out; have hnb49 := NB260_252.out; have hnc49 := NB252_260.out; have hnb50 := NB260_256.out; have hnc50 := NB256_260.out; have hcz51_0 : w45.cell? ⟨gb260, 0, none⟩ = some (.int .u64 0) := (blk_cell BK260.out 0).trans rfl; have hcz51_1 : w45.cell? ⟨gb260, 1, none⟩ = some (.int .u64 0) := (blk_cell BK260.out 1).trans rfl; have hfz51_0 := blk_frozen BK260.out 0; have hfz51_1 := blk_frozen BK260.out 1))
       have n0_ : Aside0 (((w45.setCell ⟨gb260, 0, none⟩ (.int .u64 t257)).setCell ⟨gb260, 1, none⟩ (.int .u64 t258)).heap[gb243]? = some (.cells #[.int .u64 a1_0, .int .u64 a1_1] 24 (0, 0))) := ⟨bf2 BK243.out NB243_260.out NB243_260.out⟩
       have n1_ : Aside0 (((w45.setCell ⟨gb260, 0, none⟩ (.int .u64 t257)).setCell ⟨gb260, 1, none⟩ (.int .u64 t258)).heap[gb244]? = some (.cells #[.int .u64 a2_0, .int .u64 a2_1] 24 (0, 0))) := ⟨bf2 BK244.out NB244_260.out NB244_260.out⟩
       have n2_ : Aside0 (((w45.setCell ⟨gb260, 0, none⟩ (.int .u64 t257)).setCell ⟨gb260, 1, none⟩ (.int .u64 t258)).heap[gb248]? = some (.cells #[.int .u64 t245, .int .u64 t246] 24 (0, 0))) := ⟨bf2 BK248.out NB248_260.out NB248_260.out⟩
       have n3_ : Aside0 (((w45.setCell ⟨gb260, 0, none⟩ (.int .u64 t257)).setCell ⟨gb260, 1, none⟩ (.int .u64 t258)).heap[gb252]? = some (.cells #[.int .u64 t249, .int .u64 t250] 24 (0, 0))) := ⟨bf2 BK252.out NB252_260.out NB252_260.out⟩
       have n4_ : Aside0 (((w45.setCell ⟨gb260, 0, none⟩ (.int .u64 t257)).setCell ⟨gb260, 1, none⟩ (.int .u64 t258)).heap[gb256]? = some (.cells #[.int .u64 t253, .int .u64 t254] 24 (0, 0))) := ⟨bf2 BK256.out NB256_260.out NB256_260.out⟩
       have n5_ : Aside0 (((w45.setCell ⟨gb260, 0, none⟩ (.int .u64 t257)).setCell ⟨gb260, 1, none⟩ (.int .u64 t258)).heap[gb260]? = some (.cells #[.int .u64 t257, .int .u64 t258] 24 (0, 0))) := ⟨by (with_reducible repeat (first | refine blk_drewN ?_ _ | refine blk_drew ?_ | refine blk_alloc ?_ _)); refine blk_put (cs := #[.int .u64 t257, .int .u64 0]) ?_ 1 _ rfl; (with_reducible repeat (first | refine blk_drewN ?_ _ | refine blk_drew ?_ | refine blk_alloc ?_ _)); refine blk_put (cs := #[.int .u64 0, .int .u64 0]) ?_ 0 _ rfl; (with_reducible repeat (first | refine blk_drewN ?_ _ | refine blk_drew ?_ | refine blk_alloc ?_ _)); exact BK260.out⟩
       have n6_ : Aside0 (Below w.heap.size w ((w45.setCell ⟨gb260, 0, none⟩ (.int .u64 t257)).setCell ⟨gb260, 1, none⟩ (.int .u64 t258))) := ⟨bw6 HB.out GE243.out GE244.out GE248.out GE252.out GE256.out GE260.out⟩
       (try clear BK243)
       (try clear BK244)
       (try clear BK248)
       (try clear BK252)
       (try clear BK256)
       (try clear BK260)
       (try clear HB)
       generalize ((w45.setCell ⟨gb260, 0, none⟩ (.int .u64 t257)).setCell ⟨gb260, 1, none⟩ (.int .u64 t258)) = w52 at n0_ n1_ n2_ n3_ n4_ n5_ n6_ ⊢
       have BK243 := n0_
       have BK244 := n1_
       have BK248 := n2_
       have BK252 := n3_
       have BK256 := n4_
       have BK260 := n5_
       have HB := n6_
       clear n0_ n1_ n2_ n3_ n4_ n5_ n6_
       have n0_ := Ax (blk_drew BK243.out)
       have n1_ := Ax (blk_drew BK244.out)
       have n2_ := Ax (blk_drew BK248.out)
       have n3_ := Ax (blk_drew BK252.out)
       have n4_ := Ax (blk_drew BK256.out)
       have n5_ := Ax (blk_drew BK260.out)
       have n6_ := Ax (below_drew1 HB.out)
       clear BK243
       clear BK244
       clear BK248
       clear BK252
       clear BK256
       clear BK260
       clear HB
       have BK243 := n0_
       have BK244 := n1_
       have BK248 := n2_
       have BK252 := n3_
       have BK256 := n4_
       have BK260 := n5_
       have HB := n6_
       clear n0_ n1_ n2_ n3_ n4_ n5_ n6_
       refine start_ (n := 40) (S := fun w' => w'.cell? ⟨gb243, 0, none⟩ = some (.int .u64 a1_0) ∧ w'.cell? ⟨gb243, 1, none⟩ = some (.int .u64 a1_1) ∧ w'.cell? ⟨gb244, 0, none⟩ = some (.int .u64 a2_0) ∧ w'.cell? ⟨gb244, 1, none⟩ = some (.int .u64 a2_1) ∧ w'.cell? ⟨gb248, 0, none⟩ = some (.int .u64 t245) ∧ w'.cell? ⟨gb248, 1, none⟩ = some (.int .u64 t246) ∧ w'.cell? ⟨gb252, 0, none⟩ = some (.int .u64 t249) ∧ w'.cell? ⟨gb252, 1, none⟩ = some (.int .u64 t250) ∧ w'.cell? ⟨gb256, 0, none⟩ = some (.int .u64 t253) ∧ w'.cell? ⟨gb256, 1, none⟩ = some (.int .u64 t254) ∧ w'.cell? ⟨gb260, 0, none⟩ = some (.int .u64 t257) ∧ w'.cell? ⟨gb260, 1, none⟩ = some (.int .u64 t258)) (ds := []) #[fa,fa,fa,fa,fa,fa,fa,fa,fa,fa,fa,fa,fa,fa,fa,fa,fa,fa,fa,fa,fa,fa,fa,fa,fa,fa,fa,fa,fa,fa,fa,fa,fa,fa,fa,fa,fa,fa,fa,fa] (by kernel_rfl) rfl rfl ⟨(blk_cell BK243.out 0).trans rfl, (blk_cell BK243.out 1).trans rfl, (blk_cell BK244.out 0).trans rfl, (blk_cell BK244.out 1).trans rfl, (blk_cell BK248.out 0).trans rfl, (blk_cell BK248.out 1).trans rfl, (blk_cell BK252.out 0).trans rfl, (blk_cell BK252.out 1).trans rfl, (blk_cell BK256.out 0).trans rfl, (blk_cell BK256.out 1).trans rfl, (blk_cell BK260.out 0).trans rfl, (blk_cell BK260.out 1).trans rfl⟩ (fun hHeld => ?_); refine with_tabW spoorlaw09_AddrSteps.tab5 spoorlaw09_AddrSteps.bits5 (fun HT_ HW_ => ?_)
       generalize w52.drew = w53 at BK243 BK244 BK248 BK252 BK256 BK260 HB hHeld ⊢
       refine one_ (i := 0) (N := some 39) #[tr,fa,fa,fa,fa,fa,fa,fa,fa,fa,fa,fa,fa,fa,fa,fa,fa,fa,fa,fa,fa,fa,fa,fa,fa,fa,fa,fa,fa,fa,fa,fa,fa,fa,fa,fa,fa,fa,fa,fa] rfl rfl (one_of HT_.out (by kernel_rfl)) (by decide) (fun K hK => ?_)
       refine goes_ Try.func11 (by kernel_rfl) rfl #[] (by rfl) rfl rfl gS ?_
       with_reducible refine (spoorlaw09_steps.calls k  true _ A8.out).mono ?_
       rintro e w54 ⟨rfl, hb⟩
       refine ⟨_, rfl, ?_⟩
       have n0_ := Ax (blk_below (g := gb243) (o := .cells #[.int .u64 a1_0, .int .u64 a1_1] 24 (0, 0)) (bf0 BK243.out) hb)
       have n1_ := Ax (blk_below (g := gb244) (o := .cells #[.int .u64 a2_0, .int .u64 a2_1] 24 (0, 0)) (bf0 BK244.out) hb)
       have n2_ := Ax (blk_below (g := gb248) (o := .cells #[.int .u64 t245, .int .u64 t246] 24 (0, 0)) (bf0 BK248.out) hb)
       have n3_ := Ax (blk_below (g := gb252) (o := .cells #[.int .u64 t249, .int .u64 t250] 24 (0, 0)) (bf0 BK252.out) hb)
       have n4_ := Ax (blk_below (g := gb256) (o := .cells #[.int .u64 t253, .int .u64 t254] 24 (0, 0)) (bf0 BK256.out) hb)
       have n5_ := Ax (blk_below (g := gb260) (o := .cells #[.int .u64 t257, .int .u64 t258] 24 (0, 0)) (bf0 BK260.out) hb)
       have n6_ := Ax (below_step (bw6 HB.out GE243.out GE244.out GE248.out GE252.out GE256.out GE260.out) hb)
       clear BK243
       clear BK244
       clear BK248
       clear BK252
       clear BK256
       clear BK260
       clear HB
       have BK243 := n0_
       have BK244 := n1_
       have BK248 := n2_
       have BK252 := n3_
       have BK256 := n4_
       have BK260 := n5_
       have HB := n6_
       clear n0_ n1_ n2_ n3_ n4_ n5_ n6_
       (try clear hb)
       (try clear hb2)
       (try clear hk)
       (try clear hi)
       refine hK.out _ _ ⟨(blk_cell BK243.out 0).trans rfl, (blk_cell BK243.out 1).trans rfl, (blk_cell BK244.out 0).trans rfl, (blk_cell BK244.out 1).trans rfl, (blk_cell BK248.out 0).trans rfl, (blk_cell BK248.out 1).trans rfl, (blk_cell BK252.out 0).trans rfl, (blk_cell BK252.out 1).trans rfl, (blk_cell BK256.out 0).trans rfl, (blk_cell BK256.out 1).trans rfl, (blk_cell BK260.out 0).trans rfl, (blk_cell BK260.out 1).trans rfl⟩ (fun hHeld => ?_)
       clear hK K
       refine norm_ (a' := ?_) ?_ ?_
       rotate_left
       ·show Act.put _ (some 39) _ = _
        simp only [sP]
        rfl
       refine pure_ (i := 1) (N := some 40) (v := ?_) (a' := ?_) #[tr,tr,fa,fa,fa,fa,fa,fa,fa,fa,fa,fa,fa,fa,fa,fa,fa,fa,fa,fa,fa,fa,fa,fa,fa,fa,fa,fa,fa,fa,fa,fa,fa,fa,fa,fa,fa,fa,fa,fa] rfl rfl (any_of HT_.out (by kernel_rfl)) (fun _ _ _ h => h) (Or.inl ⟨by rfl, ?_⟩) ?_ ?_
       rotate_left
       ·intro w'
        go_simp
        with_reducible rfl
       rotate_left
       ·simp only [sP]
        rfl
       refine pure_ (i := 2) (N := some 41) (v := ?_) (a' := ?_) #[tr,tr,tr,fa,fa,fa,fa,fa,fa,fa,fa,fa,fa,fa,fa,fa,fa,fa,fa,fa,fa,fa,fa,fa,fa,fa,fa,fa,fa,fa,fa,fa,fa,fa,fa,fa,fa,fa,fa,fa] rfl rfl (any_of HT_.out (by kernel_rfl)) (fun _ _ _ h => h) (Or.inl ⟨by rfl, ?_⟩) ?_ ?_
       rotate_left
       ·intro w'
        go_simp
        with_reducible rfl
       rotate_left
       ·simp only [sP]
        rfl
       refine pure_ (i := 5) (N := some 44) (v := ?_) (a' := ?_) #[tr,tr,tr,fa,fa,tr,fa,fa,fa,fa,fa,fa,fa,fa,fa,fa,fa,fa,fa,fa,fa,fa,fa,fa,fa,fa,fa,fa,fa,fa,fa,fa,fa,fa,fa,fa,fa,fa,fa,fa] rfl rfl (any_of HT_.out (by kernel_rfl)) (fun _ _ _ h => h) (Or.inl ⟨by rfl, ?_⟩) ?_ ?_
       rotate_left
       ·intro w'
        go_simp
        with_reducible rfl
       rotate_left
       ·simp only [sP]
        rfl
       refine take_ (i := 3) (N := some 42) (v := ?_) (a' := ?_) #[tr,tr,tr,tr,fa,tr,fa,fa,fa,fa,fa,fa,fa,fa,fa,fa,fa,fa,fa,fa,fa,fa,fa,fa,fa,fa,fa,fa,fa,fa,fa,fa,fa,fa,fa,fa,fa,fa,fa,fa] rfl rfl (take_ofW HT_.out HW_.out (by kernel_rfl)) (fun _ _ _ h => h) (Or.inl ⟨by rfl, ?_⟩) hHeld ?_ ?_
       rotate_left
       ·rintro w' ⟨s0, s1, s2, s3, s4, s5, s6, s7, s8, s9, s10, s11⟩
        go_simp
        with_reducible rfl
       rotate_left
       ·simp only [sP]
        rfl
       refine take_ (i := 6) (N := some 45) (v := ?_) (a' := ?_) #[tr,tr,tr,tr,fa,tr,tr,fa,fa,fa,fa,fa,fa,fa,fa,fa,fa,fa,fa,fa,fa,fa,fa,fa,fa,fa,fa,fa,fa,fa,fa,fa,fa,fa,fa,fa,fa,fa,fa,fa] rfl rfl (take_ofW HT_.out HW_.out (by kernel_rfl)) (fun _ _ _ h => h) (Or.inl ⟨by rfl, ?_⟩) hHeld ?_ ?_
       rotate_left
       ·rintro w' ⟨s0, s1, s2, s3, s4, s5, s6, s7, s8, s9, s10, s11⟩
        go_simp
        with_reducible rfl
       rotate_left
       ·simp only [sP]
        rfl
       refine one_ (i := 4) (N := some 43) #[tr,tr,tr,tr,tr,tr,tr,fa,fa,fa,fa,fa,fa,fa,fa,fa,fa,fa,fa,fa,fa,fa,fa,fa,fa,fa,fa,fa,fa,fa,fa,fa,fa,fa,fa,fa,fa,fa,fa,fa] rfl rfl (one_of HT_.out (by kernel_rfl)) (by decide) (fun K hK => ?_)
       refine goes_ Try.func12 (by kernel_rfl) rfl #[.bool a0, .agg #[.int .u64 a1_0, .int .u64 a1_1]] (by rfl) rfl rfl gS ?_
       with_reducible refine (addr_Right.calls a0 a1_0 a1_1 t262 _ A10.out).mono ?_
       rintro e w55 ⟨rfl, hb⟩
       refine ⟨_, rfl, ?_⟩
       have n0_ := Ax (blk_below (g := gb243) (o := .cells #[.int .u64 a1_0, .int .u64 a1_1] 24 (0, 0)) (bf0 BK243.out) hb)
       have n1_ := Ax (blk_below (g := gb244) (o := .cells #[.int .u64 a2_0, .int .u64 a2_1] 24 (0, 0)) (bf0 BK244.out) hb)
       have n2_ := Ax (blk_below (g := gb248) (o := .cells #[.int .u64 t245, .int .u64 t246] 24 (0, 0)) (bf0 BK248.out) hb)
       have n3_ := Ax (blk_below (g := gb252) (o := .cells #[.int .u64 t249, .int .u64 t250] 24 (0, 0)) (bf0 BK252.out) hb)
       have n4_ := Ax (blk_below (g := gb256) (o := .cells #[.int .u64 t253, .int .u64 t254] 24 (0, 0)) (bf0 BK256.out) hb)
       have n5_ := Ax (blk_below (g := gb260) (o := .cells #[.int .u64 t257, .int .u64 t258] 24 (0, 0)) (bf0 BK260.out) hb)
       have n6_ := Ax (below_step (bw6 HB.out GE243.out GE244.out GE248.out GE252.out GE256.out GE260.out) hb)
       clear BK243
       clear BK244
       clear BK248
       clear BK252
       clear BK256
       clear BK260
       clear HB
       have BK243 := n0_
       have BK244 := n1_
       have BK248 := n2_
       have BK252 := n3_
       have BK256 := n4_
       have BK260 := n5_
       have HB := n6_
       clear n0_ n1_ n2_ n3_ n4_ n5_ n6_
       (try clear hb)
       (try clear hb2)
       (try clear hk)
       (try clear hi)
       refine hK.out _ _ ⟨(blk_cell BK243.out 0).trans rfl, (blk_cell BK243.out 1).trans rfl, (blk_cell BK244.out 0).trans rfl, (blk_cell BK244.out 1).trans rfl, (blk_cell BK248.out 0).trans rfl, (blk_cell BK248.out 1).trans rfl, (blk_cell BK252.out 0).trans rfl, (blk_cell BK252.out 1).trans rfl, (blk_cell BK256.out 0).trans rfl, (blk_cell BK256.out 1).trans rfl, (blk_cell BK260.out 0).trans rfl, (blk_cell BK260.out 1).trans rfl⟩ (fun hHeld => ?_)
       clear hK K
       refine norm_ (a' := ?_) ?_ ?_
       rotate_left
       ·show Act.put _ (some 43) _ = _
        simp only [sP]
        rfl
       refine one_ (i := 7) (N := some 46) #[tr,tr,tr,tr,tr,tr,tr,tr,fa,fa,fa,fa,fa,fa,fa,fa,fa,fa,fa,fa,fa,fa,fa,fa,fa,fa,fa,fa,fa,fa,fa,fa,fa,fa,fa,fa,fa,fa,fa,fa] rfl rfl (one_of HT_.out (by kernel_rfl)) (by decide) (fun K hK => ?_)
       refine goes_ Try.func13 (by kernel_rfl) rfl #[.bool a0, .agg #[.int .u64 a1_0, .int .u64 a1_1]] (by rfl) rfl rfl gS ?_
       with_reducible refine (spoorref09_Right.calls a0 a1_0 a1_1 t263 _ A11.out).mono ?_
       rintro e w56 ⟨rfl, hb⟩
       refine ⟨_, rfl, ?_⟩
       have n0_ := Ax (blk_below (g := gb243) (o := .cells #[.int .u64 a1_0, .int .u64 a1_1] 24 (0, 0)) (bf0 BK243.out) hb)
       have n1_ := Ax (blk_below (g := gb244) (o := .cells #[.int .u64 a2_0, .int .u64 a2_1] 24 (0, 0)) (bf0 BK244.out) hb)
       have n2_ := Ax (blk_below (g := gb248) (o := .cells #[.int .u64 t245, .int .u64 t246] 24 (0, 0)) (bf0 BK248.out) hb)
       have n3_ := Ax (blk_below (g := gb252) (o := .cells #[.int .u64 t249, .int .u64 t250] 24 (0, 0)) (bf0 BK252.out) hb)
       have n4_ := Ax (blk_below (g := gb256) (o := .cells #[.int .u64 t253, .int .u64 t254] 24 (0, 0)) (bf0 BK256.out) hb)
       have n5_ := Ax (blk_below (g := gb260) (o := .cells #[.int .u64 t257, .int .u64 t258] 24 (0, 0)) (bf0 BK260.out) hb)
       have n6_ := Ax (below_step (bw6 HB.out GE243.out GE244.out GE248.out GE252.out GE256.out GE260.out) hb)
       clear BK243
       clear BK244
       clear BK248
       clear BK252
       clear BK256
       clear BK260
       clear HB
       have BK243 := n0_
       have BK244 := n1_
       have BK248 := n2_
       have BK252 := n3_
       have BK256 := n4_
       have BK260 := n5_
       have HB := n6_
       clear n0_ n1_ n2_ n3_ n4_ n5_ n6_
       (try clear hb)
       (try clear hb2)
       (try clear hk)
       (try clear hi)
       refine hK.out _ _ ⟨(blk_cell BK243.out 0).trans rfl, (blk_cell BK243.out 1).trans rfl, (blk_cell BK244.out 0).trans rfl, (blk_cell BK244.out 1).trans rfl, (blk_cell BK248.out 0).trans rfl, (blk_cell BK248.out 1).trans rfl, (blk_cell BK252.out 0).trans rfl, (blk_cell BK252.out 1).trans rfl, (blk_cell BK256.out 0).trans rfl, (blk_cell BK256.out 1).trans rfl, (blk_cell BK260.out 0).trans rfl, (blk_cell BK260.out 1).trans rfl⟩ (fun hHeld => ?_)
       clear hK K
       refine norm_ (a' := ?_) ?_ ?_
       rotate_left
       ·show Act.put _ (some 46) _ = _
        simp only [sP]
        rfl
       refine pure_ (i := 8) (N := some 47) (v := ?_) (a' := ?_) #[tr,tr,tr,tr,tr,tr,tr,tr,tr,fa,fa,fa,fa,fa,fa,fa,fa,fa,fa,fa,fa,fa,fa,fa,fa,fa,fa,fa,fa,fa,fa,fa,fa,fa,fa,fa,fa,fa,fa,fa] rfl rfl (any_of HT_.out (by kernel_rfl)) (fun _ _ _ h => h) (Or.inl ⟨by rfl, ?_⟩) ?_ ?_
       rotate_left
       ·intro w'
        go_simp
        with_reducible rfl
       rotate_left
       ·simp only [sP]
        rfl
       refine pure_ (i := 9) (N := some 48) (v := ?_) (a' := ?_) #[tr,tr,tr,tr,tr,tr,tr,tr,tr,tr,fa,fa,fa,fa,fa,fa,fa,fa,fa,fa,fa,fa,fa,fa,fa,fa,fa,fa,fa,fa,fa,fa,fa,fa,fa,fa,fa,fa,fa,fa] rfl rfl (any_of HT_.out (by kernel_rfl)) (fun _ _ _ h => h) (Or.inl ⟨by rfl, ?_⟩) ?_ ?_
       rotate_left
       ·intro w'
        go_simp
        with_reducible rfl
       rotate_left
       ·simp only [sP]
        rfl
       refine pure_ (i := 10) (N := some 49) (v := ?_) (a' := ?_) #[tr,tr,tr,tr,tr,tr,tr,tr,tr,tr,tr,fa,fa,fa,fa,fa,fa,fa,fa,fa,fa,fa,fa,fa,fa,fa,fa,fa,fa,fa,fa,fa,fa,fa,fa,fa,fa,fa,fa,fa] rfl rfl (any_of HT_.out (by kernel_rfl)) (fun _ _ _ h => h) (Or.inl ⟨by rfl, ?_⟩) ?_ ?_
       rotate_left
       ·intro w'
        go_simp
        with_reducible rfl
       rotate_left
       ·simp only [sP]
        rfl
       refine take_ (i := 11) (N := some 50) (v := ?_) (a' := ?_) #[tr,tr,tr,tr,tr,tr,tr,tr,tr,tr,tr,tr,fa,fa,fa,fa,fa,fa,fa,fa,fa,fa,fa,fa,fa,fa,fa,fa,fa,fa,fa,fa,fa,fa,fa,fa,fa,fa,fa,fa] rfl rfl (take_ofW HT_.out HW_.out (by kernel_rfl)) (fun _ _ _ h => h) (Or.inl ⟨by rfl, ?_⟩) hHeld ?_ ?_
       rotate_left
       ·rintro w' ⟨s0, s1, s2, s3, s4, s5, s6, s7, s8, s9, s10, s11⟩
        go_simp
        with_reducible rfl
       rotate_left
       ·simp only [sP]
        rfl
       refine take_ (i := 12) (N := some 51) (v := ?_) (a' := ?_) #[tr,tr,tr,tr,tr,tr,tr,tr,tr,tr,tr,tr,tr,fa,fa,fa,fa,fa,fa,fa,fa,fa,fa,fa,fa,fa,fa,fa,fa,fa,fa,fa,fa,fa,fa,fa,fa,fa,fa,fa] rfl rfl (take_ofW HT_.out HW_.out (by kernel_rfl)) (fun _ _ _ h => h) (Or.inl ⟨by rfl, ?_⟩) hHeld ?_ ?_
       rotate_left
       ·rintro w' ⟨s0, s1, s2, s3, s4, s5, s6, s7, s8, s9, s10, s11⟩
        go_simp
        with_reducible rfl
       rotate_left
       ·simp only [sP]
        rfl
       refine take_ (i := 14) (N := some 53) (v := ?_) (a' := ?_) #[tr,tr,tr,tr,tr,tr,tr,tr,tr,tr,tr,tr,tr,fa,tr,fa,fa,fa,fa,fa,fa,fa,fa,fa,fa,fa,fa,fa,fa,fa,fa,fa,fa,fa,fa,fa,fa,fa,fa,fa] rfl rfl (take_ofW HT_.out HW_.out (by kernel_rfl)) (fun _ _ _ h => h) (Or.inl ⟨by rfl, ?_⟩) hHeld ?_ ?_
       rotate_left
       ·rintro w' ⟨s0, s1, s2, s3, s4, s5, s6, s7, s8, s9, s10, s11⟩
        go_simp
        with_reducible rfl
       rotate_left
       ·simp only [sP]
        rfl
       refine take_ (i := 15) (N := some 54) (v := ?_) (a' := ?_) #[tr,tr,tr,tr,tr,tr,tr,tr,tr,tr,tr,tr,tr,fa,tr,tr,fa,fa,fa,fa,fa,fa,fa,fa,fa,fa,fa,fa,fa,fa,fa,fa,fa,fa,fa,fa,fa,fa,fa,fa] rfl rfl (take_ofW HT_.out HW_.out (by kernel_rfl)) (fun _ _ _ h => h) (Or.inl ⟨by rfl, ?_⟩) hHeld ?_ ?_
       rotate_left
       ·rintro w' ⟨s0, s1, s2, s3, s4, s5, s6, s7, s8, s9, s10, s11⟩
        go_simp
        with_reducible rfl
       rotate_left
       ·simp only [sP]
        rfl
       refine one_ (i := 13) (N := some 52) #[tr,tr,tr,tr,tr,tr,tr,tr,tr,tr,tr,tr,tr,tr,tr,tr,fa,fa,fa,fa,fa,fa,fa,fa,fa,fa,fa,fa,fa,fa,fa,fa,fa,fa,fa,fa,fa,fa,fa,fa] rfl rfl (one_of HT_.out (by kernel_rfl)) (by decide) (fun K hK => ?_)
       refine goes_ Try.func14 (by kernel_rfl) rfl #[.agg #[.int .u64 a1_0, .int .u64 a1_1], .agg #[.int .u64 a2_0, .int .u64 a2_1]] (by rfl) rfl rfl gS ?_
       with_reducible refine (addr_Cmp.calls k a1_0 a1_1 a2_0 a2_1 t264 _ A13.out).mono ?_
       rintro e w57 ⟨rfl, hb⟩
       refine ⟨_, rfl, ?_⟩
       have n0_ := Ax (blk_below (g := gb243) (o := .cells #[.int .u64 a1_0, .int .u64 a1_1] 24 (0, 0)) (bf0 BK243.out) hb)
       have n1_ := Ax (blk_below (g := gb244) (o := .cells #[.int .u64 a2_0, .int .u64 a2_1] 24 (0, 0)) (bf0 BK244.out) hb)
       have n2_ := Ax (blk_below (g := gb248) (o := .cells #[.int .u64 t245, .int .u64 t246] 24 (0, 0)) (bf0 BK248.out) hb)
       have n3_ := Ax (blk_below (g := gb252) (o := .cells #[.int .u64 t249, .int .u64 t250] 24 (0, 0)) (bf0 BK252.out) hb)
       have n4_ := Ax (blk_below (g := gb256) (o := .cells #[.int .u64 t253, .int .u64 t254] 24 (0, 0)) (bf0 BK256.out) hb)
       have n5_ := Ax (blk_below (g := gb260) (o := .cells #[.int .u64 t257, .int .u64 t258] 24 (0, 0)) (bf0 BK260.out) hb)
       have n6_ := Ax (below_step (bw6 HB.out GE243.out GE244.out GE248.out GE252.out GE256.out GE260.out) hb)
       clear BK243
       clear BK244
       clear BK248
       clear BK252
       clear BK256
       clear BK260
       clear HB
       have BK243 := n0_
       have BK244 := n1_
       have BK248 := n2_
       have BK252 := n3_
       have BK256 := n4_
       have BK260 := n5_
       have HB := n6_
       clear n0_ n1_ n2_ n3_ n4_ n5_ n6_
       (try clear hb)
       (try clear hb2)
       (try clear hk)
       (try clear hi)
       refine hK.out _ _ ⟨(blk_cell BK243.out 0).trans rfl, (blk_cell BK243.out 1).trans rfl, (blk_cell BK244.out 0).trans rfl, (blk_cell BK244.out 1).trans rfl, (blk_cell BK248.out 0).trans rfl, (blk_cell BK248.out 1).trans rfl, (blk_cell BK252.out 0).trans rfl, (blk_cell BK252.out 1).trans rfl, (blk_cell BK256.out 0).trans rfl, (blk_cell BK256.out 1).trans rfl, (blk_cell BK260.out 0).trans rfl, (blk_cell BK260.out 1).trans rfl⟩ (fun hHeld => ?_)
       clear hK K
       refine norm_ (a' := ?_) ?_ ?_
       rotate_left
       ·show Act.put _ (some 52) _ = _
        simp only [sP]
        rfl
       refine one_ (i := 16) (N := some 55) #[tr,tr,tr,tr,tr,tr,tr,tr,tr,tr,tr,tr,tr,tr,tr,tr,tr,fa,fa,fa,fa,fa,fa,fa,fa,fa,fa,fa,fa,fa,fa,fa,fa,fa,fa,fa,fa,fa,fa,fa] rfl rfl (one_of HT_.out (by kernel_rfl)) (by decide) (fun K hK => ?_)
       refine goes_ Try.func15 (by kernel_rfl) rfl #[.agg #[.int .u64 a1_0, .int .u64 a1_1], .agg #[.int .u64 a2_0, .int .u64 a2_1]] (by rfl) rfl rfl gS ?_
       with_reducible refine (spoorref09_Cmp.calls k a1_0 a1_1 a2_0 a2_1 t265 _ A14.out).mono ?_
       rintro e w58 ⟨rfl, hb⟩
       refine ⟨_, rfl, ?_⟩
       have n0_ := Ax (blk_below (g := gb243) (o := .cells #[.int .u64 a1_0, .int .u64 a1_1] 24 (0, 0)) (bf0 BK243.out) hb)
       have n1_ := Ax (blk_below (g := gb244) (o := .cells #[.int .u64 a2_0, .int .u64 a2_1] 24 (0, 0)) (bf0 BK244.out) hb)
       have n2_ := Ax (blk_below (g := gb248) (o := .cells #[.int .u64 t245, .int .u64 t246] 24 (0, 0)) (bf0 BK248.out) hb)
       have n3_ := Ax (blk_below (g := gb252) (o := .cells #[.int .u64 t249, .int .u64 t250] 24 (0, 0)) (bf0 BK252.out) hb)
       have n4_ := Ax (blk_below (g := gb256) (o := .cells #[.int .u64 t253, .int .u64 t254] 24 (0, 0)) (bf0 BK256.out) hb)
       have n5_ := Ax (blk_below (g := gb260) (o := .cells #[.int .u64 t257, .int .u64 t258] 24 (0, 0)) (bf0 BK260.out) hb)
       have n6_ := Ax (below_step (bw6 HB.out GE243.out GE244.out GE248.out GE252.out GE256.out GE260.out) hb)
       clear BK243
       clear BK244
       clear BK248
       clear BK252
       clear BK256
       clear BK260
       clear HB
       have BK243 := n0_
       have BK244 := n1_
       have BK248 := n2_
       have BK252 := n3_
       have BK256 := n4_
       have BK260 := n5_
       have HB := n6_
       clear n0_ n1_ n2_ n3_ n4_ n5_ n6_
       (try clear hb)
       (try clear hb2)
       (try clear hk)
       (try clear hi)
       refine hK.out _ _ ⟨(blk_cell BK243.out 0).trans rfl, (blk_cell BK243.out 1).trans rfl, (blk_cell BK244.out 0).trans rfl, (blk_cell BK244.out 1).trans rfl, (blk_cell BK248.out 0).trans rfl, (blk_cell BK248.out 1).trans rfl, (blk_cell BK252.out 0).trans rfl, (blk_cell BK252.out 1).trans rfl, (blk_cell BK256.out 0).trans rfl, (blk_cell BK256.out 1).trans rfl, (blk_cell BK260.out 0).trans rfl, (blk_cell BK260.out 1).trans rfl⟩ (fun hHeld => ?_)
       clear hK K
       refine norm_ (a' := ?_) ?_ ?_
       rotate_left
       ·show Act.put _ (some 55) _ = _
        simp only [sP]
        rfl
       refine pure_ (i := 17) (N := some 56) (v := ?_) (a' := ?_) #[tr,tr,tr,tr,tr,tr,tr,tr,tr,tr,tr,tr,tr,tr,tr,tr,tr,tr,fa,fa,fa,fa,fa,fa,fa,fa,fa,fa,fa,fa,fa,fa,fa,fa,fa,fa,fa,fa,fa,fa] rfl rfl (any_of HT_.out (by kernel_rfl)) (fun _ _ _ h => h) (Or.inl ⟨by rfl, ?_⟩) ?_ ?_
       rotate_left
       ·intro w'
        go_simp
        with_reducible rfl
       rotate_left
       ·simp only [sP]
        rfl
       refine pure_ (i := 18) (N := some 57) (v := ?_) (a' := ?_) #[tr,tr,tr,tr,tr,tr,tr,tr,tr,tr,tr,tr,tr,tr,tr,tr,tr,tr,tr,fa,fa,fa,fa,fa,fa,fa,fa,fa,fa,fa,fa,fa,fa,fa,fa,fa,fa,fa,fa,fa] rfl rfl (any_of HT_.out (by kernel_rfl)) (fun _ _ _ h => h) (Or.inl ⟨by rfl, ?_⟩) ?_ ?_
       rotate_left
       ·intro w'
        go_simp
        with_reducible rfl
       rotate_left
       ·simp only [sP]
        rfl
       refine pure_ (i := 19) (N := some 58) (v := ?_) (a' := ?_) #[tr,tr,tr,tr,tr,tr,tr,tr,tr,tr,tr,tr,tr,tr,tr,tr,tr,tr,tr,tr,fa,fa,fa,fa,fa,fa,fa,fa,fa,fa,fa,fa,fa,fa,fa,fa,fa,fa,fa,fa] rfl rfl (any_of HT_.out (by kernel_rfl)) (fun _ _ _ h => h) (Or.inl ⟨by rfl, ?_⟩) ?_ ?_
       rotate_left
       ·intro w'
        go_simp
        with_reducible rfl
       rotate_left
       ·simp only [sP]
        rfl
       refine take_ (i := 20) (N := some 59) (v := ?_) (a' := ?_) #[tr,tr,tr,tr,tr,tr,tr,tr,tr,tr,tr,tr,tr,tr,tr,tr,tr,tr,tr,tr,tr,fa,fa,fa,fa,fa,fa,fa,fa,fa,fa,fa,fa,fa,fa,fa,fa,fa,fa,fa] rfl rfl (take_ofW HT_.out HW_.out (by kernel_rfl)) (fun _ _ _ h => h) (Or.inl ⟨by rfl, ?_⟩) hHeld ?_ ?_
       rotate_left
       ·rintro w' ⟨s0, s1, s2, s3, s4, s5, s6, s7, s8, s9, s10, s11⟩
        go_simp
        with_reducible rfl
       rotate_left
       ·simp only [sP]
        rfl
       refine take_ (i := 21) (N := some 60) (v := ?_) (a' := ?_) #[tr,tr,tr,tr,tr,tr,tr,tr,tr,tr,tr,tr,tr,tr,tr,tr,tr,tr,tr,tr,tr,tr,fa,fa,fa,fa,fa,fa,fa,fa,fa,fa,fa,fa,fa,fa,fa,fa,fa,fa] rfl rfl (take_ofW HT_.out HW_.out (by kernel_rfl)) (fun _ _ _ h => h) (Or.inl ⟨by rfl, ?_⟩) hHeld ?_ ?_
       rotate_left
       ·rintro w' ⟨s0, s1, s2, s3, s4, s5, s6, s7, s8, s9, s10, s11⟩
        go_simp
        with_reducible rfl
       rotate_left
       ·simp only [sP]
        rfl
       refine pure_ (i := 22) (N := some 61) (v := ?_) (a' := ?_) #[tr,tr,tr,tr,tr,tr,tr,tr,tr,tr,tr,tr,tr,tr,tr,tr,tr,tr,tr,tr,tr,tr,tr,fa,fa,fa,fa,fa,fa,fa,fa,fa,fa,fa,fa,fa,fa,fa,fa,fa] rfl rfl (any_of HT_.out (by kernel_rfl)) (fun _ _ _ h => h) (Or.inl ⟨by rfl, ?_⟩) ?_ ?_
       rotate_left
       ·intro w'
        go_simp
        with_reducible rfl
       rotate_left
       ·simp only [sP]
        rfl
       refine pure_ (i := 23) (N := some 62) (v := ?_) (a' := ?_) #[tr,tr,tr,tr,tr,tr,tr,tr,tr,tr,tr,tr,tr,tr,tr,tr,tr,tr,tr,tr,tr,tr,tr,tr,fa,fa,fa,fa,fa,fa,fa,fa,fa,fa,fa,fa,fa,fa,fa,fa] rfl rfl (any_of HT_.out (by kernel_rfl)) (fun _ _ _ h => h) (Or.inl ⟨by rfl, ?_⟩) ?_ ?_
       rotate_left
       ·intro w'
        go_simp
        with_reducible rfl
       rotate_left
       ·simp only [sP]
        rfl
       refine pure_ (i := 24) (N := some 63) (v := ?_) (a' := ?_) #[tr,tr,tr,tr,tr,tr,tr,tr,tr,tr,tr,tr,tr,tr,tr,tr,tr,tr,tr,tr,tr,tr,tr,tr,tr,fa,fa,fa,fa,fa,fa,fa,fa,fa,fa,fa,fa,fa,fa,fa] rfl rfl (any_of HT_.out (by kernel_rfl)) (fun _ _ _ h => h) (Or.inl ⟨by rfl, ?_⟩) ?_ ?_
       rotate_left
       ·intro w'
        go_simp
        with_reducible rfl
       rotate_left
       ·simp only [sP]
        rfl
       refine pure_ (i := 25) (N := some 64) (v := ?_) (a' := ?_) #[tr,tr,tr,tr,tr,tr,tr,tr,tr,tr,tr,tr,tr,tr,tr,tr,tr,tr,tr,tr,tr,tr,tr,tr,tr,tr,fa,fa,fa,fa,fa,fa,fa,fa,fa,fa,fa,fa,fa,fa] rfl rfl (any_of HT_.out (by kernel_rfl)) (fun _ _ _ h => h) (Or.inl ⟨by rfl, ?_⟩) ?_ ?_
       rotate_left
       ·intro w'
        go_simp
        with_reducible rfl
       rotate_left
       ·simp only [sP]
        rfl
       refine pure_ (i := 26) (N := some 65) (v := ?_) (a' := ?_) #[tr,tr,tr,tr,tr,tr,tr,tr,tr,tr,tr,tr,tr,tr,tr,tr,tr,tr,tr,tr,tr,tr,tr,tr,tr,tr,tr,fa,fa,fa,fa,fa,fa,fa,fa,fa,fa,fa,fa,fa] rfl rfl (any_of HT_.out (by kernel_rfl)) (fun _ _ _ h => h) (Or.inl ⟨by rfl, ?_⟩) ?_ ?_
       rotate_left
       ·intro w'
        go_simp
        with_reducible rfl
       rotate_left
       ·simp only [sP]
        rfl
       refine pure_ (i := 27) (N := some 66) (v := ?_) (a' := ?_) #[tr,tr,tr,tr,tr,tr,tr,tr,tr,tr,tr,tr,tr,tr,tr,tr,tr,tr,tr,tr,tr,tr,tr,tr,tr,tr,tr,tr,fa,fa,fa,fa,fa,fa,fa,fa,fa,fa,fa,fa] rfl rfl (any_of HT_.out (by kernel_rfl)) (fun _ _ _ h => h) (Or.inl ⟨by rfl, ?_⟩) ?_ ?_
       rotate_left
       ·intro w'
        go_simp
        with_reducible rfl
       rotate_left
       ·simp only [sP]
        rfl
       refine pure_ (i := 28) (N := some 67) (v := ?_) (a' := ?_) #[tr,tr,tr,tr,tr,tr,tr,tr,tr,tr,tr,tr,tr,tr,tr,tr,tr,tr,tr,tr,tr,tr,tr,tr,tr,tr,tr,tr,tr,fa,fa,fa,fa,fa,fa,fa,fa,fa,fa,fa] rfl rfl (any_of HT_.out (by kernel_rfl)) (fun _ _ _ h => h) (Or.inl ⟨by rfl, ?_⟩) ?_ ?_
       rotate_left
       ·intro w'
        go_simp
        with_reducible rfl
       rotate_left
       ·simp only [sP]
        rfl
       refine pure_ (i := 29) (N := some 68) (v := ?_) (a' := ?_) #[tr,tr,tr,tr,tr,tr,tr,tr,tr,tr,tr,tr,tr,tr,tr,tr,tr,tr,tr,tr,tr,tr,tr,tr,tr,tr,tr,tr,tr,tr,fa,fa,fa,fa,fa,fa,fa,fa,fa,fa] rfl rfl (any_of HT_.out (by kernel_rfl)) (fun _ _ _ h => h) (Or.inl ⟨by rfl, ?_⟩) ?_ ?_
       rotate_left
       ·intro w'
        go_simp
        with_reducible rfl
       rotate_left
       ·simp only [sP]
        rfl
       refine take_ (i := 30) (N := some 69) (v := ?_) (a' := ?_) #[tr,tr,tr,tr,tr,tr,tr,tr,tr,tr,tr,tr,tr,tr,tr,tr,tr,tr,tr,tr,tr,tr,tr,tr,tr,tr,tr,tr,tr,tr,tr,fa,fa,fa,fa,fa,fa,fa,fa,fa] rfl rfl (take_ofW HT_.out HW_.out (by kernel_rfl)) (fun _ _ _ h => h) (Or.inl ⟨by rfl, ?_⟩) hHeld ?_ ?_
       rotate_left
       ·rintro w' ⟨s0, s1, s2, s3, s4, s5, s6, s7, s8, s9, s10, s11⟩
        go_simp
        with_reducible rfl
       rotate_left
       ·simp only [sP]
        rfl
       refine take_ (i := 31) (N := some 70) (v := ?_) (a' := ?_) #[tr,tr,tr,tr,tr,tr,tr,tr,tr,tr,tr,tr,tr,tr,tr,tr,tr,tr,tr,tr,tr,tr,tr,tr,tr,tr,tr,tr,tr,tr,tr,tr,fa,fa,fa,fa,fa,fa,fa,fa] rfl rfl (take_ofW HT_.out HW_.out (by kernel_rfl)) (fun _ _ _ h => h) (Or.inl ⟨by rfl, ?_⟩) hHeld ?_ ?_
       rotate_left
       ·rintro w' ⟨s0, s1, s2, s3, s4, s5, s6, s7, s8, s9, s10, s11⟩
        go_simp
        with_reducible rfl
       rotate_left
       ·simp only [sP]
        rfl
       refine pure_ (i := 32) (N := some 71) (v := ?_) (a' := ?_) #[tr,tr,tr,tr,tr,tr,tr,tr,tr,tr,tr,tr,tr,tr,tr,tr,tr,tr,tr,tr,tr,tr,tr,tr,tr,tr,tr,tr,tr,tr,tr,tr,tr,fa,fa,fa,fa,fa,fa,fa] rfl rfl (any_of HT_.out (by kernel_rfl)) (fun _ _ _ h => h) (Or.inl ⟨by rfl, ?_⟩) ?_ ?_
       rotate_left
       ·intro w'
        go_simp
        with_reducible rfl
       rotate_left
       ·simp only [sP]
        rfl
       refine pure_ (i := 33) (N := some 72) (v := ?_) (a' := ?_) #[tr,tr,tr,tr,tr,tr,tr,tr,tr,tr,tr,tr,tr,tr,tr,tr,tr,tr,tr,tr,tr,tr,tr,tr,tr,tr,tr,tr,tr,tr,tr,tr,tr,tr,fa,fa,fa,fa,fa,fa] rfl rfl (any_of HT_.out (by kernel_rfl)) (fun _ _ _ h => h) (Or.inl ⟨by rfl, ?_⟩) ?_ ?_
       rotate_left
       ·intro w'
        go_simp
        with_reducible rfl
       rotate_left
       ·simp only [sP]
        rfl
       refine pure_ (i := 34) (N := some 73) (v := ?_) (a' := ?_) #[tr,tr,tr,tr,tr,tr,tr,tr,tr,tr,tr,tr,tr,tr,tr,tr,tr,tr,tr,tr,tr,tr,tr,tr,tr,tr,tr,tr,tr,tr,tr,tr,tr,tr,tr,fa,fa,fa,fa,fa] rfl rfl (any_of HT_.out (by kernel_rfl)) (fun _ _ _ h => h) (Or.inl ⟨by rfl, ?_⟩) ?_ ?_
       rotate_left
       ·intro w'
        go_simp
        with_reducible rfl
       rotate_left
       ·simp only [sP]
        rfl
       refine pure_ (i := 35) (N := some 74) (v := ?_) (a' := ?_) #[tr,tr,tr,tr,tr,tr,tr,tr,tr,tr,tr,tr,tr,tr,tr,tr,tr,tr,tr,tr,tr,tr,tr,tr,tr,tr,tr,tr,tr,tr,tr,tr,tr,tr,tr,tr,fa,fa,fa,fa] rfl rfl (any_of HT_.out (by kernel_rfl)) (fun _ _ _ h => h) (Or.inl ⟨by rfl, ?_⟩) ?_ ?_
       rotate_left
       ·intro w'
        go_simp
        with_reducible rfl
       rotate_left
       ·simp only [sP]
        rfl
       refine pure_ (i := 36) (N := some 75) (v := ?_) (a' := ?_) #[tr,tr,tr,tr,tr,tr,tr,tr,tr,tr,tr,tr,tr,tr,tr,tr,tr,tr,tr,tr,tr,tr,tr,tr,tr,tr,tr,tr,tr,tr,tr,tr,tr,tr,tr,tr,tr,fa,fa,fa] rfl rfl (any_of HT_.out (by kernel_rfl)) (fun _ _ _ h => h) (Or.inl ⟨by rfl, ?_⟩) ?_ ?_
       rotate_left
       ·intro w'
        go_simp
        with_reducible rfl
       rotate_left
       ·simp only [sP]
        rfl
       refine pure_ (i := 37) (N := some 76) (v := ?_) (a' := ?_) #[tr,tr,tr,tr,tr,tr,tr,tr,tr,tr,tr,tr,tr,tr,tr,tr,tr,tr,tr,tr,tr,tr,tr,tr,tr,tr,tr,tr,tr,tr,tr,tr,tr,tr,tr,tr,tr,tr,fa,fa] rfl rfl (any_of HT_.out (by kernel_rfl)) (fun _ _ _ h => h) (Or.inl ⟨by rfl, ?_⟩) ?_ ?_
       rotate_left
       ·intro w'
        go_simp
        with_reducible rfl
       rotate_left
       ·simp only [sP]
        rfl
       refine pure_ (i := 38) (N := some 77) (v := ?_) (a' := ?_) #[tr,tr,tr,tr,tr,tr,tr,tr,tr,tr,tr,tr,tr,tr,tr,tr,tr,tr,tr,tr,tr,tr,tr,tr,tr,tr,tr,tr,tr,tr,tr,tr,tr,tr,tr,tr,tr,tr,tr,fa] rfl rfl (any_of HT_.out (by kernel_rfl)) (fun _ _ _ h => h) (Or.inl ⟨by rfl, ?_⟩) ?_ ?_
       rotate_left
       ·intro w'
        go_simp
        with_reducible rfl
       rotate_left
       ·simp only [sP]
        rfl
       refine pure_ (i := 39) (N := some 6) (v := ?_) (a' := ?_) #[tr,tr,tr,tr,tr,tr,tr,tr,tr,tr,tr,tr,tr,tr,tr,tr,tr,tr,tr,tr,tr,tr,tr,tr,tr,tr,tr,tr,tr,tr,tr,tr,tr,tr,tr,tr,tr,tr,tr,tr] rfl rfl (any_of HT_.out (by kernel_rfl)) (fun _ _ _ h => h) (Or.inl ⟨by rfl, ?_⟩) ?_ ?_
       rotate_left
       ·intro w'
        go_simp
        with_reducible rfl
       rotate_left
       ·simp only [sP]
        rfl
       refine done_ (done_of HT_.out (by kernel_rfl)) ?_
       try go_wp2
       go_ret
       exact ⟨eS, bw6 HB.out GE243.out GE244.out GE248.out GE252.out GE256.out GE260.out⟩
      ·rw [if_neg c18] at H
       have c18b0 : (t253 == t257 && (t254 == t258)) = false := by simpa using c18
       (try (have c18b1 : decide (t253 = t257 && (t254 == t258)) = false := by simpa using c18))
       (try (have c18b2 : (t253 == t257 && (t254 == t258)) = false := by simpa using c18))
       (try (have c18b3 : ¬ (t253 = t257 && (t254 == t258)) := by simpa using c18))
       clear c18
       exact absurd H (by simp)
     ·rw [if_neg c17] at H
      have c17b0 : (t247 == t251) = false := beq_eq_false_iff_ne.mpr c17
      have c17b1 : (t247 != t251) = true := bne_iff_ne.mpr c17
      exact absurd H (by simp)
    ·rw [if_neg c16] at H
     have c16b0 : (t245 == t249 && (t246 == t250)) = false := by simpa using c16
     (try (have c16b1 : decide (t245 = t249 && (t246 == t250)) = false := by simpa using c16))
     (try (have c16b2 : (t245 == t249 && (t246 == t250)) = false := by simpa using c16))
     (try (have c16b3 : ¬ (t245 = t249 && (t246 == t250)) := by simpa using c16))
     clear c16
     exact absurd H (by simp)
   ·rw [if_neg c15] at H
    have c15b0 : (t264 == t265) = false := beq_eq_false_iff_ne.mpr c15
    have c15b1 : (t264 != t265) = true := bne_iff_ne.mpr c15
    exact absurd H (by simp)
  ·rw [if_neg c12] at H
   have c12b0 : (t262 == t263) = false := by simpa using c12
   (try (have c12b1 : decide (t262 = t263) = false := by simpa using c12))
   (try (have c12b2 : (t262 == t263) = false := by simpa using c12))
   (try (have c12b3 : ¬ (t262 = t263) := by simpa using c12))
   clear c12
   exact absurd H (by simp)
 ·replace c9 := Bool.eq_false_iff.mpr c9
  subst c9
  have H1 : (none) = some r := by rw [if_neg (show ¬ (false = true) by decide)] at H; exact H
  clear H
  have H := H1
  clear H1
  exact absurd H (by simp)

end Go.Proofs.Ytafclgjnomocdaa.Q
