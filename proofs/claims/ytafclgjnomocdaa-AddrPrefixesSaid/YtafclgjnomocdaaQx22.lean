-- Printed by this session's program wip/tools/mp.sh out of the translation.
import Derived.Test.YtafclgjnomocdaaQx0
import Derived.Test.YtafclgjnomocdaaQx1
import Derived.Test.YtafclgjnomocdaaQx2
import Derived.Test.YtafclgjnomocdaaQx8
import Derived.Test.YtafclgjnomocdaaQx10
import Derived.Test.YtafclgjnomocdaaQx12
import Derived.Test.YtafclgjnomocdaaQx16
import Derived.Test.YtafclgjnomocdaaQx17
import Derived.Test.YtafclgjnomocdaaQx18
import Derived.Test.YtafclgjnomocdaaQx20
import Derived.Test.YtafclgjnomocdaaQx21
namespace Go.Proofs.Ytafclgjnomocdaa.Q
open Go.RowKit Go.Proofs.YtafclgjnomocdaaW.PrintWords Go.Proofs.YtafclgjnomocdaaW.PrintLast Go.Proofs.YtafclgjnomocdaaW.PrintMore
attribute [local go_sem] max2_int min2_int max_two min_two max_three min_three max_four min_four   -- for this text's walks alone
set_option linter.unusedVariables false
set_option linter.unusedSimpArgs false

attribute [local go_sem high] eqA24 eqA33
/-! ### spoorref09_Covers: function 25 -/
def spoorref09_Covers.f (k : Nat) (a0_0 : Bool) (a0_1 : Int) (a0_2 : Int) (a0_3 : Int) (a1_0 : Bool) (a1_1 : Int) (a1_2 : Int) (a1_3 : Int) : Option (Bool) := (spoorref09_Check.f k a1_0 a1_1 a1_2 a1_3).bind fun t307 => (if t307 = 0 then ((spoorref09_Has.f k a0_0 a0_1 a0_2 a0_3 a1_0 a1_1 a1_2).bind fun t308 => (if t308 = true then (some (decide (a0_3 ≤ a1_3))) else (some false))) else (some false))
theorem spoorref09_Covers.mono : ∀ a0 a1 a2 a3 a4 a5 a6 a7 k, LeO (spoorref09_Covers.f k a0 a1 a2 a3 a4 a5 a6 a7) (spoorref09_Covers.f (k + 1) a0 a1 a2 a3 a4 a5 a6 a7) := by
 intro a0 a1 a2 a3 a4 a5 a6 a7 k
 unfold spoorref09_Covers.f
 repeat' first
   | (with_reducible exact spoorref09_Check.mono _ _ _ _ _)
   | (with_reducible exact spoorref09_Has.mono _ _ _ _ _ _ _ _)
   | (with_reducible exact LeO.refl _)
   | (with_reducible exact LeO.none _)
   | (with_reducible refine LeO.ite ?_ ?_)
   | (with_reducible refine LeO.bind ?_ (fun _ => ?_))
   | exact spoorref09_Check.mono _ _ _ _ _
   | exact spoorref09_Has.mono _ _ _ _ _ _ _ _
   | exact LeO.none _
   | refine LeO.ite ?_ ?_
   | refine LeO.bind ?_ (fun _ => ?_)

/-! ### spoorref09_Covers: function 25 -/
set_option maxHeartbeats 8000000 in
set_option maxRecDepth 100000 in
theorem spoorref09_Covers.calls (k : Nat) (a0_0 : Bool) (a0_1 : Int) (a0_2 : Int) (a0_3 : Int) (a1_0 : Bool) (a1_1 : Int) (a1_2 : Int) (a1_3 : Int) (r : Bool) (w : World) (h : spoorref09_Covers.f k a0_0 a0_1 a0_2 a0_3 a1_0 a1_1 a1_2 a1_3 = some r) :
  Calls Try.prog 25 #[.agg #[.bool a0_0, .int .u64 a0_1, .int .u64 a0_2, .int .i64 a0_3], .agg #[.bool a1_0, .int .u64 a1_1, .int .u64 a1_2, .int .i64 a1_3]] w fun e w' => e = .returned (.bool r) ∧ Below w.heap.size w w' := by
 have hu33 := Try.underlying33
 have hu24 := Try.underlying24
 have HB := Ax (Below.refl w.heap.size w)
 have H : ((spoorref09_Check.f k a1_0 a1_1 a1_2 a1_3).bind fun t307 => (if t307 = 0 then ((spoorref09_Has.f k a0_0 a0_1 a0_2 a0_3 a1_0 a1_1 a1_2).bind fun t308 => (if t308 = true then (some (decide (a0_3 ≤ a1_3))) else (some false))) else (some false))) = some r := h
 clear h
 replace H := Option.bind_eq_some_iff.mp H
 obtain ⟨t307, A30, H⟩ := H
 replace H : (if t307 = 0 then ((spoorref09_Has.f k a0_0 a0_1 a0_2 a0_3 a1_0 a1_1 a1_2).bind fun t308 => (if t308 = true then (some (decide (a0_3 ≤ a1_3))) else (some false))) else (some false)) = some r := H
 have A3 := Ax A30
 clear A30
 by_cases c4 : t307 = 0
 ·rw [if_pos c4] at H
  have c4b0 : (t307 == 0) = true := beq_iff_eq.mpr c4
  have c4b1 : (t307 != 0) = false := bne_eq_false_iff_eq.mpr c4
  clear c4
  replace H := Option.bind_eq_some_iff.mp H
  obtain ⟨t308, A50, H⟩ := H
  replace H : (if t308 = true then (some (decide (a0_3 ≤ a1_3))) else (some false)) = some r := H
  have A5 := Ax A50
  clear A50
  by_cases c6 : t308 = true
  ·subst c6
   have H1 : (some (decide (a0_3 ≤ a1_3))) = some r := by rw [if_pos rfl] at H; exact H
   clear H
   have H := H1
   clear H1
   obtain rfl := Option.some.inj H
   go_enter Try.func25, Try.ntmps25
   go_wp2_with (first | ((with_reducible refine gate_dst (N := 2) rfl ?_); refine box_event ?hg (N := 2) ?hd (cs := #[.bool a0_0, .int .u64 a0_1, .int .u64 a0_2, .int .i64 a0_3]) (t := 33) ?hr ?_; (case hd => rfl); (case hg => rfl); (case hr => first | (go_simp; done) | (go_simp; rfl)); intro gb305 hg w7 hbox hb; have n0_ := Ax (below_step (bw0 HB.out) hb); have n1_ := Ax (hbox); have n2_ := Ax ((by rw [hg]; exact (below_size (bw0 HB.out)) : w.heap.size ≤ gb305)); have n3_ := Ax ((by rw [hg]; exact (below_size (bw0 HB.out)) : w.heap.size ≤ gb305)); clear HB; have HB := n0_; have BK305 := n1_; have GW305 := n2_; have GE305 := n3_; clear n0_ n1_ n2_ n3_; clear hb hbox hg) | ((with_reducible refine gate_dst (N := 3) rfl ?_); refine box_event ?hg (N := 3) ?hd (cs := #[.bool a1_0, .int .u64 a1_1, .int .u64 a1_2, .int .i64 a1_3]) (t := 33) ?hr ?_; (case hd => rfl); (case hg => rfl); (case hr => first | (go_simp; done) | (go_simp; rfl)); intro gb306 hg w8 hbox hb; have n0_ := Ax (blk_below (g := gb305) (o := .cells #[.bool a0_0, .int .u64 a0_1, .int .u64 a0_2, .int .i64 a0_3] 33 (0, 0)) (bf0 BK305.out) hb); have n1_ := Ax (below_step (bw1 HB.out GE305.out) hb); have n2_ := Ax (hbox); have n3_ := Ax ((by rw [hg]; exact (below_size (bw1 HB.out GE305.out)) : w.heap.size ≤ gb306)); have n4_ := Ax ((by rw [hg]; exact (below_size (bw1 HB.out GE305.out)) : w.heap.size ≤ gb306)); have n5_ := Ax ((by rw [hg]; exact Nat.ne_of_lt (blk_lt (g := gb305) (o := .cells #[.bool a0_0, .int .u64 a0_1, .int .u64 a0_2, .int .i64 a0_3] 33 (0, 0)) (bf0 BK305.out)) : gb305 ≠ gb306)); have n6_ := Ax ((by rw [hg]; exact Nat.ne_of_gt (blk_lt (g := gb305) (o := .cells #[.bool a0_0, .int .u64 a0_1, .int .u64 a0_2, .int .i64 a0_3] 33 (0, 0)) (bf0 BK305.out)) : gb306 ≠ gb305)); clear BK305; clear HB; have BK305 := n0_; have HB := n1_; have BK306 := n2_; have GW306 := n3_; have GE306 := n4_; have NB305_306 := n5_; have NB306_305 := n6_; clear n0_ n1_ n2_ n3_ n4_ n5_ n6_; clear hb hbox hg; have hnb9 := NB306_305.out; have hnc9 := NB305_306.out; have hcz10_0 : w8.cell? ⟨gb306, 0, none⟩ = some (.bool a1_0) := (blk_cell BK306.out 0).trans rfl; have hcz10_1 : w8.cell? ⟨gb306, 1, none⟩ = some (.int .u64 a1_1) := (blk_cell BK306.out 1).trans rfl; have hcz10_2 : w8.cell? ⟨gb306, 2, none⟩ = some (.int .u64 a1_2) := (blk_cell BK306.out 2).trans rfl; have hcz10_3 : w8.cell? ⟨gb306, 3, none⟩ = some (.int .i64 a1_3) := (blk_cell BK306.out 3).trans rfl; have hfz10_0 := blk_frozen BK306.out 0; have hfz10_1 := blk_frozen BK306.out 1; have hfz10_2 := blk_frozen BK306.out 2; have hfz10_3 := blk_frozen BK306.out 3) | ((with_reducible refine gate_callee (f := 21) rfl ?_); refine goesL_ (some 6) rfl rfl Try.func21 (by kernel_rfl) rfl #[.agg #[.bool a1_0, .int .u64 a1_1, .int .u64 a1_2, .int .i64 a1_3]] rfl gS ?_; (with_reducible refine (spoorref09_Check.calls k a1_0 a1_1 a1_2 a1_3 t307 _ A3.out).mono ?_); rintro e w11 ⟨rfl, hb⟩; refine ⟨_, rfl, ?_⟩; have n0_ := Ax (blk_below (g := gb305) (o := .cells #[.bool a0_0, .int .u64 a0_1, .int .u64 a0_2, .int .i64 a0_3] 33 (0, 0)) (bf0 BK305.out) hb); have n1_ := Ax (blk_below (g := gb306) (o := .cells #[.bool a1_0, .int .u64 a1_1, .int .u64 a1_2, .int .i64 a1_3] 33 (0, 0)) (bf0 BK306.out) hb); have n2_ := Ax (below_step (bw2 HB.out GE305.out GE306.out) hb); clear BK305; clear BK306; clear HB; have BK305 := n0_; have BK306 := n1_; have HB := n2_; clear n0_ n1_ n2_; (try clear hb); (try clear hb2); (try clear hk); (try clear hi); have hcz12_0 : w11.cell? ⟨gb305, 0, none⟩ = some (.bool a0_0) := (blk_cell BK305.out 0).trans rfl; have hcz12_1 : w11.cell? ⟨gb305, 1, none⟩ = some (.int .u64 a0_1) := (blk_cell BK305.out 1).trans rfl; have hcz12_2 : w11.cell? ⟨gb305, 2, none⟩ = some (.int .u64 a0_2) := (blk_cell BK305.out 2).trans rfl; have hcz12_3 : w11.cell? ⟨gb305, 3, none⟩ = some (.int .i64 a0_3) := (blk_cell BK305.out 3).trans rfl; have hfz12_0 := blk_frozen BK305.out 0; have hfz12_1 := blk_frozen BK305.out 1; have hfz12_2 := blk_frozen BK305.out 2; have hfz12_3 := blk_frozen BK305.out 3; have hcz13_0 : w11.cell? ⟨gb306, 0, none⟩ = some (.bool a1_0) := (blk_cell BK306.out 0).trans rfl; have hcz13_1 : w11.cell? ⟨gb306, 1, none⟩ = some (.int .u64 a1_1) := (blk_cell BK306.out 1).trans rfl; have hcz13_2 : w11.cell? ⟨gb306, 2, none⟩ = some (.int .u64 a1_2) := (blk_cell BK306.out 2).trans rfl; have hcz13_3 : w11.cell? ⟨gb306, 3, none⟩ = some (.int .i64 a1_3) := (blk_cell BK306.out 3).trans rfl; have hfz13_0 := blk_frozen BK306.out 0; have hfz13_1 := blk_frozen BK306.out 1; have hfz13_2 := blk_frozen BK306.out 2; have hfz13_3 := blk_frozen BK306.out 3) | (go_at_call 23; (with_reducible refine (spoorref09_Has.calls k a0_0 a0_1 a0_2 a0_3 a1_0 a1_1 a1_2 true _ A5.out).mono ?_); rintro e w14 ⟨rfl, hb⟩; have n0_ := Ax (blk_below (g := gb305) (o := .cells #[.bool a0_0, .int .u64 a0_1, .int .u64 a0_2, .int .i64 a0_3] 33 (0, 0)) (bf0 BK305.out) hb); have n1_ := Ax (blk_below (g := gb306) (o := .cells #[.bool a1_0, .int .u64 a1_1, .int .u64 a1_2, .int .i64 a1_3] 33 (0, 0)) (bf0 BK306.out) hb); have n2_ := Ax (below_step (bw2 HB.out GE305.out GE306.out) hb); clear BK305; clear BK306; clear HB; have BK305 := n0_; have BK306 := n1_; have HB := n2_; clear n0_ n1_ n2_; (try clear hb); (try clear hb2); (try clear hk); (try clear hi); have hcz15_0 : w14.cell? ⟨gb305, 0, none⟩ = some (.bool a0_0) := (blk_cell BK305.out 0).trans rfl; have hcz15_1 : w14.cell? ⟨gb305, 1, none⟩ = some (.int .u64 a0_1) := (blk_cell BK305.out 1).trans rfl; have hcz15_2 : w14.cell? ⟨gb305, 2, none⟩ = some (.int .u64 a0_2) := (blk_cell BK305.out 2).trans rfl; have hcz15_3 : w14.cell? ⟨gb305, 3, none⟩ = some (.int .i64 a0_3) := (blk_cell BK305.out 3).trans rfl; have hfz15_0 := blk_frozen BK305.out 0; have hfz15_1 := blk_frozen BK305.out 1; have hfz15_2 := blk_frozen BK305.out 2; have hfz15_3 := blk_frozen BK305.out 3; have hcz16_0 : w14.cell? ⟨gb306, 0, none⟩ = some (.bool a1_0) := (blk_cell BK306.out 0).trans rfl; have hcz16_1 : w14.cell? ⟨gb306, 1, none⟩ = some (.int .u64 a1_1) := (blk_cell BK306.out 1).trans rfl; have hcz16_2 : w14.cell? ⟨gb306, 2, none⟩ = some (.int .u64 a1_2) := (blk_cell BK306.out 2).trans rfl; have hcz16_3 : w14.cell? ⟨gb306, 3, none⟩ = some (.int .i64 a1_3) := (blk_cell BK306.out 3).trans rfl; have hfz16_0 := blk_frozen BK306.out 0; have hfz16_1 := blk_frozen BK306.out 1; have hfz16_2 := blk_frozen BK306.out 2; have hfz16_3 := blk_frozen BK306.out 3))
   go_ret
   exact ⟨eS, bw2 HB.out GE305.out GE306.out⟩
  ·replace c6 := Bool.eq_false_iff.mpr c6
   subst c6
   have H1 : (some false) = some r := by rw [if_neg (show ¬ (false = true) by decide)] at H; exact H
   clear H
   have H := H1
   clear H1
   obtain rfl := Option.some.inj H
   go_enter Try.func25, Try.ntmps25
   go_wp2_with (first | ((with_reducible refine gate_dst (N := 2) rfl ?_); refine box_event ?hg (N := 2) ?hd (cs := #[.bool a0_0, .int .u64 a0_1, .int .u64 a0_2, .int .i64 a0_3]) (t := 33) ?hr ?_; (case hd => rfl); (case hg => rfl); (case hr => first | (go_simp; done) | (go_simp; rfl)); intro gb305 hg w17 hbox hb; have n0_ := Ax (below_step (bw0 HB.out) hb); have n1_ := Ax (hbox); have n2_ := Ax ((by rw [hg]; exact (below_size (bw0 HB.out)) : w.heap.size ≤ gb305)); have n3_ := Ax ((by rw [hg]; exact (below_size (bw0 HB.out)) : w.heap.size ≤ gb305)); clear HB; have HB := n0_; have BK305 := n1_; have GW305 := n2_; have GE305 := n3_; clear n0_ n1_ n2_ n3_; clear hb hbox hg) | ((with_reducible refine gate_dst (N := 3) rfl ?_); refine box_event ?hg (N := 3) ?hd (cs := #[.bool a1_0, .int .u64 a1_1, .int .u64 a1_2, .int .i64 a1_3]) (t := 33) ?hr ?_; (case hd => rfl); (case hg => rfl); (case hr => first | (go_simp; done) | (go_simp; rfl)); intro gb306 hg w18 hbox hb; have n0_ := Ax (blk_below (g := gb305) (o := .cells #[.bool a0_0, .int .u64 a0_1, .int .u64 a0_2, .int .i64 a0_3] 33 (0, 0)) (bf0 BK305.out) hb); have n1_ := Ax (below_step (bw1 HB.out GE305.out) hb); have n2_ := Ax (hbox); have n3_ := Ax ((by rw [hg]; exact (below_size (bw1 HB.out GE305.out)) : w.heap.size ≤ gb306)); have n4_ := Ax ((by rw [hg]; exact (below_size (bw1 HB.out GE305.out)) : w.heap.size ≤ gb306)); have n5_ := Ax ((by rw [hg]; exact Nat.ne_of_lt (blk_lt (g := gb305) (o := .cells #[.bool a0_0, .int .u64 a0_1, .int .u64 a0_2, .int .i64 a0_3] 33 (0, 0)) (bf0 BK305.out)) : gb305 ≠ gb306)); have n6_ := Ax ((by rw [hg]; exact Nat.ne_of_gt (blk_lt (g := gb305) (o := .cells #[.bool a0_0, .int .u64 a0_1, .int .u64 a0_2, .int .i64 a0_3] 33 (0, 0)) (bf0 BK305.out)) : gb306 ≠ gb305)); clear BK305; clear HB; have BK305 := n0_; have HB := n1_; have BK306 := n2_; have GW306 := n3_; have GE306 := n4_; have NB305_306 := n5_; have NB306_305 := n6_; clear n0_ n1_ n2_ n3_ n4_ n5_ n6_; clear hb hbox hg; have hnb19 := NB306_305.out; have hnc19 := NB305_306.out; have hcz20_0 : w18.cell? ⟨gb306, 0, none⟩ = some (.bool a1_0) := (blk_cell BK306.out 0).trans rfl; have hcz20_1 : w18.cell? ⟨gb306, 1, none⟩ = some (.int .u64 a1_1) := (blk_cell BK306.out 1).trans rfl; have hcz20_2 : w18.cell? ⟨gb306, 2, none⟩ = some (.int .u64 a1_2) := (blk_cell BK306.out 2).trans rfl; have hcz20_3 : w18.cell? ⟨gb306, 3, none⟩ = some (.int .i64 a1_3) := (blk_cell BK306.out 3).trans rfl; have hfz20_0 := blk_frozen BK306.out 0; have hfz20_1 := blk_frozen BK306.out 1; have hfz20_2 := blk_frozen BK306.out 2; have hfz20_3 := blk_frozen BK306.out 3) | ((with_reducible refine gate_callee (f := 21) rfl ?_); refine goesL_ (some 6) rfl rfl Try.func21 (by kernel_rfl) rfl #[.agg #[.bool a1_0, .int .u64 a1_1, .int .u64 a1_2, .int .i64 a1_3]] rfl gS ?_; (with_reducible refine (spoorref09_Check.calls k a1_0 a1_1 a1_2 a1_3 t307 _ A3.out).mono ?_); rintro e w21 ⟨rfl, hb⟩; refine ⟨_, rfl, ?_⟩; have n0_ := Ax (blk_below (g := gb305) (o := .cells #[.bool a0_0, .int .u64 a0_1, .int .u64 a0_2, .int .i64 a0_3] 33 (0, 0)) (bf0 BK305.out) hb); have n1_ := Ax (blk_below (g := gb306) (o := .cells #[.bool a1_0, .int .u64 a1_1, .int .u64 a1_2, .int .i64 a1_3] 33 (0, 0)) (bf0 BK306.out) hb); have n2_ := Ax (below_step (bw2 HB.out GE305.out GE306.out) hb); clear BK305; clear BK306; clear HB; have BK305 := n0_; have BK306 := n1_; have HB := n2_; clear n0_ n1_ n2_; (try clear hb); (try clear hb2); (try clear hk); (try clear hi); have hcz22_0 : w21.cell? ⟨gb305, 0, none⟩ = some (.bool a0_0) := (blk_cell BK305.out 0).trans rfl; have hcz22_1 : w21.cell? ⟨gb305, 1, none⟩ = some (.int .u64 a0_1) := (blk_cell BK305.out 1).trans rfl; have hcz22_2 : w21.cell? ⟨gb305, 2, none⟩ = some (.int .u64 a0_2) := (blk_cell BK305.out 2).trans rfl; have hcz22_3 : w21.cell? ⟨gb305, 3, none⟩ = some (.int .i64 a0_3) := (blk_cell BK305.out 3).trans rfl; have hfz22_0 := blk_frozen BK305.out 0; have hfz22_1 := blk_frozen BK305.out 1; have hfz22_2 := blk_frozen BK305.out 2; have hfz22_3 := blk_frozen BK305.out 3; have hcz23_0 : w21.cell? ⟨gb306, 0, none⟩ = some (.bool a1_0) := (blk_cell BK306.out 0).trans rfl; have hcz23_1 : w21.cell? ⟨gb306, 1, none⟩ = some (.int .u64 a1_1) := (blk_cell BK306.out 1).trans rfl; have hcz23_2 : w21.cell? ⟨gb306, 2, none⟩ = some (.int .u64 a1_2) := (blk_cell BK306.out 2).trans rfl; have hcz23_3 : w21.cell? ⟨gb306, 3, none⟩ = some (.int .i64 a1_3) := (blk_cell BK306.out 3).trans rfl; have hfz23_0 := blk_frozen BK306.out 0; have hfz23_1 := blk_frozen BK306.out 1; have hfz23_2 := blk_frozen BK306.out 2; have hfz23_3 := blk_frozen BK306.out 3) | (go_at_call 23; (with_reducible refine (spoorref09_Has.calls k a0_0 a0_1 a0_2 a0_3 a1_0 a1_1 a1_2 false _ A5.out).mono ?_); rintro e w24 ⟨rfl, hb⟩; have n0_ := Ax (blk_below (g := gb305) (o := .cells #[.bool a0_0, .int .u64 a0_1, .int .u64 a0_2, .int .i64 a0_3] 33 (0, 0)) (bf0 BK305.out) hb); have n1_ := Ax (blk_below (g := gb306) (o := .cells #[.bool a1_0, .int .u64 a1_1, .int .u64 a1_2, .int .i64 a1_3] 33 (0, 0)) (bf0 BK306.out) hb); have n2_ := Ax (below_step (bw2 HB.out GE305.out GE306.out) hb); clear BK305; clear BK306; clear HB; have BK305 := n0_; have BK306 := n1_; have HB := n2_; clear n0_ n1_ n2_; (try clear hb); (try clear hb2); (try clear hk); (try clear hi)))
   go_ret
   exact ⟨eS, bw2 HB.out GE305.out GE306.out⟩
 ·rw [if_neg c4] at H
  have c4b0 : (t307 == 0) = false := beq_eq_false_iff_ne.mpr c4
  have c4b1 : (t307 != 0) = true := bne_iff_ne.mpr c4
  obtain rfl := Option.some.inj H
  go_enter Try.func25, Try.ntmps25
  go_wp2_with (first | ((with_reducible refine gate_dst (N := 2) rfl ?_); refine box_event ?hg (N := 2) ?hd (cs := #[.bool a0_0, .int .u64 a0_1, .int .u64 a0_2, .int .i64 a0_3]) (t := 33) ?hr ?_; (case hd => rfl); (case hg => rfl); (case hr => first | (go_simp; done) | (go_simp; rfl)); intro gb305 hg w25 hbox hb; have n0_ := Ax (below_step (bw0 HB.out) hb); have n1_ := Ax (hbox); have n2_ := Ax ((by rw [hg]; exact (below_size (bw0 HB.out)) : w.heap.size ≤ gb305)); have n3_ := Ax ((by rw [hg]; exact (below_size (bw0 HB.out)) : w.heap.size ≤ gb305)); clear HB; have HB := n0_; have BK305 := n1_; have GW305 := n2_; have GE305 := n3_; clear n0_ n1_ n2_ n3_; clear hb hbox hg) | ((with_reducible refine gate_dst (N := 3) rfl ?_); refine box_event ?hg (N := 3) ?hd (cs := #[.bool a1_0, .int .u64 a1_1, .int .u64 a1_2, .int .i64 a1_3]) (t := 33) ?hr ?_; (case hd => rfl); (case hg => rfl); (case hr => first | (go_simp; done) | (go_simp; rfl)); intro gb306 hg w26 hbox hb; have n0_ := Ax (blk_below (g := gb305) (o := .cells #[.bool a0_0, .int .u64 a0_1, .int .u64 a0_2, .int .i64 a0_3] 33 (0, 0)) (bf0 BK305.out) hb); have n1_ := Ax (below_step (bw1 HB.out GE305.out) hb); have n2_ := Ax (hbox); have n3_ := Ax ((by rw [hg]; exact (below_size (bw1 HB.out GE305.out)) : w.heap.size ≤ gb306)); have n4_ := Ax ((by rw [hg]; exact (below_size (bw1 HB.out GE305.out)) : w.heap.size ≤ gb306)); have n5_ := Ax ((by rw [hg]; exact Nat.ne_of_lt (blk_lt (g := gb305) (o := .cells #[.bool a0_0, .int .u64 a0_1, .int .u64 a0_2, .int .i64 a0_3] 33 (0, 0)) (bf0 BK305.out)) : gb305 ≠ gb306)); have n6_ := Ax ((by rw [hg]; exact Nat.ne_of_gt (blk_lt (g := gb305) (o := .cells #[.bool a0_0, .int .u64 a0_1, .int .u64 a0_2, .int .i64 a0_3] 33 (0, 0)) (bf0 BK305.out)) : gb306 ≠ gb305)); clear BK305; clear HB; have BK305 := n0_; have HB := n1_; have BK306 := n2_; have GW306 := n3_; have GE306 := n4_; have NB305_306 := n5_; have NB306_305 := n6_; clear n0_ n1_ n2_ n3_ n4_ n5_ n6_; clear hb hbox hg; have hnb27 := NB306_305.out; have hnc27 := NB305_306.out; have hcz28_0 : w26.cell? ⟨gb306, 0, none⟩ = some (.bool a1_0) := (blk_cell BK306.out 0).trans rfl; have hcz28_1 : w26.cell? ⟨gb306, 1, none⟩ = some (.int .u64 a1_1) := (blk_cell BK306.out 1).trans rfl; have hcz28_2 : w26.cell? ⟨gb306, 2, none⟩ = some (.int .u64 a1_2) := (blk_cell BK306.out 2).trans rfl; have hcz28_3 : w26.cell? ⟨gb306, 3, none⟩ = some (.int .i64 a1_3) := (blk_cell BK306.out 3).trans rfl; have hfz28_0 := blk_frozen BK306.out 0; have hfz28_1 := blk_frozen BK306.out 1; have hfz28_2 := blk_frozen BK306.out 2; have hfz28_3 := blk_frozen BK306.out 3) | ((with_reducible refine gate_callee (f := 21) rfl ?_); refine goesL_ (some 6) rfl rfl Try.func21 (by kernel_rfl) rfl #[.agg #[.bool a1_0, .int .u64 a1_1, .int .u64 a1_2, .int .i64 a1_3]] rfl gS ?_; (with_reducible refine (spoorref09_Check.calls k a1_0 a1_1 a1_2 a1_3 t307 _ A3.out).mono ?_); rintro e w29 ⟨rfl, hb⟩; refine ⟨_, rfl, ?_⟩; have n0_ := Ax (blk_below (g := gb305) (o := .cells #[.bool a0_0, .int .u64 a0_1, .int .u64 a0_2, .int .i64 a0_3] 33 (0, 0)) (bf0 BK305.out) hb); have n1_ := Ax (blk_below (g := gb306) (o := .cells #[.bool a1_0, .int .u64 a1_1, .int .u64 a1_2, .int .i64 a1_3] 33 (0, 0)) (bf0 BK306.out) hb); have n2_ := Ax (below_step (bw2 HB.out GE305.out GE306.out) hb); clear BK305; clear BK306; clear HB; have BK305 := n0_; have BK306 := n1_; have HB := n2_; clear n0_ n1_ n2_; (try clear hb); (try clear hb2); (try clear hk); (try clear hi)))
  go_ret
  exact ⟨eS, bw2 HB.out GE305.out GE306.out⟩

/-! ### spoorlaw09_AddrPrefixes: function 4 -/
def spoorlaw09_AddrPrefixes.f (k : Nat) (a0_0 : Bool) (a0_1 : Int) (a0_2 : Int) (a0_3 : Int) (a1_0 : Bool) (a1_1 : Int) (a1_2 : Int) (a1_3 : Int) (a2 : Bool) (a3_0 : Int) (a3_1 : Int) : Option (Bool) := (addr_Last.f k a0_0 a0_1 a0_2 a0_3).bind fun bt312 => ((spoorref09_Last.f k a0_0 a0_1 a0_2 a0_3).bind fun bt316 => ((addr_Halves.f k a0_0 a0_1 a0_2 a0_3).bind fun bt320 => ((spoorref09_Halves.f k a0_0 a0_1 a0_2 a0_3).bind fun bt331 => ((spoorlaw09_steps.f k).bind fun t342 => (if t342 = true then ((addr_Check.f k a0_0 a0_1 a0_2 a0_3).bind fun t343 => ((spoorref09_Check.f k a0_0 a0_1 a0_2 a0_3).bind fun t344 => (if t343 = t344 then (if (bt312.1 == bt316.1 && (bt312.2.1 == bt316.2.1)) = true then (if bt312.2.2 = bt316.2.2 then (if (bt320.1 == bt331.1 && ((bt320.2.1 == bt331.2.1 && (bt320.2.2.1 == bt331.2.2.1)) && (bt320.2.2.2.1 == bt331.2.2.2.1))) = true then (if (bt320.2.2.2.2.1 == bt331.2.2.2.2.1 && ((bt320.2.2.2.2.2.1 == bt331.2.2.2.2.2.1 && (bt320.2.2.2.2.2.2.1 == bt331.2.2.2.2.2.2.1)) && (bt320.2.2.2.2.2.2.2.1 == bt331.2.2.2.2.2.2.2.1))) = true then (if bt320.2.2.2.2.2.2.2.2 = bt331.2.2.2.2.2.2.2.2 then ((addr_Has.f k a0_0 a0_1 a0_2 a0_3 a2 a3_0 a3_1).bind fun t345 => ((spoorref09_Has.f k a0_0 a0_1 a0_2 a0_3 a2 a3_0 a3_1).bind fun t346 => (if (t345 == t346) = true then ((addr_Covers.f k a0_0 a0_1 a0_2 a0_3 a1_0 a1_1 a1_2 a1_3).bind fun t347 => ((spoorref09_Covers.f k a0_0 a0_1 a0_2 a0_3 a1_0 a1_1 a1_2 a1_3).bind fun t348 => (some (t347 == t348)))) else (none)))) else (none)) else (none)) else (none)) else (none)) else (none)) else (none)))) else (none))))))
theorem spoorlaw09_AddrPrefixes.mono : ∀ a0 a1 a2 a3 a4 a5 a6 a7 a8 a9 a10 k, LeO (spoorlaw09_AddrPrefixes.f k a0 a1 a2 a3 a4 a5 a6 a7 a8 a9 a10) (spoorlaw09_AddrPrefixes.f (k + 1) a0 a1 a2 a3 a4 a5 a6 a7 a8 a9 a10) := by
 intro a0 a1 a2 a3 a4 a5 a6 a7 a8 a9 a10 k
 unfold spoorlaw09_AddrPrefixes.f
 repeat' first
   | (with_reducible exact addr_Check.mono _ _ _ _ _)
   | (with_reducible exact addr_Covers.mono _ _ _ _ _ _ _ _ _)
   | (with_reducible exact addr_Halves.mono _ _ _ _ _)
   | (with_reducible exact addr_Has.mono _ _ _ _ _ _ _ _)
   | (with_reducible exact addr_Last.mono _ _ _ _ _)
   | (with_reducible exact spoorlaw09_steps.mono _)
   | (with_reducible exact spoorref09_Check.mono _ _ _ _ _)
   | (with_reducible exact spoorref09_Covers.mono _ _ _ _ _ _ _ _ _)
   | (with_reducible exact spoorref09_Halves.mono _ _ _ _ _)
   | (with_reducible exact spoorref09_Has.mono _ _ _ _ _ _ _ _)
   | (with_reducible exact spoorref09_Last.mono _ _ _ _ _)
   | (with_reducible exact LeO.refl _)
   | (with_reducible exact LeO.none _)
   | (with_reducible refine LeO.ite ?_ ?_)
   | (with_reducible refine LeO.bind ?_ (fun _ => ?_))
   | exact addr_Check.mono _ _ _ _ _
   | exact addr_Covers.mono _ _ _ _ _ _ _ _ _
   | exact addr_Halves.mono _ _ _ _ _
   | exact addr_Has.mono _ _ _ _ _ _ _ _
   | exact addr_Last.mono _ _ _ _ _
   | exact spoorlaw09_steps.mono _
   | exact spoorref09_Check.mono _ _ _ _ _
   | exact spoorref09_Covers.mono _ _ _ _ _ _ _ _ _
   | exact spoorref09_Halves.mono _ _ _ _ _
   | exact spoorref09_Has.mono _ _ _ _ _ _ _ _
   | exact spoorref09_Last.mono _ _ _ _ _
   | exact LeO.none _
   | refine LeO.ite ?_ ?_
   | refine LeO.bind ?_ (fun _ => ?_)
def spoorlaw09_AddrPrefixes.T5 : Bool × List (List Nat × List Nat) := (true, [([], []), ([0, 0], [0]), ([1], [1]), ([2, 1, 1], [1, 2]), ([1], [1]), ([4, 3, 1], [1, 4]), ([3, 5, 1], [1, 3, 5]), ([1, 6], [1, 6]), ([7, 5], [7]), ([8], [8]), ([8], [8]), ([9, 10, 8], [8, 9, 10]), ([8, 11], [8, 11]), ([12, 8], [12]), ([13], [13]), ([13], [13]), ([14, 15, 13], [13, 14, 15]), ([13, 16], [13, 16]), ([17, 13], [17]), ([18], [18]), ([18], [18]), ([19, 20, 18], [18, 19, 20]), ([18, 21], [18, 21]), ([22, 18], [22]), ([23], [23]), ([23], [23]), ([24, 25, 23], [23, 24, 25]), ([23, 26], [23, 26]), ([27, 23], [27]), ([28], [28]), ([28], [28]), ([29, 30, 28], [28, 29, 30]), ([28, 31], [28, 31]), ([32, 28], [32]), ([33], [33]), ([33], [33]), ([33], [33]), ([34, 35, 36, 33, 33], [33, 34, 35, 36]), ([33], [33]), ([33], [33]), ([33], [33]), ([38, 39, 40, 37, 33], [33, 38, 39, 40]), ([37, 41, 33], [33, 37, 41]), ([33, 42], [33, 42]), ([43, 41], [43]), ([44], [44]), ([44], [44]), ([45, 46, 44, 44], [44, 45, 46]), ([44], [44]), ([44], [44]), ([48, 49, 47, 44], [44, 48, 49]), ([47, 50, 44], [44, 47, 50]), ([44, 51], [44, 51]), ([52, 50, 0, 1, 2, 3, 4, 5, 6, 7, 8, 9, 10, 11, 12, 13, 14, 15, 16, 17, 18, 19, 20, 21, 22, 23, 24, 25, 26, 27, 28, 29, 30, 31, 32, 33, 34, 35, 36, 37, 38, 39, 40, 41, 42, 43, 44, 45, 46, 47, 48, 49, 50, 51, 52], [52])])
def spoorlaw09_AddrPrefixes.B5 : List Nat := [0, 1, 3, 7, 3, 31, 63, 127, 255, 511, 511, 2047, 4095, 8191, 16383, 16383, 65535, 131071, 262143, 524287, 524287, 2097151, 4194303, 8388607, 16777215, 16777215, 67108863, 134217727, 268435455, 536870911, 536870911, 2147483647, 4294967295, 8589934591, 17179869183, 17179869183, 17179869183, 137438953471, 17179869183, 17179869183, 17179869183, 2199023255551, 4398046511103, 8796093022207, 17592186044415, 35184372088831, 35184372088831, 140737488355327, 35184372088831, 35184372088831, 1125899906842623, 2251799813685247, 4503599627370495, 9007199254740991]
theorem spoorlaw09_AddrPrefixes.tab5 : rtab .any (opsOf Try.f4 5) = spoorlaw09_AddrPrefixes.T5 := by kernel_rfl
theorem spoorlaw09_AddrPrefixes.bits5 : waitsOk spoorlaw09_AddrPrefixes.T5.2 spoorlaw09_AddrPrefixes.B5 = true := by kernel_rfl

end Go.Proofs.Ytafclgjnomocdaa.Q
