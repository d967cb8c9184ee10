-- Printed by this session's program wip/tools/mp.sh out of the translation.
import Derived.Test.YtafclgjnomocdaaQx0
import Derived.Test.YtafclgjnomocdaaQx1
import Derived.Test.YtafclgjnomocdaaQx3
import Derived.Test.YtafclgjnomocdaaQx4
import Derived.Test.YtafclgjnomocdaaQx6
import Derived.Test.YtafclgjnomocdaaQx7
import Derived.Test.YtafclgjnomocdaaQx12
import Derived.Test.YtafclgjnomocdaaQx13
namespace Go.Proofs.Ytafclgjnomocdaa.Q
open Go.RowKit Go.Proofs.YtafclgjnomocdaaW.PrintWords Go.Proofs.YtafclgjnomocdaaW.PrintLast Go.Proofs.YtafclgjnomocdaaW.PrintMore
attribute [local go_sem] max2_int min2_int max_two min_two max_three min_three max_four min_four   -- for this text's walks alone
set_option linter.unusedVariables false
set_option linter.unusedSimpArgs false

attribute [local go_sem high] eqA24
/-! ### spoorref09_Cmp: function 15 -/
set_option maxHeartbeats 8000000 in
set_option maxRecDepth 100000 in
theorem spoorref09_Cmp.calls (k : Nat) (a0_0 : Int) (a0_1 : Int) (a1_0 : Int) (a1_1 : Int) (r : Int) (w : World) (h : spoorref09_Cmp.f k a0_0 a0_1 a1_0 a1_1 = some r) :
  Calls Try.prog 15 #[.agg #[.int .u64 a0_0, .int .u64 a0_1], .agg #[.int .u64 a1_0, .int .u64 a1_1]] w fun e w' => e = .returned (.int .i64 r) ∧ Below w.heap.size w w' := by
 have hu24 := Try.underlying24
 have HB := Ax (Below.refl w.heap.size w)
 have H : (if a0_0 < a1_0 then (spoorref09_Cmp.j0 k true a0_0 a0_1 a1_0 a1_1) else (if a0_0 = a1_0 then (spoorref09_Cmp.j0 k (decide (a0_1 < a1_1)) a0_0 a0_1 a1_0 a1_1) else (spoorref09_Cmp.j0 k false a0_0 a0_1 a1_0 a1_1))) = some r := h
 clear h
 have HC3 := Ax H
 clear H
 go_enter Try.func15, Try.ntmps15
 go_upto_region 1 with (first | ((with_reducible refine gate_dst (N := 2) rfl ?_); refine box_event ?hg (N := 2) ?hd (cs := #[.int .u64 a0_0, .int .u64 a0_1]) (t := 24) ?hr ?_; (case hd => rfl); (case hg => rfl); (case hr => first | (go_simp; done) | (go_simp; rfl)); intro gb241 hg w4 hbox hb; have n0_ := Ax (below_step (bw0 HB.out) hb); have n1_ := Ax (hbox); have n2_ := Ax ((by rw [hg]; exact (below_size (bw0 HB.out)) : w.heap.size ≤ gb241)); have n3_ := Ax ((by rw [hg]; exact (below_size (bw0 HB.out)) : w.heap.size ≤ gb241)); clear HB; have HB := n0_; have BK241 := n1_; have GW241 := n2_; have GE241 := n3_; clear n0_ n1_ n2_ n3_; clear hb hbox hg) | ((with_reducible refine gate_dst (N := 3) rfl ?_); refine box_event ?hg (N := 3) ?hd (cs := #[.int .u64 a1_0, .int .u64 a1_1]) (t := 24) ?hr ?_; (case hd => rfl); (case hg => rfl); (case hr => first | (go_simp; done) | (go_simp; rfl)); intro gb242 hg w5 hbox hb; have n0_ := Ax (blk_below (g := gb241) (o := .cells #[.int .u64 a0_0, .int .u64 a0_1] 24 (0, 0)) (bf0 BK241.out) hb); have n1_ := Ax (below_step (bw1 HB.out GE241.out) hb); have n2_ := Ax (hbox); have n3_ := Ax ((by rw [hg]; exact (below_size (bw1 HB.out GE241.out)) : w.heap.size ≤ gb242)); have n4_ := Ax ((by rw [hg]; exact (below_size (bw1 HB.out GE241.out)) : w.heap.size ≤ gb242)); have n5_ := Ax ((by rw [hg]; exact Nat.ne_of_lt (blk_lt (g := gb241) (o := .cells #[.int .u64 a0_0, .int .u64 a0_1] 24 (0, 0)) (bf0 BK241.out)) : gb241 ≠ gb242)); have n6_ := Ax ((by rw [hg]; exact Nat.ne_of_gt (blk_lt (g := gb241) (o := .cells #[.int .u64 a0_0, .int .u64 a0_1] 24 (0, 0)) (bf0 BK241.out)) : gb242 ≠ gb241)); clear BK241; clear HB; have BK241 := n0_; have HB := n1_; have BK242 := n2_; have GW242 := n3_; have GE242 := n4_; have NB241_242 := n5_; have NB242_241 := n6_; clear n0_ n1_ n2_ n3_ n4_ n5_ n6_; clear hb hbox hg))
 (try simp only [Act.put, List.setIfInBounds_toArray, List.set_cons_zero, List.set_cons_succ])
 go_cut [5] (fun v5 wc => ∃ (kq : Nat) (x5_2 : Bool), v5 = .bool x5_2 ∧ Aside0 (spoorref09_Cmp.j0 kq x5_2 a0_0 a0_1 a1_0 a1_1 = some r) ∧ Aside0 (kq ≤ k) ∧ Aside0 (wc.heap[gb241]? = some (.cells #[.int .u64 a0_0, .int .u64 a0_1] 24 (0, 0))) ∧ Aside0 (wc.heap[gb242]? = some (.cells #[.int .u64 a1_0, .int .u64 a1_1] 24 (0, 0))) ∧ Aside0 (Below w.heap.size w wc))
 case first =>
  have H := HC3.out
  clear HC3
  by_cases c6 : a0_0 < a1_0
  ·rw [if_pos c6] at H
   have c6b0 : decide (a0_0 < a1_0) = true := decide_eq_true c6
   clear c6
   (first | rw [c6b0] | (simp only [i64_w, i32_w]; rw [c6b0]) | skip)
   have H' := Ax H
   clear H
   have hnb7 := NB241_242.out
   have hnc7 := NB242_241.out
   have hcz8_0 : w5.cell? ⟨gb241, 0, none⟩ = some (.int .u64 a0_0) := (blk_cell BK241.out 0).trans rfl
   have hcz8_1 : w5.cell? ⟨gb241, 1, none⟩ = some (.int .u64 a0_1) := (blk_cell BK241.out 1).trans rfl
   have hfz8_0 := blk_frozen BK241.out 0
   have hfz8_1 := blk_frozen BK241.out 1
   have hcz9_0 : w5.cell? ⟨gb242, 0, none⟩ = some (.int .u64 a1_0) := (blk_cell BK242.out 0).trans rfl
   have hcz9_1 : w5.cell? ⟨gb242, 1, none⟩ = some (.int .u64 a1_1) := (blk_cell BK242.out 1).trans rfl
   have hfz9_0 := blk_frozen BK242.out 0
   have hfz9_1 := blk_frozen BK242.out 1
   go_wp2
   go_meet
   case rel => exact ⟨_, (true), rS, H', ⟨by first | omega | exact Nat.le_refl _⟩, ⟨bf0 BK241.out⟩, ⟨bf0 BK242.out⟩, ⟨bw2 HB.out GE241.out GE242.out⟩⟩
  ·rw [if_neg c6] at H
   have c6b0 : decide (a0_0 < a1_0) = false := decide_eq_false c6
   clear c6
   (first | rw [c6b0] | (simp only [i64_w, i32_w]; rw [c6b0]) | skip)
   by_cases c10 : a0_0 = a1_0
   ·rw [if_pos c10] at H
    have c10b0 : (a0_0 == a1_0) = true := beq_iff_eq.mpr c10
    have c10b1 : (a0_0 != a1_0) = false := bne_eq_false_iff_eq.mpr c10
    clear c10
    have H' := Ax H
    clear H
    have hnb11 := NB241_242.out
    have hnc11 := NB242_241.out
    have hcz12_0 : w5.cell? ⟨gb241, 0, none⟩ = some (.int .u64 a0_0) := (blk_cell BK241.out 0).trans rfl
    have hcz12_1 : w5.cell? ⟨gb241, 1, none⟩ = some (.int .u64 a0_1) := (blk_cell BK241.out 1).trans rfl
    have hfz12_0 := blk_frozen BK241.out 0
    have hfz12_1 := blk_frozen BK241.out 1
    have hcz13_0 : w5.cell? ⟨gb242, 0, none⟩ = some (.int .u64 a1_0) := (blk_cell BK242.out 0).trans rfl
    have hcz13_1 : w5.cell? ⟨gb242, 1, none⟩ = some (.int .u64 a1_1) := (blk_cell BK242.out 1).trans rfl
    have hfz13_0 := blk_frozen BK242.out 0
    have hfz13_1 := blk_frozen BK242.out 1
    go_wp2
    go_meet
    case rel => exact ⟨_, (decide (a0_1 < a1_1)), rS, H', ⟨by first | omega | exact Nat.le_refl _⟩, ⟨bf0 BK241.out⟩, ⟨bf0 BK242.out⟩, ⟨bw2 HB.out GE241.out GE242.out⟩⟩
   ·rw [if_neg c10] at H
    have c10b0 : (a0_0 == a1_0) = false := beq_eq_false_iff_ne.mpr c10
    have c10b1 : (a0_0 != a1_0) = true := bne_iff_ne.mpr c10
    have H' := Ax H
    clear H
    have hnb14 := NB241_242.out
    have hnc14 := NB242_241.out
    have hcz15_0 : w5.cell? ⟨gb241, 0, none⟩ = some (.int .u64 a0_0) := (blk_cell BK241.out 0).trans rfl
    have hcz15_1 : w5.cell? ⟨gb241, 1, none⟩ = some (.int .u64 a0_1) := (blk_cell BK241.out 1).trans rfl
    have hfz15_0 := blk_frozen BK241.out 0
    have hfz15_1 := blk_frozen BK241.out 1
    have hcz16_0 : w5.cell? ⟨gb242, 0, none⟩ = some (.int .u64 a1_0) := (blk_cell BK242.out 0).trans rfl
    have hcz16_1 : w5.cell? ⟨gb242, 1, none⟩ = some (.int .u64 a1_1) := (blk_cell BK242.out 1).trans rfl
    have hfz16_0 := blk_frozen BK242.out 0
    have hfz16_1 := blk_frozen BK242.out 1
    go_wp2
    go_meet
    case rel => exact ⟨_, (false), rS, H', ⟨by first | omega | exact Nat.le_refl _⟩, ⟨bf0 BK241.out⟩, ⟨bf0 BK242.out⟩, ⟨bw2 HB.out GE241.out GE242.out⟩⟩
 case rest =>
  clear HC3
  try clear c1
  try clear p2
  try clear c6
  try clear c6b0
  try clear c7
  try clear c10
  try clear c10b0
  try clear c10b1
  try clear c11
  try clear c14
  try clear c15
  try clear hcz12_0
  try clear hcz12_1
  try clear hcz13_0
  try clear hcz13_1
  try clear hcz15_0
  try clear hcz15_1
  try clear hcz16_0
  try clear hcz16_1
  try clear hcz8_0
  try clear hcz8_1
  try clear hcz9_0
  try clear hcz9_1
  try clear hfz12_0
  try clear hfz12_1
  try clear hfz13_0
  try clear hfz13_1
  try clear hfz15_0
  try clear hfz15_1
  try clear hfz16_0
  try clear hfz16_1
  try clear hfz8_0
  try clear hfz8_1
  try clear hfz9_0
  try clear hfz9_1
  obtain ⟨kq, x5_2, rfl, HA, HJ2, BK241, BK242, HB⟩ := hcut
  cases kq with
  | zero => exact absurd HA.out (by simp [spoorref09_Cmp.j0])
  | succ kj2 =>
   have H := HA.out
   clear HA
   simp only [spoorref09_Cmp.j0] at H
   by_cases c17 : x5_2 = true
   ·subst c17
    have H1 : (some (-1)) = some r := by rw [if_pos rfl] at H; exact H
    clear H
    have H := H1
    clear H1
    obtain rfl := Option.some.inj H
    go_wp2
    go_ret
    exact ⟨eS, bw2 HB.out GE241.out GE242.out⟩
   ·replace c17 := Bool.eq_false_iff.mpr c17
    subst c17
    have H1 : (if (a0_0 == a1_0 && (a0_1 == a1_1)) = true then (some 0) else (some 1)) = some r := by rw [if_neg (show ¬ (false = true) by decide)] at H; exact H
    clear H
    have H := H1
    clear H1
    by_cases c18 : (a0_0 == a1_0 && (a0_1 == a1_1)) = true
    ·rw [if_pos c18] at H
     have c18b0 : (a0_0 == a1_0 && (a0_1 == a1_1)) = true := c18
     (try (have c18b1 : decide (a0_0 = a1_0 && (a0_1 == a1_1)) = true := by simpa using c18))
     (try (have c18b2 : (a0_0 == a1_0 && (a0_1 == a1_1)) = true := by simpa using c18))
     clear c18
     obtain rfl := Option.some.inj H
     have hnb19 := NB241_242.out
     have hnc19 := NB242_241.out
     have hcz20_0 : wc.cell? ⟨gb241, 0, none⟩ = some (.int .u64 a0_0) := (blk_cell BK241.out 0).trans rfl
     have hcz20_1 : wc.cell? ⟨gb241, 1, none⟩ = some (.int .u64 a0_1) := (blk_cell BK241.out 1).trans rfl
     have hfz20_0 := blk_frozen BK241.out 0
     have hfz20_1 := blk_frozen BK241.out 1
     have hcz21_0 : wc.cell? ⟨gb242, 0, none⟩ = some (.int .u64 a1_0) := (blk_cell BK242.out 0).trans rfl
     have hcz21_1 : wc.cell? ⟨gb242, 1, none⟩ = some (.int .u64 a1_1) := (blk_cell BK242.out 1).trans rfl
     have hfz21_0 := blk_frozen BK242.out 0
     have hfz21_1 := blk_frozen BK242.out 1
     go_wp2
     go_ret
     exact ⟨eS, bw2 HB.out GE241.out GE242.out⟩
    ·rw [if_neg c18] at H
     have c18b0 : (a0_0 == a1_0 && (a0_1 == a1_1)) = false := by simpa using c18
     (try (have c18b1 : decide (a0_0 = a1_0 && (a0_1 == a1_1)) = false := by simpa using c18))
     (try (have c18b2 : (a0_0 == a1_0 && (a0_1 == a1_1)) = false := by simpa using c18))
     (try (have c18b3 : ¬ (a0_0 = a1_0 && (a0_1 == a1_1)) := by simpa using c18))
     clear c18
     obtain rfl := Option.some.inj H
     have hnb22 := NB241_242.out
     have hnc22 := NB242_241.out
     have hcz23_0 : wc.cell? ⟨gb241, 0, none⟩ = some (.int .u64 a0_0) := (blk_cell BK241.out 0).trans rfl
     have hcz23_1 : wc.cell? ⟨gb241, 1, none⟩ = some (.int .u64 a0_1) := (blk_cell BK241.out 1).trans rfl
     have hfz23_0 := blk_frozen BK241.out 0
     have hfz23_1 := blk_frozen BK241.out 1
     have hcz24_0 : wc.cell? ⟨gb242, 0, none⟩ = some (.int .u64 a1_0) := (blk_cell BK242.out 0).trans rfl
     have hcz24_1 : wc.cell? ⟨gb242, 1, none⟩ = some (.int .u64 a1_1) := (blk_cell BK242.out 1).trans rfl
     have hfz24_0 := blk_frozen BK242.out 0
     have hfz24_1 := blk_frozen BK242.out 1
     go_wp2
     go_ret
     exact ⟨eS, bw2 HB.out GE241.out GE242.out⟩

/-! ### spoorlaw09_AddrSteps: function 3 -/
def spoorlaw09_AddrSteps.f (k : Nat) (a0 : Bool) (a1_0 : Int) (a1_1 : Int) (a2_0 : Int) (a2_1 : Int) : Option (Bool) := (addr_Next.f a0 a1_0 a1_1).bind fun bt245 => ((spoorref09_Next.f k a0 a1_0 a1_1).bind fun bt249 => ((addr_Prev.f a0 a1_0 a1_1).bind fun bt253 => ((spoorref09_Prev.f k a0 a1_0 a1_1).bind fun bt257 => ((spoorlaw09_steps.f k).bind fun t261 => (if t261 = true then ((addr_Right.f a0 a1_0 a1_1).bind fun t262 => ((spoorref09_Right.f a0 a1_0 a1_1).bind fun t263 => (if (t262 == t263) = true then ((addr_Cmp.f k a1_0 a1_1 a2_0 a2_1).bind fun t264 => ((spoorref09_Cmp.f k a1_0 a1_1 a2_0 a2_1).bind fun t265 => (if t264 = t265 then (if (bt245.1 == bt249.1 && (bt245.2.1 == bt249.2.1)) = true then (if bt245.2.2 = bt249.2.2 then (if (bt253.1 == bt257.1 && (bt253.2.1 == bt257.2.1)) = true then (some (bt253.2.2 == bt257.2.2)) else (none)) else (none)) else (none)) else (none)))) else (none)))) else (none))))))
theorem spoorlaw09_AddrSteps.mono : ∀ a0 a1 a2 a3 a4 k, LeO (spoorlaw09_AddrSteps.f k a0 a1 a2 a3 a4) (spoorlaw09_AddrSteps.f (k + 1) a0 a1 a2 a3 a4) := by
 intro a0 a1 a2 a3 a4 k
 unfold spoorlaw09_AddrSteps.f
 repeat' first
   | (with_reducible exact addr_Cmp.mono _ _ _ _ _)
   | (with_reducible exact spoorlaw09_steps.mono _)
   | (with_reducible exact spoorref09_Cmp.mono _ _ _ _ _)
   | (with_reducible exact spoorref09_Next.mono _ _ _ _)
   | (with_reducible exact spoorref09_Prev.mono _ _ _ _)
   | (with_reducible exact LeO.refl _)
   | (with_reducible exact LeO.none _)
   | (with_reducible refine LeO.ite ?_ ?_)
   | (with_reducible refine LeO.bind ?_ (fun _ => ?_))
   | exact addr_Cmp.mono _ _ _ _ _
   | exact spoorlaw09_steps.mono _
   | exact spoorref09_Cmp.mono _ _ _ _ _
   | exact spoorref09_Next.mono _ _ _ _
   | exact spoorref09_Prev.mono _ _ _ _
   | exact LeO.none _
   | refine LeO.ite ?_ ?_
   | refine LeO.bind ?_ (fun _ => ?_)
def spoorlaw09_AddrSteps.T5 : Bool × List (List Nat × List Nat) := (true, [([], []), ([0, 0], [0]), ([1], [1]), ([1], [1]), ([2, 3, 1, 1], [1, 2, 3]), ([1], [1]), ([1], [1]), ([5, 6, 4, 1], [1, 5, 6]), ([4, 7, 1], [1, 4, 7]), ([1, 8], [1, 8]), ([9, 7], [9]), ([10], [10]), ([10], [10]), ([11, 12, 10, 10], [10, 11, 12]), ([10], [10]), ([10], [10]), ([14, 15, 13, 10], [10, 14, 15]), ([13, 16, 10], [10, 13, 16]), ([10, 17], [10, 17]), ([18, 16], [18]), ([19], [19]), ([19], [19]), ([20, 21, 19], [19, 20, 21]), ([19, 22], [19, 22]), ([23, 19], [23]), ([24], [24]), ([24], [24]), ([25, 26, 24], [24, 25, 26]), ([24, 27], [24, 27]), ([28, 24], [28]), ([29], [29]), ([29], [29]), ([30, 31, 29], [29, 30, 31]), ([29, 32], [29, 32]), ([33, 29], [33]), ([34], [34]), ([34], [34]), ([35, 36, 34], [34, 35, 36]), ([34, 37], [34, 37]), ([38, 34, 0, 1, 2, 3, 4, 5, 6, 7, 8, 9, 10, 11, 12, 13, 14, 15, 16, 17, 18, 19, 20, 21, 22, 23, 24, 25, 26, 27, 28, 29, 30, 31, 32, 33, 34, 35, 36, 37, 38], [38])])
def spoorlaw09_AddrSteps.B5 : List Nat := [0, 1, 3, 3, 15, 3, 3, 127, 255, 511, 1023, 2047, 2047, 8191, 2047, 2047, 65535, 131071, 262143, 524287, 1048575, 1048575, 4194303, 8388607, 16777215, 33554431, 33554431, 134217727, 268435455, 536870911, 1073741823, 1073741823, 4294967295, 8589934591, 17179869183, 34359738367, 34359738367, 137438953471, 274877906943, 549755813887]
theorem spoorlaw09_AddrSteps.tab5 : rtab .any (opsOf Try.f3 5) = spoorlaw09_AddrSteps.T5 := by kernel_rfl
theorem spoorlaw09_AddrSteps.bits5 : waitsOk spoorlaw09_AddrSteps.T5.2 spoorlaw09_AddrSteps.B5 = true := by kernel_rfl

end Go.Proofs.Ytafclgjnomocdaa.Q
