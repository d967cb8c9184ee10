-- Merged and trimmed by this session's program wip/tools/trim.py.
import Derived.Shelf.RegionOpen
import Derived.Outline
import Derived.Deep.RegionLaw
import Derived.BigQuiet
import Derived.Deep.RegionWith
import Derived.Laws.EntriesVeiled
import Derived.Laws.CopyOwn
import Derived.Test.YtghklhdooemjdaaRows
import Derived.ChangeArms
import Derived.WideShapes
import Derived.SizedLaws
import Derived.Laws.BytesArg
import Derived.Laws.BitsLemmas
import Derived.Test.YtghklhdooemjdaaTLineAsks3
section
namespace Go.Proofs.Ytghklhdooemjdaa.Q
open Go.RowKit Go.Proofs.YtghklhdooemjdaaW.PrintWords Go.Proofs.YtghklhdooemjdaaW.PrintLast Go.Proofs.YtghklhdooemjdaaW.PrintMore
attribute [local go_sem] max2_int min2_int max_two min_two max_three min_three max_four min_four   -- for this text's walks alone
set_option linter.unusedVariables false
set_option linter.unusedSimpArgs false
attribute [local go_sem high] eqA35
def inI (t : Int) (x : S23) : Bool := if x.f0 ≤ t then decide (t ≤ x.f1) else false
def hasFrom (t : Int) : Nat → List S23 → Int
  | _, [] => -1
  | i, x :: xs => if inI t x = true then (i : Int) else hasFrom t (i + 1) xs
def spoorref20_holds.l0 : Nat → Int → List (S52) → Int → Int → Option (Int × Int)
 | 0, _, _, _, _ => none
 | k + 1, x1, x7, x8, x9 => if x9 < x8 then (if 0 ≤ x9 then (if x9 < (x7.length : Int) then (if ((rd_T52 x7 x9).f0.f0) ≤ x1 then (if x1 ≤ ((rd_T52 x7 x9).f0.f1) then (some ((rd_T52 x7 x9).f1.f0, (rd_T52 x7 x9).f1.f1)) else (spoorref20_holds.l0 k x1 x7 x8 (wrap64 (x9 + 1)))) else (spoorref20_holds.l0 k x1 x7 x8 (wrap64 (x9 + 1)))) else (none)) else (none)) else (some (0, 0))
def spoorref20_holds.f (k : Nat) (l0 : List (S52)) (a1 : Int) : Option (Int × Int) := spoorref20_holds.l0 k a1 l0 (l0.length : Int) 0
set_option maxHeartbeats 8000000 in
set_option maxRecDepth 100000 in
theorem spoorref20_holds.calls (k : Nat) (A0 : Option Addr) (c0 : Nat) (l0 : List (S52)) (a1 : Int) (r1 : Int) (r2 : Int) (w : World) (hr0 : Kd.C k52 w A0 l0.length l0) (hc0 : l0.length ≤ c0) (h : spoorref20_holds.f k l0 a1 = some (r1, r2)) :
  Calls Try.prog 34 #[.slice A0 l0.length c0, .int .i64 a1] w fun e w' => e = .returned (.agg #[.int .u8 r1, .int .i64 r2]) ∧ Below w.heap.size w w' := by
 have hu35 := Try.underlying35
 have hu52 := Try.underlying52
 have HR0 := Ax hr0
 have HC0 := Ax hc0
 clear hr0 hc0
 have HB := Ax (Below.refl w.heap.size w)
 have H : (spoorref20_holds.l0 k a1 l0 (l0.length : Int) 0) = some (r1, r2) := h
 clear h
 have H' := Ax H
 clear H
 go_enter Try.func34, Try.ntmps34
 go_wp2_with (first | ((with_reducible refine gate_dst (N := 4) rfl ?_); refine box_event ?hg (N := 4) ?hd (cs := #[.int .u8 0, .int .i64 0]) (t := 35) ?hr ?_; (case hd => rfl); (case hg => rfl); (case hr => first | (go_simp; done) | (go_simp; rfl)); intro gb294 hg w3 hbox hb; have n0_ := Bs0 HB hb; have n1_ := Ax (hbox); have n2_ := Gw0 HB hg; have n3_ := Gw0 HB hg; clear HB; have HB := n0_; have BK294 := n1_; have GW294 := n2_; have GE294 := n3_; clear n0_ n1_ n2_ n3_; clear hb hbox hg))
 go_loopg [9] k (fun kq v9 w' => ∃ (x9_1 : Int) (x295000_1 : Int) (x295001_1 : Int), v9 = .int .i64 x9_1 ∧ Aside0 (spoorref20_holds.l0 kq a1 l0 (l0.length : Int) x9_1 = some (r1, r2)) ∧ Aside0 (kq ≤ k) ∧ Aside0 (w'.heap[gb294]? = some (.cells #[.int .u8 x295000_1, .int .i64 x295001_1] 35 (0, 0))) ∧ Aside0 (Below w.heap.size w w'))
 case atStart => exact ⟨(0), (0), (0), rS, H', ⟨Nat.le_refl _⟩, ⟨bf0 BK294.out⟩, ⟨bw1 HB.out GE294.out⟩⟩
 case round =>
  clear H'
  try clear p2
  try clear c3
  obtain ⟨x9_1, x295000_1, x295001_1, rfl, HA, HK1, BK294, HB⟩ := hrel
  cases gk with
  | zero => exact absurd HA.out (by simp [spoorref20_holds.l0])
  | succ k1 =>
   have H := HA.out
   clear HA
   simp only [spoorref20_holds.l0] at H
   by_cases c4 : x9_1 < (l0.length : Int)
   ·rw [if_pos c4] at H
    have c4b0 : decide (x9_1 < (l0.length : Int)) = true := decide_eq_true c4
    clear c4
    by_cases c5 : 0 ≤ x9_1
    ·rw [if_pos c5] at H
     have c5b0 : decide (0 ≤ x9_1) = true := decide_eq_true c5
     clear c5
     by_cases c6 : x9_1 < (l0.length : Int)
     ·rw [if_pos c6] at H
      have c6b0 : decide (x9_1 < (l0.length : Int)) = true := decide_eq_true c6
      clear c6
      by_cases c7 : ((rd_T52 l0 x9_1).f0.f0) ≤ a1
      ·rw [if_pos c7] at H
       have c7b0 : decide (((rd_T52 l0 x9_1).f0.f0) ≤ a1) = true := decide_eq_true c7
       clear c7
       by_cases c8 : a1 ≤ ((rd_T52 l0 x9_1).f0.f1)
       ·rw [if_pos c8] at H
        have c8b0 : decide (a1 ≤ ((rd_T52 l0 x9_1).f0.f1)) = true := decide_eq_true c8
        clear c8
        simp only [Option.some.injEq, Prod.mk.injEq] at H
        obtain ⟨rfl, rfl⟩ := H
        have p295 : 0 ≤ (x9_1 : Int) := of_decide_eq_true (by first | (with_reducible assumption) | assumption)
        have q295 : x9_1 < (l0.length : Int) := of_decide_eq_true (by first | (with_reducible assumption) | assumption)
        obtain ⟨ad295, e295, hx295_0, hx295_1, hx295_2, hx295_3⟩ := at_T52 HR0.out x9_1 p295 q295
        cases e295
        replace hx295_0 := (HB.out.cell (World.block_lt_of_cell? w _ hx295_0)).trans hx295_0
        replace hx295_1 := (HB.out.cell (World.block_lt_of_cell? w _ hx295_1)).trans hx295_1
        replace hx295_2 := (HB.out.cell (World.block_lt_of_cell? w _ hx295_2)).trans hx295_2
        replace hx295_3 := (HB.out.cell (World.block_lt_of_cell? w _ hx295_3)).trans hx295_3
        replace p295 := eq_true p295
        replace q295 := eq_true q295
        go_wp2_with (first | ((with_reducible refine gate_dst (N := 6) rfl ?_); refine box_event ?hg (N := 6) ?hd (cs := #[.int .i64 0, .int .i64 0, .int .u8 0, .int .i64 0]) (t := 52) ?hr ?_; (case hd => rfl); (case hg => rfl); (case hr => first | (go_simp; done) | (go_simp; rfl)); intro gb296 hg w9 hbox hb; have n0_ := Bx0 BK294 hb; have n1_ := Bs1 HB hb GE294.out; have n2_ := Ax (hbox); have n3_ := Gw1 HB hg GE294.out; have n4_ := Gw1 HB hg GE294.out; have n5_ := Nl0 BK294 hg; have n6_ := Nr0 BK294 hg; clear BK294; clear HB; have BK294 := n0_; have HB := n1_; have BK296 := n2_; have GW296 := n3_; have GE296 := n4_; have NB294_296 := n5_; have NB296_294 := n6_; clear n0_ n1_ n2_ n3_ n4_ n5_ n6_; clear hb hbox hg; have hnb10 := NB296_294.out; have hnc10 := NB294_296.out; obtain ⟨hcz11_0, hcz11_1, hcz11_2, hcz11_3, hfz11_0, hfz11_1, hfz11_2, hfz11_3⟩ := cl4 BK296; obtain ⟨hcz12_0, hcz12_1, hfz12_0, hfz12_1⟩ := cl2 BK294))
        refine bodyPost_ret (results_cell_row rfl _ _ gb294 35 #[.int .u8 ((rd_T52 l0 x9_1).f1.f0), .int .i64 ((rd_T52 l0 x9_1).f1.f1)] (0, 0) _ rfl (by (with_reducible repeat (first | refine blk_drewN ?_ _ | refine blk_drew ?_ | refine blk_alloc ?_ _)); refine blk_put (cs := #[.int .u8 ((rd_T52 l0 x9_1).f1.f0), .int .i64 x295001_1]) ?_ 1 _ rfl; (with_reducible repeat (first | refine blk_drewN ?_ _ | refine blk_drew ?_ | refine blk_alloc ?_ _)); refine blk_put (cs := #[.int .u8 x295000_1, .int .i64 x295001_1]) ?_ 0 _ rfl; (with_reducible repeat (first | refine blk_drewN ?_ _ | refine blk_drew ?_ | refine blk_alloc ?_ _)); refine blk_far ?_ NB294_296.out _; (with_reducible repeat (first | refine blk_drewN ?_ _ | refine blk_drew ?_ | refine blk_alloc ?_ _)); refine blk_far ?_ NB294_296.out _; (with_reducible repeat (first | refine blk_drewN ?_ _ | refine blk_drew ?_ | refine blk_alloc ?_ _)); refine blk_far ?_ NB294_296.out _; (with_reducible repeat (first | refine blk_drewN ?_ _ | refine blk_drew ?_ | refine blk_alloc ?_ _)); refine blk_far ?_ NB294_296.out _; (with_reducible repeat (first | refine blk_drewN ?_ _ | refine blk_drew ?_ | refine blk_alloc ?_ _)); exact BK294.out) Try.underlying35 rfl (by kernel_rfl)) rfl ?_
        exact ⟨eS, bw2 HB.out GE294.out GE296.out⟩
       ·rw [if_neg c8] at H
        have c8b0 : decide (a1 ≤ ((rd_T52 l0 x9_1).f0.f1)) = false := decide_eq_false c8
        clear c8
        have H' := Ax H
        clear H
        have p295 : 0 ≤ (x9_1 : Int) := of_decide_eq_true (by first | (with_reducible assumption) | assumption)
        have q295 : x9_1 < (l0.length : Int) := of_decide_eq_true (by first | (with_reducible assumption) | assumption)
        obtain ⟨ad295, e295, hx295_0, hx295_1, hx295_2, hx295_3⟩ := at_T52 HR0.out x9_1 p295 q295
        cases e295
        replace hx295_0 := (HB.out.cell (World.block_lt_of_cell? w _ hx295_0)).trans hx295_0
        replace hx295_1 := (HB.out.cell (World.block_lt_of_cell? w _ hx295_1)).trans hx295_1
        replace hx295_2 := (HB.out.cell (World.block_lt_of_cell? w _ hx295_2)).trans hx295_2
        replace hx295_3 := (HB.out.cell (World.block_lt_of_cell? w _ hx295_3)).trans hx295_3
        replace p295 := eq_true p295
        replace q295 := eq_true q295
        go_wp2_with (first | ((with_reducible refine gate_dst (N := 6) rfl ?_); refine box_event ?hg (N := 6) ?hd (cs := #[.int .i64 0, .int .i64 0, .int .u8 0, .int .i64 0]) (t := 52) ?hr ?_; (case hd => rfl); (case hg => rfl); (case hr => first | (go_simp; done) | (go_simp; rfl)); intro gb296 hg w13 hbox hb; have n0_ := Bx0 BK294 hb; have n1_ := Bs1 HB hb GE294.out; have n2_ := Ax (hbox); have n3_ := Gw1 HB hg GE294.out; have n4_ := Gw1 HB hg GE294.out; have n5_ := Nl0 BK294 hg; have n6_ := Nr0 BK294 hg; clear BK294; clear HB; have BK294 := n0_; have HB := n1_; have BK296 := n2_; have GW296 := n3_; have GE296 := n4_; have NB294_296 := n5_; have NB296_294 := n6_; clear n0_ n1_ n2_ n3_ n4_ n5_ n6_; clear hb hbox hg; have hnb14 := NB296_294.out; have hnc14 := NB294_296.out; obtain ⟨hcz15_0, hcz15_1, hcz15_2, hcz15_3, hfz15_0, hfz15_1, hfz15_2, hfz15_3⟩ := cl4 BK296))
        go_roundg k1
        case measure => have := HK1.out; omega
        case rel => exact ⟨(wrap64 (x9_1 + 1)), (x295000_1), (x295001_1), rS, H', ⟨by have := HK1.out; omega⟩, ⟨bf4 BK294.out NB294_296.out NB294_296.out NB294_296.out NB294_296.out⟩, ⟨bw2 HB.out GE294.out GE296.out⟩⟩
      ·rw [if_neg c7] at H
       have c7b0 : decide (((rd_T52 l0 x9_1).f0.f0) ≤ a1) = false := decide_eq_false c7
       clear c7
       have H' := Ax H
       clear H
       have p295 : 0 ≤ (x9_1 : Int) := of_decide_eq_true (by first | (with_reducible assumption) | assumption)
       have q295 : x9_1 < (l0.length : Int) := of_decide_eq_true (by first | (with_reducible assumption) | assumption)
       obtain ⟨ad295, e295, hx295_0, hx295_1, hx295_2, hx295_3⟩ := at_T52 HR0.out x9_1 p295 q295
       cases e295
       replace hx295_0 := (HB.out.cell (World.block_lt_of_cell? w _ hx295_0)).trans hx295_0
       replace hx295_1 := (HB.out.cell (World.block_lt_of_cell? w _ hx295_1)).trans hx295_1
       replace hx295_2 := (HB.out.cell (World.block_lt_of_cell? w _ hx295_2)).trans hx295_2
       replace hx295_3 := (HB.out.cell (World.block_lt_of_cell? w _ hx295_3)).trans hx295_3
       replace p295 := eq_true p295
       replace q295 := eq_true q295
       go_wp2_with (first | ((with_reducible refine gate_dst (N := 6) rfl ?_); refine box_event ?hg (N := 6) ?hd (cs := #[.int .i64 0, .int .i64 0, .int .u8 0, .int .i64 0]) (t := 52) ?hr ?_; (case hd => rfl); (case hg => rfl); (case hr => first | (go_simp; done) | (go_simp; rfl)); intro gb296 hg w16 hbox hb; have n0_ := Bx0 BK294 hb; have n1_ := Bs1 HB hb GE294.out; have n2_ := Ax (hbox); have n3_ := Gw1 HB hg GE294.out; have n4_ := Gw1 HB hg GE294.out; have n5_ := Nl0 BK294 hg; have n6_ := Nr0 BK294 hg; clear BK294; clear HB; have BK294 := n0_; have HB := n1_; have BK296 := n2_; have GW296 := n3_; have GE296 := n4_; have NB294_296 := n5_; have NB296_294 := n6_; clear n0_ n1_ n2_ n3_ n4_ n5_ n6_; clear hb hbox hg; have hnb17 := NB296_294.out; have hnc17 := NB294_296.out; obtain ⟨hcz18_0, hcz18_1, hcz18_2, hcz18_3, hfz18_0, hfz18_1, hfz18_2, hfz18_3⟩ := cl4 BK296))
       go_roundg k1
       case measure => have := HK1.out; omega
       case rel => exact ⟨(wrap64 (x9_1 + 1)), (x295000_1), (x295001_1), rS, H', ⟨by have := HK1.out; omega⟩, ⟨bf4 BK294.out NB294_296.out NB294_296.out NB294_296.out NB294_296.out⟩, ⟨bw2 HB.out GE294.out GE296.out⟩⟩
     ·rw [if_neg c6] at H
      exact absurd H (by simp)
    ·rw [if_neg c5] at H
     exact absurd H (by simp)
   ·rw [if_neg c4] at H
    have c4b0 : decide (x9_1 < (l0.length : Int)) = false := decide_eq_false c4
    clear c4
    simp only [Option.some.injEq, Prod.mk.injEq] at H
    obtain ⟨rfl, rfl⟩ := H
    obtain ⟨hcz19_0, hcz19_1, hfz19_0, hfz19_1⟩ := cl2 BK294
    go_wp2
    refine bodyPost_ret (results_cell_row rfl _ _ gb294 35 #[.int .u8 0, .int .i64 0] (0, 0) _ rfl (by (with_reducible repeat (first | refine blk_drewN ?_ _ | refine blk_drew ?_ | refine blk_alloc ?_ _)); refine blk_put (cs := #[.int .u8 0, .int .i64 x295001_1]) ?_ 1 _ rfl; (with_reducible repeat (first | refine blk_drewN ?_ _ | refine blk_drew ?_ | refine blk_alloc ?_ _)); refine blk_put (cs := #[.int .u8 x295000_1, .int .i64 x295001_1]) ?_ 0 _ rfl; (with_reducible repeat (first | refine blk_drewN ?_ _ | refine blk_drew ?_ | refine blk_alloc ?_ _)); exact BK294.out) Try.underlying35 rfl (by kernel_rfl)) rfl ?_
    exact ⟨eS, bw1 HB.out GE294.out⟩
def spoorref20_At.f (k : Nat) (a0_0 : Int) (a0_1 : Int) (l1 : List (S52)) (a2 : Int) : Option (Int × Int × Int) := (spoorref20_Check.f k a0_0 a0_1 l1).bind fun t299 => (if t299 = 0 then (if a2 < a0_0 then (some (0, 0, 1)) else (if a2 > a0_1 then (some (0, 0, 1)) else ((spoorref20_holds.f k l1 a2).bind fun bt300 => (some (bt300.1, bt300.2, 0))))) else (some (0, 0, 2)))
set_option maxHeartbeats 8000000 in
set_option maxRecDepth 100000 in
theorem spoorref20_At.calls (k : Nat) (a0_0 : Int) (a0_1 : Int) (A1 : Option Addr) (c1 : Nat) (l1 : List (S52)) (a2 : Int) (r1 : Int) (r2 : Int) (r3 : Int) (w : World) (hr1 : Kd.C k52 w A1 l1.length l1) (hc1 : l1.length ≤ c1) (h : spoorref20_At.f k a0_0 a0_1 l1 a2 = some (r1, r2, r3)) :
  Calls Try.prog 15 #[.agg #[.int .i64 a0_0, .int .i64 a0_1], .slice A1 l1.length c1, .int .i64 a2] w fun e w' => e = .returned (.tuple #[.agg #[.int .u8 r1, .int .i64 r2], .int .i64 r3]) ∧ Below w.heap.size w w' := by
 have hu23 := Try.underlying23
 have hu35 := Try.underlying35
 have HR1 := Ax hr1
 have HC1 := Ax hc1
 clear hr1 hc1
 have HB := Ax (Below.refl w.heap.size w)
 have H : ((spoorref20_Check.f k a0_0 a0_1 l1).bind fun t299 => (if t299 = 0 then (if a2 < a0_0 then (some (0, 0, 1)) else (if a2 > a0_1 then (some (0, 0, 1)) else ((spoorref20_holds.f k l1 a2).bind fun bt300 => (some (bt300.1, bt300.2, 0))))) else (some (0, 0, 2)))) = some (r1, r2, r3) := h
 clear h
 replace H := Option.bind_eq_some_iff.mp H
 obtain ⟨t299, A40, H⟩ := H
 replace H : (if t299 = 0 then (if a2 < a0_0 then (some (0, 0, 1)) else (if a2 > a0_1 then (some (0, 0, 1)) else ((spoorref20_holds.f k l1 a2).bind fun bt300 => (some (bt300.1, bt300.2, 0))))) else (some (0, 0, 2))) = some (r1, r2, r3) := H
 have A4 := Ax A40
 clear A40
 by_cases c5 : t299 = 0
 ·rw [if_pos c5] at H
  have c5b0 : (t299 == 0) = true := beq_iff_eq.mpr c5
  have c5b1 : (t299 != 0) = false := bne_eq_false_iff_eq.mpr c5
  clear c5
  by_cases c6 : a2 < a0_0
  ·rw [if_pos c6] at H
   have c6b0 : decide (a2 < a0_0) = true := decide_eq_true c6
   clear c6
   simp only [Option.some.injEq, Prod.mk.injEq] at H
   obtain ⟨rfl, rfl, rfl⟩ := H
   go_enter Try.func15, Try.ntmps15
   go_wp2_with (first | ((with_reducible refine gate_dst (N := 3) rfl ?_); refine box_event ?hg (N := 3) ?hd (cs := #[.int .i64 a0_0, .int .i64 a0_1]) (t := 23) ?hr ?_; (case hd => rfl); (case hg => rfl); (case hr => first | (go_simp; done) | (go_simp; rfl)); intro gb297 hg w7 hbox hb; have n0_ := Bs0 HB hb; have n1_ := Ax (hbox); have n2_ := Gw0 HB hg; have n3_ := Gw0 HB hg; clear HB; have HB := n0_; have BK297 := n1_; have GW297 := n2_; have GE297 := n3_; clear n0_ n1_ n2_ n3_; clear hb hbox hg) | ((with_reducible refine gate_dst (N := 6) rfl ?_); refine box_event ?hg (N := 6) ?hd (cs := #[.int .u8 0, .int .i64 0]) (t := 35) ?hr ?_; (case hd => rfl); (case hg => rfl); (case hr => first | (go_simp; done) | (go_simp; rfl)); intro gb298 hg w8 hbox hb; have n0_ := Bx0 BK297 hb; have n1_ := Bs1 HB hb GE297.out; have n2_ := Ax (hbox); have n3_ := Gw1 HB hg GE297.out; have n4_ := Gw1 HB hg GE297.out; have n5_ := Nl0 BK297 hg; have n6_ := Nr0 BK297 hg; clear BK297; clear HB; have BK297 := n0_; have HB := n1_; have BK298 := n2_; have GW298 := n3_; have GE298 := n4_; have NB297_298 := n5_; have NB298_297 := n6_; clear n0_ n1_ n2_ n3_ n4_ n5_ n6_; clear hb hbox hg; have hnb9 := NB297_298.out; have hnc9 := NB298_297.out; obtain ⟨hcz10_0, hcz10_1, hfz10_0, hfz10_1⟩ := cl2 BK297) | ((with_reducible refine gate_callee (f := 13) rfl ?_); refine goesL_ (some 10) rfl rfl Try.func13 (by kernel_rfl) rfl #[.agg #[.int .i64 a0_0, .int .i64 a0_1], .slice A1 l1.length c1] rfl gS ?_; (with_reducible refine (spoorref20_Check.calls k a0_0 a0_1 _ _ l1 t299 _ ?side1 ?side2 A4.out).mono ?_); (case side1 => repeat (first | exact (Kd.C_below HR1.out HB.out) | (with_reducible refine Kd.C_alloc ?_ _) | (with_reducible refine Kd.C_drewN ?_ _) | (with_reducible refine Kd.C_drew ?_))); (case side2 => exact HC1.out); rintro e w11 ⟨rfl, hb⟩; refine ⟨_, rfl, ?_⟩; replace BK297 := Bx0 BK297 hb; replace BK298 := Bx0 BK298 hb; replace HB := Bs2 HB hb GE297.out GE298.out; (try clear hb); obtain ⟨hcz12_0, hcz12_1, hfz12_0, hfz12_1⟩ := cl2 BK297; obtain ⟨hcz13_0, hcz13_1, hfz13_0, hfz13_1⟩ := cl2 BK298))
   refine bodyPost_ret (results_ct rfl _ _ gb298 35 #[.int .u8 0, .int .i64 0] (0, 0) _ rfl (by (with_reducible repeat (first | refine blk_drewN ?_ _ | refine blk_drew ?_ | refine blk_alloc ?_ _)); refine blk_put (cs := #[.int .u8 0, .int .i64 0]) ?_ 1 _ rfl; (with_reducible repeat (first | refine blk_drewN ?_ _ | refine blk_drew ?_ | refine blk_alloc ?_ _)); refine blk_put (cs := #[.int .u8 0, .int .i64 0]) ?_ 0 _ rfl; (with_reducible repeat (first | refine blk_drewN ?_ _ | refine blk_drew ?_ | refine blk_alloc ?_ _)); exact BK298.out) Try.underlying35 rfl (by kernel_rfl)) rfl ?_
   exact ⟨eS, bw2 HB.out GE297.out GE298.out⟩
  ·rw [if_neg c6] at H
   have c6b0 : decide (a2 < a0_0) = false := decide_eq_false c6
   clear c6
   by_cases c14 : a2 > a0_1
   ·rw [if_pos c14] at H
    have c14b0 : decide (a0_1 < a2) = true := decide_eq_true c14
    clear c14
    simp only [Option.some.injEq, Prod.mk.injEq] at H
    obtain ⟨rfl, rfl, rfl⟩ := H
    go_enter Try.func15, Try.ntmps15
    go_wp2_with (first | ((with_reducible refine gate_dst (N := 3) rfl ?_); refine box_event ?hg (N := 3) ?hd (cs := #[.int .i64 a0_0, .int .i64 a0_1]) (t := 23) ?hr ?_; (case hd => rfl); (case hg => rfl); (case hr => first | (go_simp; done) | (go_simp; rfl)); intro gb297 hg w15 hbox hb; have n0_ := Bs0 HB hb; have n1_ := Ax (hbox); have n2_ := Gw0 HB hg; have n3_ := Gw0 HB hg; clear HB; have HB := n0_; have BK297 := n1_; have GW297 := n2_; have GE297 := n3_; clear n0_ n1_ n2_ n3_; clear hb hbox hg) | ((with_reducible refine gate_dst (N := 6) rfl ?_); refine box_event ?hg (N := 6) ?hd (cs := #[.int .u8 0, .int .i64 0]) (t := 35) ?hr ?_; (case hd => rfl); (case hg => rfl); (case hr => first | (go_simp; done) | (go_simp; rfl)); intro gb298 hg w16 hbox hb; have n0_ := Bx0 BK297 hb; have n1_ := Bs1 HB hb GE297.out; have n2_ := Ax (hbox); have n3_ := Gw1 HB hg GE297.out; have n4_ := Gw1 HB hg GE297.out; have n5_ := Nl0 BK297 hg; have n6_ := Nr0 BK297 hg; clear BK297; clear HB; have BK297 := n0_; have HB := n1_; have BK298 := n2_; have GW298 := n3_; have GE298 := n4_; have NB297_298 := n5_; have NB298_297 := n6_; clear n0_ n1_ n2_ n3_ n4_ n5_ n6_; clear hb hbox hg; have hnb17 := NB297_298.out; have hnc17 := NB298_297.out; obtain ⟨hcz18_0, hcz18_1, hfz18_0, hfz18_1⟩ := cl2 BK297) | ((with_reducible refine gate_callee (f := 13) rfl ?_); refine goesL_ (some 10) rfl rfl Try.func13 (by kernel_rfl) rfl #[.agg #[.int .i64 a0_0, .int .i64 a0_1], .slice A1 l1.length c1] rfl gS ?_; (with_reducible refine (spoorref20_Check.calls k a0_0 a0_1 _ _ l1 t299 _ ?side1 ?side2 A4.out).mono ?_); (case side1 => repeat (first | exact (Kd.C_below HR1.out HB.out) | (with_reducible refine Kd.C_alloc ?_ _) | (with_reducible refine Kd.C_drewN ?_ _) | (with_reducible refine Kd.C_drew ?_))); (case side2 => exact HC1.out); rintro e w19 ⟨rfl, hb⟩; refine ⟨_, rfl, ?_⟩; replace BK297 := Bx0 BK297 hb; replace BK298 := Bx0 BK298 hb; replace HB := Bs2 HB hb GE297.out GE298.out; (try clear hb); obtain ⟨hcz20_0, hcz20_1, hfz20_0, hfz20_1⟩ := cl2 BK297; obtain ⟨hcz21_0, hcz21_1, hfz21_0, hfz21_1⟩ := cl2 BK298))
    refine bodyPost_ret (results_ct rfl _ _ gb298 35 #[.int .u8 0, .int .i64 0] (0, 0) _ rfl (by (with_reducible repeat (first | refine blk_drewN ?_ _ | refine blk_drew ?_ | refine blk_alloc ?_ _)); refine blk_put (cs := #[.int .u8 0, .int .i64 0]) ?_ 1 _ rfl; (with_reducible repeat (first | refine blk_drewN ?_ _ | refine blk_drew ?_ | refine blk_alloc ?_ _)); refine blk_put (cs := #[.int .u8 0, .int .i64 0]) ?_ 0 _ rfl; (with_reducible repeat (first | refine blk_drewN ?_ _ | refine blk_drew ?_ | refine blk_alloc ?_ _)); exact BK298.out) Try.underlying35 rfl (by kernel_rfl)) rfl ?_
    exact ⟨eS, bw2 HB.out GE297.out GE298.out⟩
   ·rw [if_neg c14] at H
    have c14b0 : decide (a0_1 < a2) = false := decide_eq_false c14
    clear c14
    replace H := Option.bind_eq_some_iff.mp H
    obtain ⟨⟨t300, t301⟩, A220, H⟩ := H
    replace H : (some (t300, t301, 0)) = some (r1, r2, r3) := H
    have A22 := Ax A220
    clear A220
    simp only [Option.some.injEq, Prod.mk.injEq] at H
    obtain ⟨rfl, rfl, rfl⟩ := H
    go_enter Try.func15, Try.ntmps15
    go_wp2_with (first | ((with_reducible refine gate_dst (N := 3) rfl ?_); refine box_event ?hg (N := 3) ?hd (cs := #[.int .i64 a0_0, .int .i64 a0_1]) (t := 23) ?hr ?_; (case hd => rfl); (case hg => rfl); (case hr => first | (go_simp; done) | (go_simp; rfl)); intro gb297 hg w23 hbox hb; have n0_ := Bs0 HB hb; have n1_ := Ax (hbox); have n2_ := Gw0 HB hg; have n3_ := Gw0 HB hg; clear HB; have HB := n0_; have BK297 := n1_; have GW297 := n2_; have GE297 := n3_; clear n0_ n1_ n2_ n3_; clear hb hbox hg) | ((with_reducible refine gate_dst (N := 6) rfl ?_); refine box_event ?hg (N := 6) ?hd (cs := #[.int .u8 0, .int .i64 0]) (t := 35) ?hr ?_; (case hd => rfl); (case hg => rfl); (case hr => first | (go_simp; done) | (go_simp; rfl)); intro gb298 hg w24 hbox hb; have n0_ := Bx0 BK297 hb; have n1_ := Bs1 HB hb GE297.out; have n2_ := Ax (hbox); have n3_ := Gw1 HB hg GE297.out; have n4_ := Gw1 HB hg GE297.out; have n5_ := Nl0 BK297 hg; have n6_ := Nr0 BK297 hg; clear BK297; clear HB; have BK297 := n0_; have HB := n1_; have BK298 := n2_; have GW298 := n3_; have GE298 := n4_; have NB297_298 := n5_; have NB298_297 := n6_; clear n0_ n1_ n2_ n3_ n4_ n5_ n6_; clear hb hbox hg; have hnb25 := NB297_298.out; have hnc25 := NB298_297.out; obtain ⟨hcz26_0, hcz26_1, hfz26_0, hfz26_1⟩ := cl2 BK297) | ((with_reducible refine gate_callee (f := 13) rfl ?_); refine goesL_ (some 10) rfl rfl Try.func13 (by kernel_rfl) rfl #[.agg #[.int .i64 a0_0, .int .i64 a0_1], .slice A1 l1.length c1] rfl gS ?_; (with_reducible refine (spoorref20_Check.calls k a0_0 a0_1 _ _ l1 t299 _ ?side1 ?side2 A4.out).mono ?_); (case side1 => repeat (first | exact (Kd.C_below HR1.out HB.out) | (with_reducible refine Kd.C_alloc ?_ _) | (with_reducible refine Kd.C_drewN ?_ _) | (with_reducible refine Kd.C_drew ?_))); (case side2 => exact HC1.out); rintro e w27 ⟨rfl, hb⟩; refine ⟨_, rfl, ?_⟩; replace BK297 := Bx0 BK297 hb; replace BK298 := Bx0 BK298 hb; replace HB := Bs2 HB hb GE297.out GE298.out; (try clear hb); obtain ⟨hcz28_0, hcz28_1, hfz28_0, hfz28_1⟩ := cl2 BK297) | ((with_reducible refine gate_callee (f := 34) rfl ?_); refine goesL_ (some 26) rfl rfl Try.func34 (by kernel_rfl) rfl #[.slice A1 l1.length c1, .int .i64 a2] rfl gS ?_; (with_reducible refine (spoorref20_holds.calls k _ _ l1 a2 t300 t301 _ ?side1 ?side2 A22.out).mono ?_); (case side1 => repeat (first | exact (Kd.C_below HR1.out HB.out) | (with_reducible refine Kd.C_alloc ?_ _) | (with_reducible refine Kd.C_drewN ?_ _) | (with_reducible refine Kd.C_drew ?_))); (case side2 => exact HC1.out); rintro e w29 ⟨rfl, hb⟩; refine ⟨_, rfl, ?_⟩; replace BK297 := Bx0 BK297 hb; replace BK298 := Bx0 BK298 hb; replace HB := Bs2 HB hb GE297.out GE298.out; (try clear hb); obtain ⟨hcz30_0, hcz30_1, hfz30_0, hfz30_1⟩ := cl2 BK298))
    refine bodyPost_ret (results_ct rfl _ _ gb298 35 #[.int .u8 t300, .int .i64 t301] (0, 0) _ rfl (by (with_reducible repeat (first | refine blk_drewN ?_ _ | refine blk_drew ?_ | refine blk_alloc ?_ _)); refine blk_put (cs := #[.int .u8 t300, .int .i64 0]) ?_ 1 _ rfl; (with_reducible repeat (first | refine blk_drewN ?_ _ | refine blk_drew ?_ | refine blk_alloc ?_ _)); refine blk_put (cs := #[.int .u8 0, .int .i64 0]) ?_ 0 _ rfl; (with_reducible repeat (first | refine blk_drewN ?_ _ | refine blk_drew ?_ | refine blk_alloc ?_ _)); exact BK298.out) Try.underlying35 rfl (by kernel_rfl)) rfl ?_
    exact ⟨eS, bw2 HB.out GE297.out GE298.out⟩
 ·rw [if_neg c5] at H
  have c5b0 : (t299 == 0) = false := beq_eq_false_iff_ne.mpr c5
  have c5b1 : (t299 != 0) = true := bne_iff_ne.mpr c5
  simp only [Option.some.injEq, Prod.mk.injEq] at H
  obtain ⟨rfl, rfl, rfl⟩ := H
  go_enter Try.func15, Try.ntmps15
  go_wp2_with (first | ((with_reducible refine gate_dst (N := 3) rfl ?_); refine box_event ?hg (N := 3) ?hd (cs := #[.int .i64 a0_0, .int .i64 a0_1]) (t := 23) ?hr ?_; (case hd => rfl); (case hg => rfl); (case hr => first | (go_simp; done) | (go_simp; rfl)); intro gb297 hg w31 hbox hb; have n0_ := Bs0 HB hb; have n1_ := Ax (hbox); have n2_ := Gw0 HB hg; have n3_ := Gw0 HB hg; clear HB; have HB := n0_; have BK297 := n1_; have GW297 := n2_; have GE297 := n3_; clear n0_ n1_ n2_ n3_; clear hb hbox hg) | ((with_reducible refine gate_dst (N := 6) rfl ?_); refine box_event ?hg (N := 6) ?hd (cs := #[.int .u8 0, .int .i64 0]) (t := 35) ?hr ?_; (case hd => rfl); (case hg => rfl); (case hr => first | (go_simp; done) | (go_simp; rfl)); intro gb298 hg w32 hbox hb; have n0_ := Bx0 BK297 hb; have n1_ := Bs1 HB hb GE297.out; have n2_ := Ax (hbox); have n3_ := Gw1 HB hg GE297.out; have n4_ := Gw1 HB hg GE297.out; have n5_ := Nl0 BK297 hg; have n6_ := Nr0 BK297 hg; clear BK297; clear HB; have BK297 := n0_; have HB := n1_; have BK298 := n2_; have GW298 := n3_; have GE298 := n4_; have NB297_298 := n5_; have NB298_297 := n6_; clear n0_ n1_ n2_ n3_ n4_ n5_ n6_; clear hb hbox hg; have hnb33 := NB297_298.out; have hnc33 := NB298_297.out; obtain ⟨hcz34_0, hcz34_1, hfz34_0, hfz34_1⟩ := cl2 BK297) | ((with_reducible refine gate_callee (f := 13) rfl ?_); refine goesL_ (some 10) rfl rfl Try.func13 (by kernel_rfl) rfl #[.agg #[.int .i64 a0_0, .int .i64 a0_1], .slice A1 l1.length c1] rfl gS ?_; (with_reducible refine (spoorref20_Check.calls k a0_0 a0_1 _ _ l1 t299 _ ?side1 ?side2 A4.out).mono ?_); (case side1 => repeat (first | exact (Kd.C_below HR1.out HB.out) | (with_reducible refine Kd.C_alloc ?_ _) | (with_reducible refine Kd.C_drewN ?_ _) | (with_reducible refine Kd.C_drew ?_))); (case side2 => exact HC1.out); rintro e w35 ⟨rfl, hb⟩; refine ⟨_, rfl, ?_⟩; replace BK297 := Bx0 BK297 hb; replace BK298 := Bx0 BK298 hb; replace HB := Bs2 HB hb GE297.out GE298.out; (try clear hb); obtain ⟨hcz36_0, hcz36_1, hfz36_0, hfz36_1⟩ := cl2 BK298))
  refine bodyPost_ret (results_ct rfl _ _ gb298 35 #[.int .u8 0, .int .i64 0] (0, 0) _ rfl (by (with_reducible repeat (first | refine blk_drewN ?_ _ | refine blk_drew ?_ | refine blk_alloc ?_ _)); refine blk_put (cs := #[.int .u8 0, .int .i64 0]) ?_ 1 _ rfl; (with_reducible repeat (first | refine blk_drewN ?_ _ | refine blk_drew ?_ | refine blk_alloc ?_ _)); refine blk_put (cs := #[.int .u8 0, .int .i64 0]) ?_ 0 _ rfl; (with_reducible repeat (first | refine blk_drewN ?_ _ | refine blk_drew ?_ | refine blk_alloc ?_ _)); exact BK298.out) Try.underlying35 rfl (by kernel_rfl)) rfl ?_
  exact ⟨eS, bw2 HB.out GE297.out GE298.out⟩
def spoorref20_When.l0 : Nat → List (S23) → List (S52) → Int → Int → Int → Int → Option ((List (S23)) × Int)
 | 0, _, _, _, _, _, _ => none
 | k + 1, x8, x15, x16, x17, x304000, x304001 => if x17 < x16 then (if 0 ≤ x17 then (if x17 < (x15.length : Int) then (if (((rd_T52 x15 x17).f1.f0) == x304000 && (((rd_T52 x15 x17).f1.f1) == x304001)) = true then (if x8.length < 8796093022208 then (spoorref20_When.l0 k (x8 ++ [(⟨(rd_T52 x15 x17).f0.f0, (rd_T52 x15 x17).f0.f1⟩ : S23)]) x15 x16 (wrap64 (x17 + 1)) x304000 x304001) else (none)) else (spoorref20_When.l0 k x8 x15 x16 (wrap64 (x17 + 1)) x304000 x304001)) else (none)) else (none)) else (some (x8, 0))
def spoorref20_When.f (k : Nat) (a0_0 : Int) (a0_1 : Int) (l1 : List (S52)) (a2_0 : Int) (a2_1 : Int) : Option ((List (S23)) × Int) := (spoorref20_Check.f k a0_0 a0_1 l1).bind fun t304 => (if t304 = 0 then (spoorref20_When.l0 k ([] : List (S23)) l1 (l1.length : Int) 0 a2_0 a2_1) else (some (([] : List (S23)), 2)))
set_option maxHeartbeats 8000000 in
set_option maxRecDepth 100000 in
theorem spoorref20_When.calls (k : Nat) (a0_0 : Int) (a0_1 : Int) (A1 : Option Addr) (c1 : Nat) (l1 : List (S52)) (a2_0 : Int) (a2_1 : Int) (r1 : List (S23)) (r2 : Int) (w : World) (hr1 : Kd.C k52 w A1 l1.length l1) (hc1 : l1.length ≤ c1) (h : spoorref20_When.f k a0_0 a0_1 l1 a2_0 a2_1 = some (r1, r2)) :
  Calls Try.prog 17 #[.agg #[.int .i64 a0_0, .int .i64 a0_1], .slice A1 l1.length c1, .agg #[.int .u8 a2_0, .int .i64 a2_1]] w fun e w' => ∃ v0_ : Value, e = .returned (.tuple #[v0_, .int .i64 r2]) ∧ Kd.R k23 23 w' w.heap.size (fun _ => True) v0_ r1 ∧ Below w.heap.size w w' := by
 have hu23 := Try.underlying23
 have hu35 := Try.underlying35
 have hu52 := Try.underlying52
 have HR1 := Ax hr1
 have HC1 := Ax hc1
 clear hr1 hc1
 have HB := Ax (Below.refl w.heap.size w)
 have H : ((spoorref20_Check.f k a0_0 a0_1 l1).bind fun t304 => (if t304 = 0 then (spoorref20_When.l0 k ([] : List (S23)) l1 (l1.length : Int) 0 a2_0 a2_1) else (some (([] : List (S23)), 2)))) = some (r1, r2) := h
 clear h
 replace H := Option.bind_eq_some_iff.mp H
 obtain ⟨t304, A40, H⟩ := H
 replace H : (if t304 = 0 then (spoorref20_When.l0 k ([] : List (S23)) l1 (l1.length : Int) 0 a2_0 a2_1) else (some (([] : List (S23)), 2))) = some (r1, r2) := H
 have A4 := Ax A40
 clear A40
 by_cases c5 : t304 = 0
 ·rw [if_pos c5] at H
  have c5b0 : (t304 == 0) = true := beq_iff_eq.mpr c5
  have c5b1 : (t304 != 0) = false := bne_eq_false_iff_eq.mpr c5
  clear c5
  have H' := Ax H
  clear H
  go_enter Try.func17, Try.ntmps17
  go_wp2_with (first | ((with_reducible refine gate_dst (N := 3) rfl ?_); refine box_event ?hg (N := 3) ?hd (cs := #[.int .i64 a0_0, .int .i64 a0_1]) (t := 23) ?hr ?_; (case hd => rfl); (case hg => rfl); (case hr => first | (go_simp; done) | (go_simp; rfl)); intro gb302 hg w6 hbox hb; have n0_ := Bs0 HB hb; have n1_ := Ax (hbox); have n2_ := Gw0 HB hg; have n3_ := Gw0 HB hg; clear HB; have HB := n0_; have BK302 := n1_; have GW302 := n2_; have GE302 := n3_; clear n0_ n1_ n2_ n3_; clear hb hbox hg) | ((with_reducible refine gate_dst (N := 5) rfl ?_); refine box_event ?hg (N := 5) ?hd (cs := #[.int .u8 a2_0, .int .i64 a2_1]) (t := 35) ?hr ?_; (case hd => rfl); (case hg => rfl); (case hr => first | (go_simp; done) | (go_simp; rfl)); intro gb303 hg w7 hbox hb; have n0_ := Bx0 BK302 hb; have n1_ := Bs1 HB hb GE302.out; have n2_ := Ax (hbox); have n3_ := Gw1 HB hg GE302.out; have n4_ := Gw1 HB hg GE302.out; have n5_ := Nl0 BK302 hg; have n6_ := Nr0 BK302 hg; clear BK302; clear HB; have BK302 := n0_; have HB := n1_; have BK303 := n2_; have GW303 := n3_; have GE303 := n4_; have NB302_303 := n5_; have NB303_302 := n6_; clear n0_ n1_ n2_ n3_ n4_ n5_ n6_; clear hb hbox hg; have hnb8 := NB302_303.out; have hnc8 := NB303_302.out; obtain ⟨hcz9_0, hcz9_1, hfz9_0, hfz9_1⟩ := cl2 BK302) | ((with_reducible refine gate_callee (f := 13) rfl ?_); refine goesL_ (some 13) rfl rfl Try.func13 (by kernel_rfl) rfl #[.agg #[.int .i64 a0_0, .int .i64 a0_1], .slice A1 l1.length c1] rfl gS ?_; (with_reducible refine (spoorref20_Check.calls k a0_0 a0_1 _ _ l1 t304 _ ?side1 ?side2 A4.out).mono ?_); (case side1 => repeat (first | exact (Kd.C_below HR1.out HB.out) | (with_reducible refine Kd.C_alloc ?_ _) | (with_reducible refine Kd.C_drewN ?_ _) | (with_reducible refine Kd.C_drew ?_))); (case side2 => exact HC1.out); rintro e w10 ⟨rfl, hb⟩; refine ⟨_, rfl, ?_⟩; replace BK302 := Bx0 BK302 hb; replace BK303 := Bx0 BK303 hb; replace HB := Bs2 HB hb GE302.out GE303.out; (try clear hb)))
  go_loopg [8, 17] k (fun kq v8 v17 w' => ∃ (x8_1 : List (S23)) (x17_1 : Int), v17 = .int .i64 x17_1 ∧ Aside0 (spoorref20_When.l0 kq x8_1 l1 (l1.length : Int) x17_1 a2_0 a2_1 = some (r1, r2)) ∧ Aside0 (kq ≤ k) ∧ Aside0 (Kd.R k23 23 w' w.heap.size (fun k_ => k_ ≠ gb302) v8 x8_1) ∧ Aside0 (w'.heap[gb302]? = some (.cells #[.int .i64 a0_0, .int .i64 a0_1] 23 (0, 0))) ∧ Aside0 (w'.heap[gb303]? = some (.cells #[.int .u8 a2_0, .int .i64 a2_1] 35 (0, 0))) ∧ Aside0 (Below w.heap.size w w'))
  case atStart => exact ⟨(([] : List (S23))), (0), rS, H', ⟨Nat.le_refl _⟩, ⟨by first | exact Kd.R_nil _ _ _ _ _ | exact Kd.N_nil _ _ _ _ _ | exact Kd.V_nil _ _ _ _ _ | exact Kd.Q_nil _ _ _ _ _ | exact Kd.S_nil _ _ _ _ _⟩, ⟨bf0 BK302.out⟩, ⟨bf0 BK303.out⟩, ⟨bw2 HB.out GE302.out GE303.out⟩⟩
  case round =>
   clear H'
   try clear c1
   try clear p2
   try clear c5
   try clear c5b0
   try clear c5b1
   try clear c8
   try clear hcz9_0
   try clear hcz9_1
   try clear hfz9_0
   try clear hfz9_1
   obtain ⟨x8_1, x17_1, rfl, HA, HK1, HO_8, BK302, BK303, HB⟩ := hrel
   cases gk with
   | zero => exact absurd HA.out (by simp [spoorref20_When.l0])
   | succ k1 =>
    have H := HA.out
    clear HA
    simp only [spoorref20_When.l0] at H
    by_cases c11 : x17_1 < (l1.length : Int)
    ·rw [if_pos c11] at H
     have c11b0 : decide (x17_1 < (l1.length : Int)) = true := decide_eq_true c11
     clear c11
     by_cases c12 : 0 ≤ x17_1
     ·rw [if_pos c12] at H
      have c12b0 : decide (0 ≤ x17_1) = true := decide_eq_true c12
      clear c12
      by_cases c13 : x17_1 < (l1.length : Int)
      ·rw [if_pos c13] at H
       have c13b0 : decide (x17_1 < (l1.length : Int)) = true := decide_eq_true c13
       clear c13
       by_cases c14 : (((rd_T52 l1 x17_1).f1.f0) == a2_0 && (((rd_T52 l1 x17_1).f1.f1) == a2_1)) = true
       ·rw [if_pos c14] at H
        have c14b0 : (((rd_T52 l1 x17_1).f1.f0) == a2_0 && (((rd_T52 l1 x17_1).f1.f1) == a2_1)) = true := c14
        (try (have c14b1 : decide (((rd_T52 l1 x17_1).f1.f0) = a2_0 && (((rd_T52 l1 x17_1).f1.f1) == a2_1)) = true := by simpa using c14))
        (try (have c14b2 : (((rd_T52 l1 x17_1).f1.f0) == a2_0 && (((rd_T52 l1 x17_1).f1.f1) == a2_1)) = true := by simpa using c14))
        clear c14
        by_cases c15 : x8_1.length < 8796093022208
        ·rw [if_pos c15] at H
         have LMc15 := Ax c15
         clear c15
         obtain ⟨y307, hy307⟩ : ∃ y_ : List (S23), y_ = (x8_1 ++ [(⟨(rd_T52 l1 x17_1).f0.f0, (rd_T52 l1 x17_1).f0.f1⟩ : S23)]) := ⟨_, rfl⟩
         replace H : (spoorref20_When.l0 k1 y307 l1 (l1.length : Int) (wrap64 (x17_1 + 1)) a2_0 a2_1) = some (r1, r2) := by first | (rw [hy307]; with_reducible exact H) | (have H2_ := (Option.bind_some _ _).symm.trans H; rw [hy307]; with_reducible exact H2_) | (have H2_ := (Option.bind_some _ _).symm.trans H; with_reducible exact H2_) | with_reducible exact H | (rw [hy307]; exact H) | exact H
         have Ny307 := Ax hy307
         clear hy307
         have H' := Ax H
         clear H
         have p305 : 0 ≤ (x17_1 : Int) := of_decide_eq_true (by first | (with_reducible assumption) | assumption)
         have q305 : x17_1 < (l1.length : Int) := of_decide_eq_true (by first | (with_reducible assumption) | assumption)
         obtain ⟨ad305, e305, hx305_0, hx305_1, hx305_2, hx305_3⟩ := at_T52 HR1.out x17_1 p305 q305
         cases e305
         replace hx305_0 := (HB.out.cell (World.block_lt_of_cell? w _ hx305_0)).trans hx305_0
         replace hx305_1 := (HB.out.cell (World.block_lt_of_cell? w _ hx305_1)).trans hx305_1
         replace hx305_2 := (HB.out.cell (World.block_lt_of_cell? w _ hx305_2)).trans hx305_2
         replace hx305_3 := (HB.out.cell (World.block_lt_of_cell? w _ hx305_3)).trans hx305_3
         replace p305 := eq_true p305
         replace q305 := eq_true q305
         go_wp2_with (first | ((with_reducible refine gate_dst (N := 10) rfl ?_); refine box_event ?hg (N := 10) ?hd (cs := #[.int .i64 0, .int .i64 0, .int .u8 0, .int .i64 0]) (t := 52) ?hr ?_; (case hd => rfl); (case hg => rfl); (case hr => first | (go_simp; done) | (go_simp; rfl)); intro gb306 hg w16 hbox hb; have n0_ := Ax (Kd.R_below (by (with_reducible repeat (first | apply Kd.R_alloc | apply Kd.R_drewN | apply Kd.R_drew)); exact HO_8.out) hb); have n1_ := Bx0 BK302 hb; have n2_ := Bx0 BK303 hb; have n3_ := Bs2 HB hb GE302.out GE303.out; have n4_ := Ax (hbox); have n5_ := Gw2 HB hg GE302.out GE303.out; have n6_ := Gw2 HB hg GE302.out GE303.out; have n7_ := Nl0 BK302 hg; have n8_ := Nr0 BK302 hg; have n9_ := Nl0 BK303 hg; have n10_ := Nr0 BK303 hg; clear HO_8; clear BK302; clear BK303; clear HB; have HO_8 := n0_; have BK302 := n1_; have BK303 := n2_; have HB := n3_; have BK306 := n4_; have GW306 := n5_; have GE306 := n6_; have NB302_306 := n7_; have NB306_302 := n8_; have NB303_306 := n9_; have NB306_303 := n10_; clear n0_ n1_ n2_ n3_ n4_ n5_ n6_ n7_ n8_ n9_ n10_; clear hb hbox hg; have hnb17 := NB306_302.out; have hnc17 := NB302_306.out; have hnb18 := NB306_303.out; have hnc18 := NB303_306.out; obtain ⟨hcz19_0, hcz19_1, hcz19_2, hcz19_3, hfz19_0, hfz19_1, hfz19_2, hfz19_3⟩ := cl4 BK306; have hnb20 := NB303_302.out; have hnc20 := NB302_303.out; obtain ⟨hcz21_0, hcz21_1, hfz21_0, hfz21_1⟩ := cl2 BK303) | ((with_reducible refine gate_builtin (b := .append) (xs := #[.tmp 25, .tmp 28]) rfl ?_); at_builtin; refine Kd.R_append k23 (w0 := w) w.heap.size rfl (.tmp 25) (.tmp 28) 38 23 (.agg #[(.int .i64 0), (.int .i64 0)]) 16 rfl Try.underlying38 info23 rfl (by decide) (by omega) u8 x8_1 (⟨(rd_T52 l1 x17_1).f0.f0, (rd_T52 l1 x17_1).f0.f1⟩ : S23) [.int .i64 ((rd_T52 l1 x17_1).f0.f0), .int .i64 ((rd_T52 l1 x17_1).f0.f1)] (fun k_ => k_ ≠ gb302) (fun _ => False) rfl (by first | (go_simp; done) | (go_simp; rfl)) ?aP (fun _ hk => hk.elim) ?aF ?aO ?aB ?aS ?aL ?_; (case aP => exact k23_mkM _ _ _ (⟨(rd_T52 l1 x17_1).f0.f0, (rd_T52 l1 x17_1).f0.f1⟩ : S23)); (case aB => exact (bw3 HB.out GE302.out GE303.out GE306.out)); (case aF => exact (fun k_ hk => Kd.freshB (g := gb302) (o := .cells #[.int .i64 a0_0, .int .i64 a0_1] 23 (0, 0)) (bf4 BK302.out NB302_306.out NB302_306.out NB302_306.out NB302_306.out) k_ hk)); (case aO => exact (by (with_reducible repeat (first | apply Kd.R_alloc | apply Kd.R_drewN | apply Kd.R_drew)); exact Kd.R_mono (Kd.R_far (p := ⟨gb306, 3, none⟩) (Kd.R_far (p := ⟨gb306, 2, none⟩) (Kd.R_far (p := ⟨gb306, 1, none⟩) (Kd.R_far (p := ⟨gb306, 0, none⟩) (Kd.R_types HO_8.out BK306.out (by decide)) (fun _ hk => hk.2) (.int .i64 ((rd_T52 l1 x17_1).f0.f0))) (fun _ hk => hk.2) (.int .i64 ((rd_T52 l1 x17_1).f0.f1))) (fun _ hk => hk.2) (.int .u8 ((rd_T52 l1 x17_1).f1.f0))) (fun _ hk => hk.2) (.int .i64 ((rd_T52 l1 x17_1).f1.f1))) (fun _ hk => hk.1))); (case aS => exact (below_size (bw3 HB.out GE302.out GE303.out GE306.out))); (case aL => have := LMc15.out; omega); intro v308 w22 ho hb hg hat; rw [← Ny307.out] at ho; have n0_ := Ax (blk_grown (g := gb302) (o := .cells #[.int .i64 a0_0, .int .i64 a0_1] 23 (0, 0)) (bf4 BK302.out NB302_306.out NB302_306.out NB302_306.out NB302_306.out) hg (Kd.R_away HO_8.out (fun _ hk => hk))); have n1_ := Ax (blk_grown (g := gb303) (o := .cells #[.int .u8 a2_0, .int .i64 a2_1] 35 (0, 0)) (bf4 BK303.out NB303_306.out NB303_306.out NB303_306.out NB303_306.out) hg (Kd.R_ne HO_8.out BK303.out (by decide))); have n2_ := Ax (blk_grown (g := gb306) (o := .cells #[.int .i64 ((rd_T52 l1 x17_1).f0.f0), .int .i64 ((rd_T52 l1 x17_1).f0.f1), .int .u8 ((rd_T52 l1 x17_1).f1.f0), .int .i64 ((rd_T52 l1 x17_1).f1.f1)] 52 (0, 0)) (by (with_reducible repeat (first | refine blk_drewN ?_ _ | refine blk_drew ?_ | refine blk_alloc ?_ _)); refine blk_put (cs := #[.int .i64 ((rd_T52 l1 x17_1).f0.f0), .int .i64 ((rd_T52 l1 x17_1).f0.f1), .int .u8 ((rd_T52 l1 x17_1).f1.f0), .int .i64 0]) ?_ 3 _ rfl; (with_reducible repeat (first | refine blk_drewN ?_ _ | refine blk_drew ?_ | refine blk_alloc ?_ _)); refine blk_put (cs := #[.int .i64 ((rd_T52 l1 x17_1).f0.f0), .int .i64 ((rd_T52 l1 x17_1).f0.f1), .int .u8 0, .int .i64 0]) ?_ 2 _ rfl; (with_reducible repeat (first | refine blk_drewN ?_ _ | refine blk_drew ?_ | refine blk_alloc ?_ _)); refine blk_put (cs := #[.int .i64 ((rd_T52 l1 x17_1).f0.f0), .int .i64 0, .int .u8 0, .int .i64 0]) ?_ 1 _ rfl; (with_reducible repeat (first | refine blk_drewN ?_ _ | refine blk_drew ?_ | refine blk_alloc ?_ _)); refine blk_put (cs := #[.int .i64 0, .int .i64 0, .int .u8 0, .int .i64 0]) ?_ 0 _ rfl; (with_reducible repeat (first | refine blk_drewN ?_ _ | refine blk_drew ?_ | refine blk_alloc ?_ _)); exact BK306.out) hg (Kd.R_ne HO_8.out BK306.out (by decide))); have n3_ := Ax (hb); have n4_ := Ax (ho); clear BK302; clear BK303; clear BK306; clear HB; clear HO_8; have BK302 := n0_; have BK303 := n1_; have BK306 := n2_; have HB := n3_; have HO309 := n4_; clear n0_ n1_ n2_ n3_ n4_; clear ho hb hg hat))
         go_roundg k1
         case measure => have := HK1.out; omega
         case rel => exact ⟨(y307), (wrap64 (x17_1 + 1)), rS, H', ⟨by have := HK1.out; omega⟩, ⟨by (with_reducible repeat (first | apply Kd.R_alloc | apply Kd.R_drewN | apply Kd.R_drew)); exact HO309.out⟩, ⟨bf0 BK302.out⟩, ⟨bf0 BK303.out⟩, ⟨bw3 HB.out GE302.out GE303.out GE306.out⟩⟩
        ·rw [if_neg c15] at H
         exact absurd H (by simp)
       ·rw [if_neg c14] at H
        have c14b0 : (((rd_T52 l1 x17_1).f1.f0) == a2_0 && (((rd_T52 l1 x17_1).f1.f1) == a2_1)) = false := by simpa using c14
        (try (have c14b1 : decide (((rd_T52 l1 x17_1).f1.f0) = a2_0 && (((rd_T52 l1 x17_1).f1.f1) == a2_1)) = false := by simpa using c14))
        (try (have c14b2 : (((rd_T52 l1 x17_1).f1.f0) == a2_0 && (((rd_T52 l1 x17_1).f1.f1) == a2_1)) = false := by simpa using c14))
        (try (have c14b3 : ¬ (((rd_T52 l1 x17_1).f1.f0) = a2_0 && (((rd_T52 l1 x17_1).f1.f1) == a2_1)) := by simpa using c14))
        clear c14
        have H' := Ax H
        clear H
        have p305 : 0 ≤ (x17_1 : Int) := of_decide_eq_true (by first | (with_reducible assumption) | assumption)
        have q305 : x17_1 < (l1.length : Int) := of_decide_eq_true (by first | (with_reducible assumption) | assumption)
        obtain ⟨ad305, e305, hx305_0, hx305_1, hx305_2, hx305_3⟩ := at_T52 HR1.out x17_1 p305 q305
        cases e305
        replace hx305_0 := (HB.out.cell (World.block_lt_of_cell? w _ hx305_0)).trans hx305_0
        replace hx305_1 := (HB.out.cell (World.block_lt_of_cell? w _ hx305_1)).trans hx305_1
        replace hx305_2 := (HB.out.cell (World.block_lt_of_cell? w _ hx305_2)).trans hx305_2
        replace hx305_3 := (HB.out.cell (World.block_lt_of_cell? w _ hx305_3)).trans hx305_3
        replace p305 := eq_true p305
        replace q305 := eq_true q305
        go_wp2_with (first | ((with_reducible refine gate_dst (N := 10) rfl ?_); refine box_event ?hg (N := 10) ?hd (cs := #[.int .i64 0, .int .i64 0, .int .u8 0, .int .i64 0]) (t := 52) ?hr ?_; (case hd => rfl); (case hg => rfl); (case hr => first | (go_simp; done) | (go_simp; rfl)); intro gb306 hg w23 hbox hb; have n0_ := Ax (Kd.R_below (by (with_reducible repeat (first | apply Kd.R_alloc | apply Kd.R_drewN | apply Kd.R_drew)); exact HO_8.out) hb); have n1_ := Bx0 BK302 hb; have n2_ := Bx0 BK303 hb; have n3_ := Bs2 HB hb GE302.out GE303.out; have n4_ := Ax (hbox); have n5_ := Gw2 HB hg GE302.out GE303.out; have n6_ := Gw2 HB hg GE302.out GE303.out; have n7_ := Nl0 BK302 hg; have n8_ := Nr0 BK302 hg; have n9_ := Nl0 BK303 hg; have n10_ := Nr0 BK303 hg; clear HO_8; clear BK302; clear BK303; clear HB; have HO_8 := n0_; have BK302 := n1_; have BK303 := n2_; have HB := n3_; have BK306 := n4_; have GW306 := n5_; have GE306 := n6_; have NB302_306 := n7_; have NB306_302 := n8_; have NB303_306 := n9_; have NB306_303 := n10_; clear n0_ n1_ n2_ n3_ n4_ n5_ n6_ n7_ n8_ n9_ n10_; clear hb hbox hg; have hnb24 := NB306_302.out; have hnc24 := NB302_306.out; have hnb25 := NB306_303.out; have hnc25 := NB303_306.out; obtain ⟨hcz26_0, hcz26_1, hcz26_2, hcz26_3, hfz26_0, hfz26_1, hfz26_2, hfz26_3⟩ := cl4 BK306; have hnb27 := NB303_302.out; have hnc27 := NB302_303.out; obtain ⟨hcz28_0, hcz28_1, hfz28_0, hfz28_1⟩ := cl2 BK303))
        go_roundg k1
        case measure => have := HK1.out; omega
        case rel => exact ⟨(x8_1), (wrap64 (x17_1 + 1)), rS, H', ⟨by have := HK1.out; omega⟩, ⟨by (with_reducible repeat (first | apply Kd.R_alloc | apply Kd.R_drewN | apply Kd.R_drew)); exact Kd.R_mono (Kd.R_far (p := ⟨gb306, 3, none⟩) (Kd.R_far (p := ⟨gb306, 2, none⟩) (Kd.R_far (p := ⟨gb306, 1, none⟩) (Kd.R_far (p := ⟨gb306, 0, none⟩) (Kd.R_types HO_8.out BK306.out (by decide)) (fun _ hk => hk.2) (.int .i64 ((rd_T52 l1 x17_1).f0.f0))) (fun _ hk => hk.2) (.int .i64 ((rd_T52 l1 x17_1).f0.f1))) (fun _ hk => hk.2) (.int .u8 ((rd_T52 l1 x17_1).f1.f0))) (fun _ hk => hk.2) (.int .i64 ((rd_T52 l1 x17_1).f1.f1))) (fun _ hk => hk.1)⟩, ⟨bf4 BK302.out NB302_306.out NB302_306.out NB302_306.out NB302_306.out⟩, ⟨bf4 BK303.out NB303_306.out NB303_306.out NB303_306.out NB303_306.out⟩, ⟨bw3 HB.out GE302.out GE303.out GE306.out⟩⟩
      ·rw [if_neg c13] at H
       exact absurd H (by simp)
     ·rw [if_neg c12] at H
      exact absurd H (by simp)
    ·rw [if_neg c11] at H
     have c11b0 : decide (x17_1 < (l1.length : Int)) = false := decide_eq_false c11
     clear c11
     simp only [Option.some.injEq, Prod.mk.injEq] at H
     obtain ⟨rfl, rfl⟩ := H
     go_wp2
     go_ret2
     exact ⟨_, eS, by (with_reducible repeat (first | apply Kd.R_alloc | apply Kd.R_drewN | apply Kd.R_drew)); exact Kd.R_mono HO_8.out (fun _ hk => trivial), bw2 HB.out GE302.out GE303.out⟩
 ·rw [if_neg c5] at H
  have c5b0 : (t304 == 0) = false := beq_eq_false_iff_ne.mpr c5
  have c5b1 : (t304 != 0) = true := bne_iff_ne.mpr c5
  simp only [Option.some.injEq, Prod.mk.injEq] at H
  obtain ⟨rfl, rfl⟩ := H
  go_enter Try.func17, Try.ntmps17
  go_wp2_with (first | ((with_reducible refine gate_dst (N := 3) rfl ?_); refine box_event ?hg (N := 3) ?hd (cs := #[.int .i64 a0_0, .int .i64 a0_1]) (t := 23) ?hr ?_; (case hd => rfl); (case hg => rfl); (case hr => first | (go_simp; done) | (go_simp; rfl)); intro gb302 hg w29 hbox hb; have n0_ := Bs0 HB hb; have n1_ := Ax (hbox); have n2_ := Gw0 HB hg; have n3_ := Gw0 HB hg; clear HB; have HB := n0_; have BK302 := n1_; have GW302 := n2_; have GE302 := n3_; clear n0_ n1_ n2_ n3_; clear hb hbox hg) | ((with_reducible refine gate_dst (N := 5) rfl ?_); refine box_event ?hg (N := 5) ?hd (cs := #[.int .u8 a2_0, .int .i64 a2_1]) (t := 35) ?hr ?_; (case hd => rfl); (case hg => rfl); (case hr => first | (go_simp; done) | (go_simp; rfl)); intro gb303 hg w30 hbox hb; have n0_ := Bx0 BK302 hb; have n1_ := Bs1 HB hb GE302.out; have n2_ := Ax (hbox); have n3_ := Gw1 HB hg GE302.out; have n4_ := Gw1 HB hg GE302.out; have n5_ := Nl0 BK302 hg; have n6_ := Nr0 BK302 hg; clear BK302; clear HB; have BK302 := n0_; have HB := n1_; have BK303 := n2_; have GW303 := n3_; have GE303 := n4_; have NB302_303 := n5_; have NB303_302 := n6_; clear n0_ n1_ n2_ n3_ n4_ n5_ n6_; clear hb hbox hg; have hnb31 := NB302_303.out; have hnc31 := NB303_302.out; obtain ⟨hcz32_0, hcz32_1, hfz32_0, hfz32_1⟩ := cl2 BK302) | ((with_reducible refine gate_callee (f := 13) rfl ?_); refine goesL_ (some 13) rfl rfl Try.func13 (by kernel_rfl) rfl #[.agg #[.int .i64 a0_0, .int .i64 a0_1], .slice A1 l1.length c1] rfl gS ?_; (with_reducible refine (spoorref20_Check.calls k a0_0 a0_1 _ _ l1 t304 _ ?side1 ?side2 A4.out).mono ?_); (case side1 => repeat (first | exact (Kd.C_below HR1.out HB.out) | (with_reducible refine Kd.C_alloc ?_ _) | (with_reducible refine Kd.C_drewN ?_ _) | (with_reducible refine Kd.C_drew ?_))); (case side2 => exact HC1.out); rintro e w33 ⟨rfl, hb⟩; refine ⟨_, rfl, ?_⟩; replace BK302 := Bx0 BK302 hb; replace BK303 := Bx0 BK303 hb; replace HB := Bs2 HB hb GE302.out GE303.out; (try clear hb)))
  go_ret2
  exact ⟨_, eS, by first | exact Kd.R_nil _ _ _ _ _ | exact Kd.N_nil _ _ _ _ _ | exact Kd.V_nil _ _ _ _ _ | exact Kd.Q_nil _ _ _ _ _ | exact Kd.S_nil _ _ _ _ _, bw2 HB.out GE302.out GE303.out⟩
mutual
def spoorref20_Cut.j0 : Nat → List (S52) → Bool → Int → Int → Option ((List (S52)) × Int)
 | 0, _, _, _, _ => none
 | k + 1, x1, x32, x312000, x312001 => if x32 = true then (some (([] : List (S52)), 1)) else (spoorref20_Cut.l0 k ([] : List (S52)) x1 (x1.length : Int) 0 x312000 x312001)
def spoorref20_Cut.l0 : Nat → List (S52) → List (S52) → Int → Int → Int → Int → Option ((List (S52)) × Int)
 | 0, _, _, _, _, _, _ => none
 | k + 1, x8, x33, x34, x35, x312000, x312001 => if x35 < x34 then (if 0 ≤ x35 then (if x35 < (x33.length : Int) then (if (mx ((rd_T52 x33 x35).f0.f0) x312000) ≤ (mn ((rd_T52 x33 x35).f0.f1) x312001) then (if x8.length < 4398046511104 then (spoorref20_Cut.l0 k (x8 ++ [(⟨(⟨mx ((rd_T52 x33 x35).f0.f0) x312000, mn ((rd_T52 x33 x35).f0.f1) x312001⟩ : S23), (⟨(rd_T52 x33 x35).f1.f0, (rd_T52 x33 x35).f1.f1⟩ : S35)⟩ : S52)]) x33 x34 (wrap64 (x35 + 1)) x312000 x312001) else (none)) else (spoorref20_Cut.l0 k x8 x33 x34 (wrap64 (x35 + 1)) x312000 x312001)) else (none)) else (none)) else (some (x8, 0))
end
def spoorref20_Cut.f (k : Nat) (a0_0 : Int) (a0_1 : Int) (l1 : List (S52)) (a2_0 : Int) (a2_1 : Int) : Option ((List (S52)) × Int) := (spoorref20_Check.f k a0_0 a0_1 l1).bind fun t312 => (if t312 = 0 then ((spoorref19_One.f a2_0 a2_1).bind fun t313 => (if t313 = true then (if a2_0 < a0_0 then (spoorref20_Cut.j0 k l1 true a2_0 a2_1) else (spoorref20_Cut.j0 k l1 (decide (a2_1 > a0_1)) a2_0 a2_1)) else (spoorref20_Cut.j0 k l1 true a2_0 a2_1))) else (some (([] : List (S52)), 2)))
end Go.Proofs.Ytghklhdooemjdaa.Q
end
section
namespace Go.Proofs.Ytghklhdooemjdaa.Q
open Go.RowKit Go.Proofs.YtghklhdooemjdaaW.PrintWords Go.Proofs.YtghklhdooemjdaaW.PrintLast Go.Proofs.YtghklhdooemjdaaW.PrintMore
attribute [local go_sem] max2_int min2_int max_two min_two max_three min_three max_four min_four   -- for this text's walks alone
set_option linter.unusedVariables false
set_option linter.unusedSimpArgs false
attribute [local go_sem high] eqA35
set_option maxHeartbeats 8000000 in
set_option maxRecDepth 100000 in
theorem spoorref20_Cut.calls (k : Nat) (a0_0 : Int) (a0_1 : Int) (A1 : Option Addr) (c1 : Nat) (l1 : List (S52)) (a2_0 : Int) (a2_1 : Int) (r1 : List (S52)) (r2 : Int) (w : World) (hr1 : Kd.C k52 w A1 l1.length l1) (hc1 : l1.length ≤ c1) (h : spoorref20_Cut.f k a0_0 a0_1 l1 a2_0 a2_1 = some (r1, r2)) :
  Calls Try.prog 19 #[.agg #[.int .i64 a0_0, .int .i64 a0_1], .slice A1 l1.length c1, .agg #[.int .i64 a2_0, .int .i64 a2_1]] w fun e w' => ∃ v0_ : Value, e = .returned (.tuple #[v0_, .int .i64 r2]) ∧ Kd.R k52 52 w' w.heap.size (fun _ => True) v0_ r1 ∧ Below w.heap.size w w' := by
 have hu23 := Try.underlying23
 have hu52 := Try.underlying52
 have hu35 := Try.underlying35
 have HR1 := Ax hr1
 have HC1 := Ax hc1
 clear hr1 hc1
 have HB := Ax (Below.refl w.heap.size w)
 have H : ((spoorref20_Check.f k a0_0 a0_1 l1).bind fun t312 => (if t312 = 0 then ((spoorref19_One.f a2_0 a2_1).bind fun t313 => (if t313 = true then (if a2_0 < a0_0 then (spoorref20_Cut.j0 k l1 true a2_0 a2_1) else (spoorref20_Cut.j0 k l1 (decide (a2_1 > a0_1)) a2_0 a2_1)) else (spoorref20_Cut.j0 k l1 true a2_0 a2_1))) else (some (([] : List (S52)), 2)))) = some (r1, r2) := h
 clear h
 replace H := Option.bind_eq_some_iff.mp H
 obtain ⟨t312, A40, H⟩ := H
 replace H : (if t312 = 0 then ((spoorref19_One.f a2_0 a2_1).bind fun t313 => (if t313 = true then (if a2_0 < a0_0 then (spoorref20_Cut.j0 k l1 true a2_0 a2_1) else (spoorref20_Cut.j0 k l1 (decide (a2_1 > a0_1)) a2_0 a2_1)) else (spoorref20_Cut.j0 k l1 true a2_0 a2_1))) else (some (([] : List (S52)), 2))) = some (r1, r2) := H
 have A4 := Ax A40
 clear A40
 by_cases c5 : t312 = 0
 ·rw [if_pos c5] at H
  have c5b0 : (t312 == 0) = true := beq_iff_eq.mpr c5
  have c5b1 : (t312 != 0) = false := bne_eq_false_iff_eq.mpr c5
  clear c5
  have HC6 := Ax H
  clear H
  go_enter Try.func19, Try.ntmps19
  go_upto_region 3 with (first | ((with_reducible refine gate_dst (N := 3) rfl ?_); refine box_event ?hg (N := 3) ?hd (cs := #[.int .i64 a0_0, .int .i64 a0_1]) (t := 23) ?hr ?_; (case hd => rfl); (case hg => rfl); (case hr => first | (go_simp; done) | (go_simp; rfl)); intro gb310 hg w7 hbox hb; have n0_ := Bs0 HB hb; have n1_ := Ax (hbox); have n2_ := Gw0 HB hg; have n3_ := Gw0 HB hg; clear HB; have HB := n0_; have BK310 := n1_; have GW310 := n2_; have GE310 := n3_; clear n0_ n1_ n2_ n3_; clear hb hbox hg) | ((with_reducible refine gate_dst (N := 5) rfl ?_); refine box_event ?hg (N := 5) ?hd (cs := #[.int .i64 a2_0, .int .i64 a2_1]) (t := 23) ?hr ?_; (case hd => rfl); (case hg => rfl); (case hr => first | (go_simp; done) | (go_simp; rfl)); intro gb311 hg w8 hbox hb; have n0_ := Bx0 BK310 hb; have n1_ := Bs1 HB hb GE310.out; have n2_ := Ax (hbox); have n3_ := Gw1 HB hg GE310.out; have n4_ := Gw1 HB hg GE310.out; have n5_ := Nl0 BK310 hg; have n6_ := Nr0 BK310 hg; clear BK310; clear HB; have BK310 := n0_; have HB := n1_; have BK311 := n2_; have GW311 := n3_; have GE311 := n4_; have NB310_311 := n5_; have NB311_310 := n6_; clear n0_ n1_ n2_ n3_ n4_ n5_ n6_; clear hb hbox hg; have hnb9 := NB310_311.out; have hnc9 := NB311_310.out; obtain ⟨hcz10_0, hcz10_1, hfz10_0, hfz10_1⟩ := cl2 BK310) | ((with_reducible refine gate_callee (f := 13) rfl ?_); refine goesL_ (some 14) rfl rfl Try.func13 (by kernel_rfl) rfl #[.agg #[.int .i64 a0_0, .int .i64 a0_1], .slice A1 l1.length c1] rfl gS ?_; (with_reducible refine (spoorref20_Check.calls k a0_0 a0_1 _ _ l1 t312 _ ?side1 ?side2 A4.out).mono ?_); (case side1 => repeat (first | exact (Kd.C_below HR1.out HB.out) | (with_reducible refine Kd.C_alloc ?_ _) | (with_reducible refine Kd.C_drewN ?_ _) | (with_reducible refine Kd.C_drew ?_))); (case side2 => exact HC1.out); rintro e w11 ⟨rfl, hb⟩; refine ⟨_, rfl, ?_⟩; replace BK310 := Bx0 BK310 hb; replace BK311 := Bx0 BK311 hb; replace HB := Bs2 HB hb GE310.out GE311.out; (try clear hb); (try clear hb2); (try clear hk); (try clear hi)))
  (try simp only [Act.put, List.setIfInBounds_toArray, List.set_cons_zero, List.set_cons_succ])
  go_cut [32] (fun v32 wc => ∃ (kq : Nat) (x32_5 : Bool), v32 = .bool x32_5 ∧ Aside0 (spoorref20_Cut.j0 kq l1 x32_5 a2_0 a2_1 = some (r1, r2)) ∧ Aside0 (kq ≤ k) ∧ Aside0 (wc.heap[gb310]? = some (.cells #[.int .i64 a0_0, .int .i64 a0_1] 23 (0, 0))) ∧ Aside0 (wc.heap[gb311]? = some (.cells #[.int .i64 a2_0, .int .i64 a2_1] 23 (0, 0))) ∧ Aside0 (Below w.heap.size w wc))
  case first =>
   have H := HC6.out
   clear HC6
   replace H := Option.bind_eq_some_iff.mp H
   obtain ⟨t313, A120, H⟩ := H
   replace H : (if t313 = true then (if a2_0 < a0_0 then (spoorref20_Cut.j0 k l1 true a2_0 a2_1) else (spoorref20_Cut.j0 k l1 (decide (a2_1 > a0_1)) a2_0 a2_1)) else (spoorref20_Cut.j0 k l1 true a2_0 a2_1)) = some (r1, r2) := H
   have A12 := Ax A120
   clear A120
   by_cases c13 : t313 = true
   ·subst c13
    have H1 : (if a2_0 < a0_0 then (spoorref20_Cut.j0 k l1 true a2_0 a2_1) else (spoorref20_Cut.j0 k l1 (decide (a2_1 > a0_1)) a2_0 a2_1)) = some (r1, r2) := by rw [if_pos rfl] at H; exact H
    clear H
    have H := H1
    clear H1
    by_cases c14 : a2_0 < a0_0
    ·rw [if_pos c14] at H
     have c14b0 : decide (a2_0 < a0_0) = true := decide_eq_true c14
     clear c14
     (first | rw [c14b0] | (simp only [i64_w, i32_w]; rw [c14b0]) | skip)
     have H' := Ax H
     clear H
     have hnb15 := NB311_310.out
     have hnc15 := NB310_311.out
     obtain ⟨hcz16_0, hcz16_1, hfz16_0, hfz16_1⟩ := cl2 BK311
     go_wp2_with (first | ((with_reducible refine gate_callee (f := 30) rfl ?_); refine goesL_ (some 17) rfl rfl Try.func30 (by kernel_rfl) rfl #[.agg #[.int .i64 a2_0, .int .i64 a2_1]] rfl gS ?_; (with_reducible refine (spoorref19_One.calls a2_0 a2_1 true _ A12.out).mono ?_); rintro e w17 ⟨rfl, hb⟩; refine ⟨_, rfl, ?_⟩; replace BK310 := Bx0 BK310 hb; replace BK311 := Bx0 BK311 hb; replace HB := Bs2 HB hb GE310.out GE311.out; (try clear hb); (try clear hb2); (try clear hk); (try clear hi); obtain ⟨hcz18_0, hcz18_1, hfz18_0, hfz18_1⟩ := cl2 BK311; obtain ⟨hcz19_0, hcz19_1, hfz19_0, hfz19_1⟩ := cl2 BK310))
     go_meet
     case rel => exact ⟨_, (true), rS, H', ⟨by first | omega | exact Nat.le_refl _⟩, ⟨bf0 BK310.out⟩, ⟨bf0 BK311.out⟩, ⟨bw2 HB.out GE310.out GE311.out⟩⟩
    ·rw [if_neg c14] at H
     have c14b0 : decide (a2_0 < a0_0) = false := decide_eq_false c14
     clear c14
     (first | rw [c14b0] | (simp only [i64_w, i32_w]; rw [c14b0]) | skip)
     have H' := Ax H
     clear H
     have hnb20 := NB311_310.out
     have hnc20 := NB310_311.out
     obtain ⟨hcz21_0, hcz21_1, hfz21_0, hfz21_1⟩ := cl2 BK311
     go_wp2_with (first | ((with_reducible refine gate_callee (f := 30) rfl ?_); refine goesL_ (some 17) rfl rfl Try.func30 (by kernel_rfl) rfl #[.agg #[.int .i64 a2_0, .int .i64 a2_1]] rfl gS ?_; (with_reducible refine (spoorref19_One.calls a2_0 a2_1 true _ A12.out).mono ?_); rintro e w22 ⟨rfl, hb⟩; refine ⟨_, rfl, ?_⟩; replace BK310 := Bx0 BK310 hb; replace BK311 := Bx0 BK311 hb; replace HB := Bs2 HB hb GE310.out GE311.out; (try clear hb); (try clear hb2); (try clear hk); (try clear hi); obtain ⟨hcz23_0, hcz23_1, hfz23_0, hfz23_1⟩ := cl2 BK311; obtain ⟨hcz24_0, hcz24_1, hfz24_0, hfz24_1⟩ := cl2 BK310))
     go_meet
     case rel => exact ⟨_, (decide (a2_1 > a0_1)), rS, H', ⟨by first | omega | exact Nat.le_refl _⟩, ⟨bf0 BK310.out⟩, ⟨bf0 BK311.out⟩, ⟨bw2 HB.out GE310.out GE311.out⟩⟩
   ·replace c13 := Bool.eq_false_iff.mpr c13
    subst c13
    have H1 : (spoorref20_Cut.j0 k l1 true a2_0 a2_1) = some (r1, r2) := by rw [if_neg (show ¬ (false = true) by decide)] at H; exact H
    clear H
    have H := H1
    clear H1
    have H' := Ax H
    clear H
    have hnb25 := NB311_310.out
    have hnc25 := NB310_311.out
    obtain ⟨hcz26_0, hcz26_1, hfz26_0, hfz26_1⟩ := cl2 BK311
    go_wp2_with (first | ((with_reducible refine gate_callee (f := 30) rfl ?_); refine goesL_ (some 17) rfl rfl Try.func30 (by kernel_rfl) rfl #[.agg #[.int .i64 a2_0, .int .i64 a2_1]] rfl gS ?_; (with_reducible refine (spoorref19_One.calls a2_0 a2_1 false _ A12.out).mono ?_); rintro e w27 ⟨rfl, hb⟩; refine ⟨_, rfl, ?_⟩; replace BK310 := Bx0 BK310 hb; replace BK311 := Bx0 BK311 hb; replace HB := Bs2 HB hb GE310.out GE311.out; (try clear hb); (try clear hb2); (try clear hk); (try clear hi)))
    go_meet
    case rel => exact ⟨_, (true), rS, H', ⟨by first | omega | exact Nat.le_refl _⟩, ⟨bf0 BK310.out⟩, ⟨bf0 BK311.out⟩, ⟨bw2 HB.out GE310.out GE311.out⟩⟩
  case rest =>
   clear HC6
   try clear c1
   try clear c2
   try clear p2
   try clear c3
   try clear c5
   try clear c5b0
   try clear c5b1
   try clear c9
   try clear c13
   try clear c14
   try clear c14b0
   try clear c15
   try clear c19
   try clear c20
   try clear c25
   try clear hcz10_0
   try clear hcz10_1
   try clear hcz16_0
   try clear hcz16_1
   try clear hcz18_0
   try clear hcz18_1
   try clear hcz19_0
   try clear hcz19_1
   try clear hcz21_0
   try clear hcz21_1
   try clear hcz23_0
   try clear hcz23_1
   try clear hcz24_0
   try clear hcz24_1
   try clear hcz26_0
   try clear hcz26_1
   try clear hfz10_0
   try clear hfz10_1
   try clear hfz16_0
   try clear hfz16_1
   try clear hfz18_0
   try clear hfz18_1
   try clear hfz19_0
   try clear hfz19_1
   try clear hfz21_0
   try clear hfz21_1
   try clear hfz23_0
   try clear hfz23_1
   try clear hfz24_0
   try clear hfz24_1
   try clear hfz26_0
   try clear hfz26_1
   obtain ⟨kq, x32_5, rfl, HA, HJ5, BK310, BK311, HB⟩ := hcut
   cases kq with
   | zero => exact absurd HA.out (by simp [spoorref20_Cut.j0])
   | succ kj5 =>
    have H := HA.out
    clear HA
    simp only [spoorref20_Cut.j0] at H
    by_cases c28 : x32_5 = true
    ·subst c28
     have H1 : (some (([] : List (S52)), 1)) = some (r1, r2) := by rw [if_pos rfl] at H; exact H
     clear H
     have H := H1
     clear H1
     simp only [Option.some.injEq, Prod.mk.injEq] at H
     obtain ⟨rfl, rfl⟩ := H
     go_wp2
     go_ret2
     exact ⟨_, eS, by first | exact Kd.R_nil _ _ _ _ _ | exact Kd.N_nil _ _ _ _ _ | exact Kd.V_nil _ _ _ _ _ | exact Kd.Q_nil _ _ _ _ _ | exact Kd.S_nil _ _ _ _ _, bw2 HB.out GE310.out GE311.out⟩
    ·replace c28 := Bool.eq_false_iff.mpr c28
     subst c28
     have H1 : (spoorref20_Cut.l0 kj5 ([] : List (S52)) l1 (l1.length : Int) 0 a2_0 a2_1) = some (r1, r2) := by rw [if_neg (show ¬ (false = true) by decide)] at H; exact H
     clear H
     have H := H1
     clear H1
     have H' := Ax H
     clear H
     go_wp2
     go_loopg [8, 35] kj5 (fun kq v8 v35 w' => ∃ (x8_2 : List (S52)) (x35_2 : Int), v35 = .int .i64 x35_2 ∧ Aside0 (spoorref20_Cut.l0 kq x8_2 l1 (l1.length : Int) x35_2 a2_0 a2_1 = some (r1, r2)) ∧ Aside0 (kq ≤ kj5) ∧ Aside0 (Kd.R k52 52 w' w.heap.size (fun _ => True) v8 x8_2) ∧ Aside0 (w'.heap[gb310]? = some (.cells #[.int .i64 a0_0, .int .i64 a0_1] 23 (0, 0))) ∧ Aside0 (w'.heap[gb311]? = some (.cells #[.int .i64 a2_0, .int .i64 a2_1] 23 (0, 0))) ∧ Aside0 (Below w.heap.size w w'))
     case atStart => exact ⟨(([] : List (S52))), (0), rS, H', ⟨Nat.le_refl _⟩, ⟨by first | exact Kd.R_nil _ _ _ _ _ | exact Kd.N_nil _ _ _ _ _ | exact Kd.V_nil _ _ _ _ _ | exact Kd.Q_nil _ _ _ _ _ | exact Kd.S_nil _ _ _ _ _⟩, ⟨bf0 BK310.out⟩, ⟨bf0 BK311.out⟩, ⟨bw2 HB.out GE310.out GE311.out⟩⟩
     case round =>
      clear H'
      try clear c1
      try clear c2
      try clear p2
      try clear c3
      try clear c5
      try clear c5b0
      try clear c5b1
      try clear c9
      try clear c13
      try clear c14
      try clear c14b0
      try clear c15
      try clear c19
      try clear c20
      try clear c25
      try clear c28
      try clear hcz10_0
      try clear hcz10_1
      try clear hcz16_0
      try clear hcz16_1
      try clear hcz18_0
      try clear hcz18_1
      try clear hcz19_0
      try clear hcz19_1
      try clear hcz21_0
      try clear hcz21_1
      try clear hcz23_0
      try clear hcz23_1
      try clear hcz24_0
      try clear hcz24_1
      try clear hcz26_0
      try clear hcz26_1
      try clear hfz10_0
      try clear hfz10_1
      try clear hfz16_0
      try clear hfz16_1
      try clear hfz18_0
      try clear hfz18_1
      try clear hfz19_0
      try clear hfz19_1
      try clear hfz21_0
      try clear hfz21_1
      try clear hfz23_0
      try clear hfz23_1
      try clear hfz24_0
      try clear hfz24_1
      try clear hfz26_0
      try clear hfz26_1
      try clear p2
      obtain ⟨x8_2, x35_2, rfl, HA, HK2, HO_8, BK310, BK311, HB⟩ := hrel
      cases gk with
      | zero => exact absurd HA.out (by simp [spoorref20_Cut.l0])
      | succ k2 =>
       have H := HA.out
       clear HA
       simp only [spoorref20_Cut.l0] at H
       by_cases c29 : x35_2 < (l1.length : Int)
       ·rw [if_pos c29] at H
        have c29b0 : decide (x35_2 < (l1.length : Int)) = true := decide_eq_true c29
        clear c29
        by_cases c30 : 0 ≤ x35_2
        ·rw [if_pos c30] at H
         have c30b0 : decide (0 ≤ x35_2) = true := decide_eq_true c30
         clear c30
         by_cases c31 : x35_2 < (l1.length : Int)
         ·rw [if_pos c31] at H
          have c31b0 : decide (x35_2 < (l1.length : Int)) = true := decide_eq_true c31
          clear c31
          obtain ⟨ji32, hji32⟩ : ∃ j_ : Int, (mx ((rd_T52 l1 x35_2).f0.f0) a2_0) = j_ := ⟨_, rfl⟩
          replace H : (if (ji32) ≤ (mn ((rd_T52 l1 x35_2).f0.f1) a2_1) then (if x8_2.length < 4398046511104 then (spoorref20_Cut.l0 k2 (x8_2 ++ [(⟨(⟨ji32, mn ((rd_T52 l1 x35_2).f0.f1) a2_1⟩ : S23), (⟨(rd_T52 l1 x35_2).f1.f0, (rd_T52 l1 x35_2).f1.f1⟩ : S35)⟩ : S52)]) l1 (l1.length : Int) (wrap64 (x35_2 + 1)) a2_0 a2_1) else (none)) else (spoorref20_Cut.l0 k2 x8_2 l1 (l1.length : Int) (wrap64 (x35_2 + 1)) a2_0 a2_1)) = some (r1, r2) := by first | (rw [hji32] at H; exact H) | (simp only [hji32] at H ⊢; exact H)
          have hji32_ : (if ((rd_T52 l1 x35_2).f0.f0) < a2_0 then a2_0 else ((rd_T52 l1 x35_2).f0.f0)) = ji32 := hji32
          obtain ⟨ji33, hji33⟩ : ∃ j_ : Int, (mn ((rd_T52 l1 x35_2).f0.f1) a2_1) = j_ := ⟨_, rfl⟩
          replace H : (if (ji32) ≤ (ji33) then (if x8_2.length < 4398046511104 then (spoorref20_Cut.l0 k2 (x8_2 ++ [(⟨(⟨ji32, ji33⟩ : S23), (⟨(rd_T52 l1 x35_2).f1.f0, (rd_T52 l1 x35_2).f1.f1⟩ : S35)⟩ : S52)]) l1 (l1.length : Int) (wrap64 (x35_2 + 1)) a2_0 a2_1) else (none)) else (spoorref20_Cut.l0 k2 x8_2 l1 (l1.length : Int) (wrap64 (x35_2 + 1)) a2_0 a2_1)) = some (r1, r2) := by first | (rw [hji33] at H; exact H) | (simp only [hji33] at H ⊢; exact H)
          have hji33_ : (if a2_1 < ((rd_T52 l1 x35_2).f0.f1) then a2_1 else ((rd_T52 l1 x35_2).f0.f1)) = ji33 := hji33
          by_cases c34 : (ji32) ≤ (ji33)
          ·rw [if_pos c34] at H
           have c34b0 : decide ((ji32) ≤ (ji33)) = true := decide_eq_true c34
           clear c34
           by_cases c35 : x8_2.length < 4398046511104
           ·rw [if_pos c35] at H
            have LMc35 := Ax c35
            clear c35
            obtain ⟨y317, hy317⟩ : ∃ y_ : List (S52), y_ = (x8_2 ++ [(⟨(⟨ji32, ji33⟩ : S23), (⟨(rd_T52 l1 x35_2).f1.f0, (rd_T52 l1 x35_2).f1.f1⟩ : S35)⟩ : S52)]) := ⟨_, rfl⟩
            replace H : (spoorref20_Cut.l0 k2 y317 l1 (l1.length : Int) (wrap64 (x35_2 + 1)) a2_0 a2_1) = some (r1, r2) := by first | (rw [hy317]; with_reducible exact H) | (have H2_ := (Option.bind_some _ _).symm.trans H; rw [hy317]; with_reducible exact H2_) | (have H2_ := (Option.bind_some _ _).symm.trans H; with_reducible exact H2_) | with_reducible exact H | (rw [hy317]; exact H) | exact H
            have Ny317 := Ax hy317
            clear hy317
            have H' := Ax H
            clear H
            have p314 : 0 ≤ (x35_2 : Int) := of_decide_eq_true (by first | (with_reducible assumption) | assumption)
            have q314 : x35_2 < (l1.length : Int) := of_decide_eq_true (by first | (with_reducible assumption) | assumption)
            obtain ⟨ad314, e314, hx314_0, hx314_1, hx314_2, hx314_3⟩ := at_T52 HR1.out x35_2 p314 q314
            cases e314
            replace hx314_0 := (HB.out.cell (World.block_lt_of_cell? w _ hx314_0)).trans hx314_0
            replace hx314_1 := (HB.out.cell (World.block_lt_of_cell? w _ hx314_1)).trans hx314_1
            replace hx314_2 := (HB.out.cell (World.block_lt_of_cell? w _ hx314_2)).trans hx314_2
            replace hx314_3 := (HB.out.cell (World.block_lt_of_cell? w _ hx314_3)).trans hx314_3
            replace p314 := eq_true p314
            replace q314 := eq_true q314
            go_wp2_with (first | ((with_reducible refine gate_dst (N := 10) rfl ?_); refine box_event ?hg (N := 10) ?hd (cs := #[.int .i64 0, .int .i64 0, .int .u8 0, .int .i64 0]) (t := 52) ?hr ?_; (case hd => rfl); (case hg => rfl); (case hr => first | (go_simp; done) | (go_simp; rfl)); intro gb315 hg w36 hbox hb; have n0_ := Ax (Kd.R_below (Kd.R_elderB (by (with_reducible repeat (first | apply Kd.R_alloc | apply Kd.R_drewN | apply Kd.R_drew)); exact HO_8.out) gb315 (Nat.le_of_eq hg.symm)) hb); have n1_ := Bx0 BK310 hb; have n2_ := Bx0 BK311 hb; have n3_ := Bs2 HB hb GE310.out GE311.out; have n4_ := Ax (hbox); have n5_ := Gw2 HB hg GE310.out GE311.out; have n6_ := Gw2 HB hg GE310.out GE311.out; have n7_ := Nl0 BK310 hg; have n8_ := Nr0 BK310 hg; have n9_ := Nl0 BK311 hg; have n10_ := Nr0 BK311 hg; clear HO_8; clear BK310; clear BK311; clear HB; have HO_8 := n0_; have BK310 := n1_; have BK311 := n2_; have HB := n3_; have BK315 := n4_; have GW315 := n5_; have GE315 := n6_; have NB310_315 := n7_; have NB315_310 := n8_; have NB311_315 := n9_; have NB315_311 := n10_; clear n0_ n1_ n2_ n3_ n4_ n5_ n6_ n7_ n8_ n9_ n10_; clear hb hbox hg; have hnb37 := NB315_310.out; have hnc37 := NB310_315.out; have hnb38 := NB315_311.out; have hnc38 := NB311_315.out; obtain ⟨hcz39_0, hcz39_1, hcz39_2, hcz39_3, hfz39_0, hfz39_1, hfz39_2, hfz39_3⟩ := cl4 BK315; have hnb40 := NB311_310.out; have hnc40 := NB310_311.out; obtain ⟨hcz41_0, hcz41_1, hfz41_0, hfz41_1⟩ := cl2 BK311) | ((with_reducible refine gate_dst (N := 11) rfl ?_); refine box_event ?hg (N := 11) ?hd (cs := #[.int .i64 0, .int .i64 0]) (t := 23) ?hr ?_; (case hd => rfl); (case hg => rfl); (case hr => first | (go_simp; done) | (go_simp; rfl)); intro gb316 hg w42 hbox hb; have n0_ := Ax (Kd.R_below (by (with_reducible repeat (first | apply Kd.R_alloc | apply Kd.R_drewN | apply Kd.R_drew)); exact (Kd.R_mono (Kd.R_far (p := ⟨gb315, 3, none⟩) (Kd.R_far (p := ⟨gb315, 2, none⟩) (Kd.R_far (p := ⟨gb315, 1, none⟩) (Kd.R_far (p := ⟨gb315, 0, none⟩) (Kd.R_mono HO_8.out (fun k_ hk => (⟨hk, hk.2⟩ : _ ∧ k_ ≠ gb315))) (fun _ hk => hk.2) (.int .i64 ((rd_T52 l1 x35_2).f0.f0))) (fun _ hk => hk.2) (.int .i64 ((rd_T52 l1 x35_2).f0.f1))) (fun _ hk => hk.2) (.int .u8 ((rd_T52 l1 x35_2).f1.f0))) (fun _ hk => hk.2) (.int .i64 ((rd_T52 l1 x35_2).f1.f1))) (fun _ h_ => h_.1))) hb); have n1_ := Bx4 BK310 hb NB310_315.out NB310_315.out NB310_315.out NB310_315.out; have n2_ := Bx4 BK311 hb NB311_315.out NB311_315.out NB311_315.out NB311_315.out; have n3_ := Ax (blk_below (g := gb315) (o := .cells #[.int .i64 ((rd_T52 l1 x35_2).f0.f0), .int .i64 ((rd_T52 l1 x35_2).f0.f1), .int .u8 ((rd_T52 l1 x35_2).f1.f0), .int .i64 ((rd_T52 l1 x35_2).f1.f1)] 52 (0, 0)) (by (with_reducible repeat (first | refine blk_drewN ?_ _ | refine blk_drew ?_ | refine blk_alloc ?_ _)); refine blk_put (cs := #[.int .i64 ((rd_T52 l1 x35_2).f0.f0), .int .i64 ((rd_T52 l1 x35_2).f0.f1), .int .u8 ((rd_T52 l1 x35_2).f1.f0), .int .i64 0]) ?_ 3 _ rfl; (with_reducible repeat (first | refine blk_drewN ?_ _ | refine blk_drew ?_ | refine blk_alloc ?_ _)); refine blk_put (cs := #[.int .i64 ((rd_T52 l1 x35_2).f0.f0), .int .i64 ((rd_T52 l1 x35_2).f0.f1), .int .u8 0, .int .i64 0]) ?_ 2 _ rfl; (with_reducible repeat (first | refine blk_drewN ?_ _ | refine blk_drew ?_ | refine blk_alloc ?_ _)); refine blk_put (cs := #[.int .i64 ((rd_T52 l1 x35_2).f0.f0), .int .i64 0, .int .u8 0, .int .i64 0]) ?_ 1 _ rfl; (with_reducible repeat (first | refine blk_drewN ?_ _ | refine blk_drew ?_ | refine blk_alloc ?_ _)); refine blk_put (cs := #[.int .i64 0, .int .i64 0, .int .u8 0, .int .i64 0]) ?_ 0 _ rfl; (with_reducible repeat (first | refine blk_drewN ?_ _ | refine blk_drew ?_ | refine blk_alloc ?_ _)); exact BK315.out) hb); have n4_ := Bs3 HB hb GE310.out GE311.out GE315.out; have n5_ := Ax (hbox); have n6_ := Gw3 HB hg GE310.out GE311.out GE315.out; have n7_ := Gw3 HB hg GE310.out GE311.out GE315.out; have n8_ := Nl4 BK310 hg NB310_315.out NB310_315.out NB310_315.out NB310_315.out; have n9_ := Nr4 BK310 hg NB310_315.out NB310_315.out NB310_315.out NB310_315.out; have n10_ := Nl4 BK311 hg NB311_315.out NB311_315.out NB311_315.out NB311_315.out; have n11_ := Nr4 BK311 hg NB311_315.out NB311_315.out NB311_315.out NB311_315.out; have n12_ := Ax ((by rw [hg]; exact Nat.ne_of_lt (blk_lt (g := gb315) (o := .cells #[.int .i64 ((rd_T52 l1 x35_2).f0.f0), .int .i64 ((rd_T52 l1 x35_2).f0.f1), .int .u8 ((rd_T52 l1 x35_2).f1.f0), .int .i64 ((rd_T52 l1 x35_2).f1.f1)] 52 (0, 0)) (by (with_reducible repeat (first | refine blk_drewN ?_ _ | refine blk_drew ?_ | refine blk_alloc ?_ _)); refine blk_put (cs := #[.int .i64 ((rd_T52 l1 x35_2).f0.f0), .int .i64 ((rd_T52 l1 x35_2).f0.f1), .int .u8 ((rd_T52 l1 x35_2).f1.f0), .int .i64 0]) ?_ 3 _ rfl; (with_reducible repeat (first | refine blk_drewN ?_ _ | refine blk_drew ?_ | refine blk_alloc ?_ _)); refine blk_put (cs := #[.int .i64 ((rd_T52 l1 x35_2).f0.f0), .int .i64 ((rd_T52 l1 x35_2).f0.f1), .int .u8 0, .int .i64 0]) ?_ 2 _ rfl; (with_reducible repeat (first | refine blk_drewN ?_ _ | refine blk_drew ?_ | refine blk_alloc ?_ _)); refine blk_put (cs := #[.int .i64 ((rd_T52 l1 x35_2).f0.f0), .int .i64 0, .int .u8 0, .int .i64 0]) ?_ 1 _ rfl; (with_reducible repeat (first | refine blk_drewN ?_ _ | refine blk_drew ?_ | refine blk_alloc ?_ _)); refine blk_put (cs := #[.int .i64 0, .int .i64 0, .int .u8 0, .int .i64 0]) ?_ 0 _ rfl; (with_reducible repeat (first | refine blk_drewN ?_ _ | refine blk_drew ?_ | refine blk_alloc ?_ _)); exact BK315.out)) : gb315 ≠ gb316)); have n13_ := Ax ((by rw [hg]; exact Nat.ne_of_gt (blk_lt (g := gb315) (o := .cells #[.int .i64 ((rd_T52 l1 x35_2).f0.f0), .int .i64 ((rd_T52 l1 x35_2).f0.f1), .int .u8 ((rd_T52 l1 x35_2).f1.f0), .int .i64 ((rd_T52 l1 x35_2).f1.f1)] 52 (0, 0)) (by (with_reducible repeat (first | refine blk_drewN ?_ _ | refine blk_drew ?_ | refine blk_alloc ?_ _)); refine blk_put (cs := #[.int .i64 ((rd_T52 l1 x35_2).f0.f0), .int .i64 ((rd_T52 l1 x35_2).f0.f1), .int .u8 ((rd_T52 l1 x35_2).f1.f0), .int .i64 0]) ?_ 3 _ rfl; (with_reducible repeat (first | refine blk_drewN ?_ _ | refine blk_drew ?_ | refine blk_alloc ?_ _)); refine blk_put (cs := #[.int .i64 ((rd_T52 l1 x35_2).f0.f0), .int .i64 ((rd_T52 l1 x35_2).f0.f1), .int .u8 0, .int .i64 0]) ?_ 2 _ rfl; (with_reducible repeat (first | refine blk_drewN ?_ _ | refine blk_drew ?_ | refine blk_alloc ?_ _)); refine blk_put (cs := #[.int .i64 ((rd_T52 l1 x35_2).f0.f0), .int .i64 0, .int .u8 0, .int .i64 0]) ?_ 1 _ rfl; (with_reducible repeat (first | refine blk_drewN ?_ _ | refine blk_drew ?_ | refine blk_alloc ?_ _)); refine blk_put (cs := #[.int .i64 0, .int .i64 0, .int .u8 0, .int .i64 0]) ?_ 0 _ rfl; (with_reducible repeat (first | refine blk_drewN ?_ _ | refine blk_drew ?_ | refine blk_alloc ?_ _)); exact BK315.out)) : gb316 ≠ gb315)); clear HO_8; clear BK310; clear BK311; clear BK315; clear HB; have HO_8 := n0_; have BK310 := n1_; have BK311 := n2_; have BK315 := n3_; have HB := n4_; have BK316 := n5_; have GW316 := n6_; have GE316 := n7_; have NB310_316 := n8_; have NB316_310 := n9_; have NB311_316 := n10_; have NB316_311 := n11_; have NB315_316 := n12_; have NB316_315 := n13_; clear n0_ n1_ n2_ n3_ n4_ n5_ n6_ n7_ n8_ n9_ n10_ n11_ n12_ n13_; clear hb hbox hg; have hnb43 := NB316_310.out; have hnc43 := NB310_316.out; have hnb44 := NB316_311.out; have hnc44 := NB311_316.out; have hnb45 := NB316_315.out; have hnc45 := NB315_316.out; obtain ⟨hcz46_0, hcz46_1, hfz46_0, hfz46_1⟩ := cl2 BK316; obtain ⟨hcz47_0, hcz47_1, hcz47_2, hcz47_3, hfz47_0, hfz47_1, hfz47_2, hfz47_3⟩ := cl4 BK315) | ((with_reducible refine gate_builtin (b := .append) (xs := #[.tmp 57, .tmp 62]) rfl ?_); at_builtin; refine Kd.R_append k52 (w0 := w) w.heap.size rfl (.tmp 57) (.tmp 62) 25 52 (.agg #[(.int .i64 0), (.int .i64 0), (.int .u8 0), (.int .i64 0)]) 32 rfl Try.underlying25 info52 rfl (by decide) (by omega) u8 x8_2 (⟨(⟨ji32, ji33⟩ : S23), (⟨(rd_T52 l1 x35_2).f1.f0, (rd_T52 l1 x35_2).f1.f1⟩ : S35)⟩ : S52) [.int .i64 ji32, .int .i64 ji33, .int .u8 ((rd_T52 l1 x35_2).f1.f0), .int .i64 ((rd_T52 l1 x35_2).f1.f1)] (fun k_ => k_ ≠ gb315) (fun _ => False) rfl (by first | (go_simp; done) | (go_simp; rfl)) ?aP (fun _ hk => hk.elim) ?aF ?aO ?aB ?aS ?aL ?_; (case aP => exact k52_mkM _ _ _ (⟨(⟨ji32, ji33⟩ : S23), (⟨(rd_T52 l1 x35_2).f1.f0, (rd_T52 l1 x35_2).f1.f1⟩ : S35)⟩ : S52)); (case aB => exact (bw4 HB.out GE310.out GE311.out GE315.out GE316.out)); (case aF => exact (fun k_ hk => Kd.freshB (g := gb315) (o := .cells #[.int .i64 ((rd_T52 l1 x35_2).f0.f0), .int .i64 ((rd_T52 l1 x35_2).f0.f1), .int .u8 ((rd_T52 l1 x35_2).f1.f0), .int .i64 ((rd_T52 l1 x35_2).f1.f1)] 52 (0, 0)) (bf2 BK315.out NB315_316.out NB315_316.out) k_ hk)); (case aO => exact (by (with_reducible repeat (first | apply Kd.R_alloc | apply Kd.R_drewN | apply Kd.R_drew)); exact Kd.R_mono (Kd.R_far (p := ⟨gb316, 1, none⟩) (Kd.R_far (p := ⟨gb316, 0, none⟩) (Kd.R_types HO_8.out BK316.out (by decide)) (fun _ hk => hk.2) (.int .i64 ji32)) (fun _ hk => hk.2) (.int .i64 ji33)) (fun _ hk => hk.1.2))); (case aS => exact (below_size (bw4 HB.out GE310.out GE311.out GE315.out GE316.out))); (case aL => have := LMc35.out; omega); intro v318 w48 ho hb hg hat; rw [← Ny317.out] at ho; have n0_ := Ax (blk_grown (g := gb310) (o := .cells #[.int .i64 a0_0, .int .i64 a0_1] 23 (0, 0)) (bf2 BK310.out NB310_316.out NB310_316.out) hg (Kd.R_ne HO_8.out BK310.out (by decide))); have n1_ := Ax (blk_grown (g := gb311) (o := .cells #[.int .i64 a2_0, .int .i64 a2_1] 23 (0, 0)) (bf2 BK311.out NB311_316.out NB311_316.out) hg (Kd.R_ne HO_8.out BK311.out (by decide))); have n2_ := Ax (blk_grown (g := gb315) (o := .cells #[.int .i64 ((rd_T52 l1 x35_2).f0.f0), .int .i64 ((rd_T52 l1 x35_2).f0.f1), .int .u8 ((rd_T52 l1 x35_2).f1.f0), .int .i64 ((rd_T52 l1 x35_2).f1.f1)] 52 (0, 0)) (bf2 BK315.out NB315_316.out NB315_316.out) hg (Kd.R_away HO_8.out (fun _ hk => hk.2))); have n3_ := Ax (blk_grown (g := gb316) (o := .cells #[.int .i64 ji32, .int .i64 ji33] 23 (0, 0)) (by (with_reducible repeat (first | refine blk_drewN ?_ _ | refine blk_drew ?_ | refine blk_alloc ?_ _)); refine blk_put (cs := #[.int .i64 ji32, .int .i64 0]) ?_ 1 _ rfl; (with_reducible repeat (first | refine blk_drewN ?_ _ | refine blk_drew ?_ | refine blk_alloc ?_ _)); refine blk_put (cs := #[.int .i64 0, .int .i64 0]) ?_ 0 _ rfl; (with_reducible repeat (first | refine blk_drewN ?_ _ | refine blk_drew ?_ | refine blk_alloc ?_ _)); exact BK316.out) hg (Kd.R_ne HO_8.out BK316.out (by decide))); have n4_ := Ax (hb); have n5_ := Ax (ho); clear BK310; clear BK311; clear BK315; clear BK316; clear HB; clear HO_8; have BK310 := n0_; have BK311 := n1_; have BK315 := n2_; have BK316 := n3_; have HB := n4_; have HO319 := n5_; clear n0_ n1_ n2_ n3_ n4_ n5_; clear ho hb hg hat))
            go_roundg k2
            case measure => have := HJ5.out; have := HK2.out; omega
            case rel => exact ⟨(y317), (wrap64 (x35_2 + 1)), rS, H', ⟨by have := HJ5.out; have := HK2.out; omega⟩, ⟨by (with_reducible repeat (first | apply Kd.R_alloc | apply Kd.R_drewN | apply Kd.R_drew)); exact Kd.R_mono HO319.out (fun _ hk => trivial)⟩, ⟨bf0 BK310.out⟩, ⟨bf0 BK311.out⟩, ⟨bw4 HB.out GE310.out GE311.out GE315.out GE316.out⟩⟩
           ·rw [if_neg c35] at H
            exact absurd H (by simp)
          ·rw [if_neg c34] at H
           have c34b0 : decide ((ji32) ≤ (ji33)) = false := decide_eq_false c34
           clear c34
           have H' := Ax H
           clear H
           have p314 : 0 ≤ (x35_2 : Int) := of_decide_eq_true (by first | (with_reducible assumption) | assumption)
           have q314 : x35_2 < (l1.length : Int) := of_decide_eq_true (by first | (with_reducible assumption) | assumption)
           obtain ⟨ad314, e314, hx314_0, hx314_1, hx314_2, hx314_3⟩ := at_T52 HR1.out x35_2 p314 q314
           cases e314
           replace hx314_0 := (HB.out.cell (World.block_lt_of_cell? w _ hx314_0)).trans hx314_0
           replace hx314_1 := (HB.out.cell (World.block_lt_of_cell? w _ hx314_1)).trans hx314_1
           replace hx314_2 := (HB.out.cell (World.block_lt_of_cell? w _ hx314_2)).trans hx314_2
           replace hx314_3 := (HB.out.cell (World.block_lt_of_cell? w _ hx314_3)).trans hx314_3
           replace p314 := eq_true p314
           replace q314 := eq_true q314
           go_wp2_with (first | ((with_reducible refine gate_dst (N := 10) rfl ?_); refine box_event ?hg (N := 10) ?hd (cs := #[.int .i64 0, .int .i64 0, .int .u8 0, .int .i64 0]) (t := 52) ?hr ?_; (case hd => rfl); (case hg => rfl); (case hr => first | (go_simp; done) | (go_simp; rfl)); intro gb315 hg w49 hbox hb; have n0_ := Ax (Kd.R_below (Kd.R_elderB (by (with_reducible repeat (first | apply Kd.R_alloc | apply Kd.R_drewN | apply Kd.R_drew)); exact HO_8.out) gb315 (Nat.le_of_eq hg.symm)) hb); have n1_ := Bx0 BK310 hb; have n2_ := Bx0 BK311 hb; have n3_ := Bs2 HB hb GE310.out GE311.out; have n4_ := Ax (hbox); have n5_ := Gw2 HB hg GE310.out GE311.out; have n6_ := Gw2 HB hg GE310.out GE311.out; have n7_ := Nl0 BK310 hg; have n8_ := Nr0 BK310 hg; have n9_ := Nl0 BK311 hg; have n10_ := Nr0 BK311 hg; clear HO_8; clear BK310; clear BK311; clear HB; have HO_8 := n0_; have BK310 := n1_; have BK311 := n2_; have HB := n3_; have BK315 := n4_; have GW315 := n5_; have GE315 := n6_; have NB310_315 := n7_; have NB315_310 := n8_; have NB311_315 := n9_; have NB315_311 := n10_; clear n0_ n1_ n2_ n3_ n4_ n5_ n6_ n7_ n8_ n9_ n10_; clear hb hbox hg; have hnb50 := NB315_310.out; have hnc50 := NB310_315.out; have hnb51 := NB315_311.out; have hnc51 := NB311_315.out; obtain ⟨hcz52_0, hcz52_1, hcz52_2, hcz52_3, hfz52_0, hfz52_1, hfz52_2, hfz52_3⟩ := cl4 BK315; have hnb53 := NB311_310.out; have hnc53 := NB310_311.out; obtain ⟨hcz54_0, hcz54_1, hfz54_0, hfz54_1⟩ := cl2 BK311) | ((with_reducible refine gate_dst (N := 11) rfl ?_); refine box_event ?hg (N := 11) ?hd (cs := #[.int .i64 0, .int .i64 0]) (t := 23) ?hr ?_; (case hd => rfl); (case hg => rfl); (case hr => first | (go_simp; done) | (go_simp; rfl)); intro gb316 hg w55 hbox hb; have n0_ := Ax (Kd.R_below (by (with_reducible repeat (first | apply Kd.R_alloc | apply Kd.R_drewN | apply Kd.R_drew)); exact (Kd.R_mono (Kd.R_far (p := ⟨gb315, 3, none⟩) (Kd.R_far (p := ⟨gb315, 2, none⟩) (Kd.R_far (p := ⟨gb315, 1, none⟩) (Kd.R_far (p := ⟨gb315, 0, none⟩) (Kd.R_mono HO_8.out (fun k_ hk => (⟨hk, hk.2⟩ : _ ∧ k_ ≠ gb315))) (fun _ hk => hk.2) (.int .i64 ((rd_T52 l1 x35_2).f0.f0))) (fun _ hk => hk.2) (.int .i64 ((rd_T52 l1 x35_2).f0.f1))) (fun _ hk => hk.2) (.int .u8 ((rd_T52 l1 x35_2).f1.f0))) (fun _ hk => hk.2) (.int .i64 ((rd_T52 l1 x35_2).f1.f1))) (fun _ h_ => h_.1))) hb); have n1_ := Bx4 BK310 hb NB310_315.out NB310_315.out NB310_315.out NB310_315.out; have n2_ := Bx4 BK311 hb NB311_315.out NB311_315.out NB311_315.out NB311_315.out; have n3_ := Ax (blk_below (g := gb315) (o := .cells #[.int .i64 ((rd_T52 l1 x35_2).f0.f0), .int .i64 ((rd_T52 l1 x35_2).f0.f1), .int .u8 ((rd_T52 l1 x35_2).f1.f0), .int .i64 ((rd_T52 l1 x35_2).f1.f1)] 52 (0, 0)) (by (with_reducible repeat (first | refine blk_drewN ?_ _ | refine blk_drew ?_ | refine blk_alloc ?_ _)); refine blk_put (cs := #[.int .i64 ((rd_T52 l1 x35_2).f0.f0), .int .i64 ((rd_T52 l1 x35_2).f0.f1), .int .u8 ((rd_T52 l1 x35_2).f1.f0), .int .i64 0]) ?_ 3 _ rfl; (with_reducible repeat (first | refine blk_drewN ?_ _ | refine blk_drew ?_ | refine blk_alloc ?_ _)); refine blk_put (cs := #[.int .i64 ((rd_T52 l1 x35_2).f0.f0), .int .i64 ((rd_T52 l1 x35_2).f0.f1), .int .u8 0, .int .i64 0]) ?_ 2 _ rfl; (with_reducible repeat (first | refine blk_drewN ?_ _ | refine blk_drew ?_ | refine blk_alloc ?_ _)); refine blk_put (cs := #[.int .i64 ((rd_T52 l1 x35_2).f0.f0), .int .i64 0, .int .u8 0, .int .i64 0]) ?_ 1 _ rfl; (with_reducible repeat (first | refine blk_drewN ?_ _ | refine blk_drew ?_ | refine blk_alloc ?_ _)); refine blk_put (cs := #[.int .i64 0, .int .i64 0, .int .u8 0, .int .i64 0]) ?_ 0 _ rfl; (with_reducible repeat (first | refine blk_drewN ?_ _ | refine blk_drew ?_ | refine blk_alloc ?_ _)); exact BK315.out) hb); have n4_ := Bs3 HB hb GE310.out GE311.out GE315.out; have n5_ := Ax (hbox); have n6_ := Gw3 HB hg GE310.out GE311.out GE315.out; have n7_ := Gw3 HB hg GE310.out GE311.out GE315.out; have n8_ := Nl4 BK310 hg NB310_315.out NB310_315.out NB310_315.out NB310_315.out; have n9_ := Nr4 BK310 hg NB310_315.out NB310_315.out NB310_315.out NB310_315.out; have n10_ := Nl4 BK311 hg NB311_315.out NB311_315.out NB311_315.out NB311_315.out; have n11_ := Nr4 BK311 hg NB311_315.out NB311_315.out NB311_315.out NB311_315.out; have n12_ := Ax ((by rw [hg]; exact Nat.ne_of_lt (blk_lt (g := gb315) (o := .cells #[.int .i64 ((rd_T52 l1 x35_2).f0.f0), .int .i64 ((rd_T52 l1 x35_2).f0.f1), .int .u8 ((rd_T52 l1 x35_2).f1.f0), .int .i64 ((rd_T52 l1 x35_2).f1.f1)] 52 (0, 0)) (by (with_reducible repeat (first | refine blk_drewN ?_ _ | refine blk_drew ?_ | refine blk_alloc ?_ _)); refine blk_put (cs := #[.int .i64 ((rd_T52 l1 x35_2).f0.f0), .int .i64 ((rd_T52 l1 x35_2).f0.f1), .int .u8 ((rd_T52 l1 x35_2).f1.f0), .int .i64 0]) ?_ 3 _ rfl; (with_reducible repeat (first | refine blk_drewN ?_ _ | refine blk_drew ?_ | refine blk_alloc ?_ _)); refine blk_put (cs := #[.int .i64 ((rd_T52 l1 x35_2).f0.f0), .int .i64 ((rd_T52 l1 x35_2).f0.f1), .int .u8 0, .int .i64 0]) ?_ 2 _ rfl; (with_reducible repeat (first | refine blk_drewN ?_ _ | refine blk_drew ?_ | refine blk_alloc ?_ _)); refine blk_put (cs := #[.int .i64 ((rd_T52 l1 x35_2).f0.f0), .int .i64 0, .int .u8 0, .int .i64 0]) ?_ 1 _ rfl; (with_reducible repeat (first | refine blk_drewN ?_ _ | refine blk_drew ?_ | refine blk_alloc ?_ _)); refine blk_put (cs := #[.int .i64 0, .int .i64 0, .int .u8 0, .int .i64 0]) ?_ 0 _ rfl; (with_reducible repeat (first | refine blk_drewN ?_ _ | refine blk_drew ?_ | refine blk_alloc ?_ _)); exact BK315.out)) : gb315 ≠ gb316)); have n13_ := Ax ((by rw [hg]; exact Nat.ne_of_gt (blk_lt (g := gb315) (o := .cells #[.int .i64 ((rd_T52 l1 x35_2).f0.f0), .int .i64 ((rd_T52 l1 x35_2).f0.f1), .int .u8 ((rd_T52 l1 x35_2).f1.f0), .int .i64 ((rd_T52 l1 x35_2).f1.f1)] 52 (0, 0)) (by (with_reducible repeat (first | refine blk_drewN ?_ _ | refine blk_drew ?_ | refine blk_alloc ?_ _)); refine blk_put (cs := #[.int .i64 ((rd_T52 l1 x35_2).f0.f0), .int .i64 ((rd_T52 l1 x35_2).f0.f1), .int .u8 ((rd_T52 l1 x35_2).f1.f0), .int .i64 0]) ?_ 3 _ rfl; (with_reducible repeat (first | refine blk_drewN ?_ _ | refine blk_drew ?_ | refine blk_alloc ?_ _)); refine blk_put (cs := #[.int .i64 ((rd_T52 l1 x35_2).f0.f0), .int .i64 ((rd_T52 l1 x35_2).f0.f1), .int .u8 0, .int .i64 0]) ?_ 2 _ rfl; (with_reducible repeat (first | refine blk_drewN ?_ _ | refine blk_drew ?_ | refine blk_alloc ?_ _)); refine blk_put (cs := #[.int .i64 ((rd_T52 l1 x35_2).f0.f0), .int .i64 0, .int .u8 0, .int .i64 0]) ?_ 1 _ rfl; (with_reducible repeat (first | refine blk_drewN ?_ _ | refine blk_drew ?_ | refine blk_alloc ?_ _)); refine blk_put (cs := #[.int .i64 0, .int .i64 0, .int .u8 0, .int .i64 0]) ?_ 0 _ rfl; (with_reducible repeat (first | refine blk_drewN ?_ _ | refine blk_drew ?_ | refine blk_alloc ?_ _)); exact BK315.out)) : gb316 ≠ gb315)); clear HO_8; clear BK310; clear BK311; clear BK315; clear HB; have HO_8 := n0_; have BK310 := n1_; have BK311 := n2_; have BK315 := n3_; have HB := n4_; have BK316 := n5_; have GW316 := n6_; have GE316 := n7_; have NB310_316 := n8_; have NB316_310 := n9_; have NB311_316 := n10_; have NB316_311 := n11_; have NB315_316 := n12_; have NB316_315 := n13_; clear n0_ n1_ n2_ n3_ n4_ n5_ n6_ n7_ n8_ n9_ n10_ n11_ n12_ n13_; clear hb hbox hg; have hnb56 := NB316_310.out; have hnc56 := NB310_316.out; have hnb57 := NB316_311.out; have hnc57 := NB311_316.out; have hnb58 := NB316_315.out; have hnc58 := NB315_316.out; obtain ⟨hcz59_0, hcz59_1, hfz59_0, hfz59_1⟩ := cl2 BK316))
           go_roundg k2
           case measure => have := HJ5.out; have := HK2.out; omega
           case rel => exact ⟨(x8_2), (wrap64 (x35_2 + 1)), rS, H', ⟨by have := HJ5.out; have := HK2.out; omega⟩, ⟨by (with_reducible repeat (first | apply Kd.R_alloc | apply Kd.R_drewN | apply Kd.R_drew)); exact Kd.R_mono (Kd.R_far (p := ⟨gb316, 1, none⟩) (Kd.R_far (p := ⟨gb316, 0, none⟩) (Kd.R_types HO_8.out BK316.out (by decide)) (fun _ hk => hk.2) (.int .i64 ji32)) (fun _ hk => hk.2) (.int .i64 ji33)) (fun _ hk => trivial)⟩, ⟨bf2 BK310.out NB310_316.out NB310_316.out⟩, ⟨bf2 BK311.out NB311_316.out NB311_316.out⟩, ⟨bw4 HB.out GE310.out GE311.out GE315.out GE316.out⟩⟩
         ·rw [if_neg c31] at H
          exact absurd H (by simp)
        ·rw [if_neg c30] at H
         exact absurd H (by simp)
       ·rw [if_neg c29] at H
        have c29b0 : decide (x35_2 < (l1.length : Int)) = false := decide_eq_false c29
        clear c29
        simp only [Option.some.injEq, Prod.mk.injEq] at H
        obtain ⟨rfl, rfl⟩ := H
        go_wp2
        go_ret2
        exact ⟨_, eS, by (with_reducible repeat (first | apply Kd.R_alloc | apply Kd.R_drewN | apply Kd.R_drew)); exact HO_8.out, bw2 HB.out GE310.out GE311.out⟩
 ·rw [if_neg c5] at H
  have c5b0 : (t312 == 0) = false := beq_eq_false_iff_ne.mpr c5
  have c5b1 : (t312 != 0) = true := bne_iff_ne.mpr c5
  simp only [Option.some.injEq, Prod.mk.injEq] at H
  obtain ⟨rfl, rfl⟩ := H
  go_enter Try.func19, Try.ntmps19
  go_wp2_with (first | ((with_reducible refine gate_dst (N := 3) rfl ?_); refine box_event ?hg (N := 3) ?hd (cs := #[.int .i64 a0_0, .int .i64 a0_1]) (t := 23) ?hr ?_; (case hd => rfl); (case hg => rfl); (case hr => first | (go_simp; done) | (go_simp; rfl)); intro gb310 hg w60 hbox hb; have n0_ := Bs0 HB hb; have n1_ := Ax (hbox); have n2_ := Gw0 HB hg; have n3_ := Gw0 HB hg; clear HB; have HB := n0_; have BK310 := n1_; have GW310 := n2_; have GE310 := n3_; clear n0_ n1_ n2_ n3_; clear hb hbox hg) | ((with_reducible refine gate_dst (N := 5) rfl ?_); refine box_event ?hg (N := 5) ?hd (cs := #[.int .i64 a2_0, .int .i64 a2_1]) (t := 23) ?hr ?_; (case hd => rfl); (case hg => rfl); (case hr => first | (go_simp; done) | (go_simp; rfl)); intro gb311 hg w61 hbox hb; have n0_ := Bx0 BK310 hb; have n1_ := Bs1 HB hb GE310.out; have n2_ := Ax (hbox); have n3_ := Gw1 HB hg GE310.out; have n4_ := Gw1 HB hg GE310.out; have n5_ := Nl0 BK310 hg; have n6_ := Nr0 BK310 hg; clear BK310; clear HB; have BK310 := n0_; have HB := n1_; have BK311 := n2_; have GW311 := n3_; have GE311 := n4_; have NB310_311 := n5_; have NB311_310 := n6_; clear n0_ n1_ n2_ n3_ n4_ n5_ n6_; clear hb hbox hg; have hnb62 := NB310_311.out; have hnc62 := NB311_310.out; obtain ⟨hcz63_0, hcz63_1, hfz63_0, hfz63_1⟩ := cl2 BK310) | ((with_reducible refine gate_callee (f := 13) rfl ?_); refine goesL_ (some 14) rfl rfl Try.func13 (by kernel_rfl) rfl #[.agg #[.int .i64 a0_0, .int .i64 a0_1], .slice A1 l1.length c1] rfl gS ?_; (with_reducible refine (spoorref20_Check.calls k a0_0 a0_1 _ _ l1 t312 _ ?side1 ?side2 A4.out).mono ?_); (case side1 => repeat (first | exact (Kd.C_below HR1.out HB.out) | (with_reducible refine Kd.C_alloc ?_ _) | (with_reducible refine Kd.C_drewN ?_ _) | (with_reducible refine Kd.C_drew ?_))); (case side2 => exact HC1.out); rintro e w64 ⟨rfl, hb⟩; refine ⟨_, rfl, ?_⟩; replace BK310 := Bx0 BK310 hb; replace BK311 := Bx0 BK311 hb; replace HB := Bs2 HB hb GE310.out GE311.out; (try clear hb); (try clear hb2); (try clear hk); (try clear hi)))
  go_ret2
  exact ⟨_, eS, by first | exact Kd.R_nil _ _ _ _ _ | exact Kd.N_nil _ _ _ _ _ | exact Kd.V_nil _ _ _ _ _ | exact Kd.Q_nil _ _ _ _ _ | exact Kd.S_nil _ _ _ _ _, bw2 HB.out GE310.out GE311.out⟩
def posL (t : Int) : List Int → Nat → Nat
  | xs, 0 => 0
  | xs, i + 1 => if t < xs.getD i 0 then posL t xs i else i + 1
theorem posL_le (t : Int) (xs : List Int) : ∀ i, posL t xs i ≤ i
  | 0 => Nat.le_refl _
  | i + 1 => by
    unfold posL
    split
    · exact Nat.le_succ_of_le (posL_le t xs i)
    · exact Nat.le_refl _
def insS (xs : List Int) (t : Int) : List Int :=
  if 0 < posL t xs xs.length ∧ xs.getD (posL t xs xs.length - 1) 0 = t then xs else xs.take (posL t xs xs.length) ++ t :: xs.drop (posL t xs xs.length)
theorem insS_len (xs : List Int) (t : Int) : (insS xs t).length ≤ xs.length + 1 := by
  unfold insS
  split
  · omega
  · have := posL_le t xs xs.length
    simp
    omega
theorem infoI : (Try.prog.info? 2).map (fun i => (i.zero, i.size, i.bytes)) = some (some (.int .i64 0), 1, 8) := by kernel_rfl
theorem shift_own {w' : World} {base g cap i : Nat} {xs : List Int} {cur : Array Value} (hi : i ≤ xs.length) (hg : base ≤ g) (hc : xs.length + 1 ≤ cap) (hm : cap ≤ maxLen) (hs : cur.size = cap * 1) (ht : cur.toList.take ((xs.length + 1) * 1) = encs (Value.int .i64) (xs ++ [0]))
    (h : w'.heap[g]? = some (.cells (splice cur.toList (i + 1) ((encs (Value.int .i64) (xs ++ [0])).drop i |>.take (xs.length - i))).toArray 2 (0, 0))) :
    w'.ownsRow base 2 1 (.slice (some ⟨g, 0, none⟩) (xs.length + 1) cap) (xs.length + 1) (encs (Value.int .i64) (xs.take i ++ (xs ++ [0]).getD i 0 :: xs.drop i)) := by
  have hl : cur.toList.length = cap := by simp [hs]
  have he : (encs (Value.int .i64) (xs ++ [0])).length = xs.length + 1 := by simp [encs]
  refine ⟨by simp [encs]; omega, .inr ⟨g, cap, _, rfl, hg, h, hc, hm, ?_, ?_⟩⟩
  · rw [List.size_toArray, length_splice _ _ _ (by rw [List.length_take, List.length_drop, he, hl]; omega), hl, Nat.mul_one]
  · have hcut : (((encs (Value.int .i64) (xs ++ [0])).drop i).take (xs.length - i)) = encs (Value.int .i64) (xs.drop i) := by
      unfold encs
      rw [← List.map_drop, ← List.map_take, List.drop_append_of_le_length hi]
      congr 1
      rw [List.take_append_of_le_length (by simp), List.take_of_length_le (by simp)]
    rw [hcut]
    have hlen : (encs (Value.int .i64) (xs.drop i)).length = xs.length - i := by simp [encs]
    show (splice cur.toList (i + 1) (encs (Value.int .i64) (xs.drop i))).take ((xs.length + 1) * 1) = _
    unfold splice
    have e1 : cur.toList.take (i + 1) = encs (Value.int .i64) (xs.take i ++ [(xs ++ [0]).getD i 0]) := by
      have h1 : cur.toList.take (i + 1) = (cur.toList.take ((xs.length + 1) * 1)).take (i + 1) := by rw [List.take_take]; congr 1; omega
      rw [h1, ht]
      unfold encs
      rw [← List.map_take]
      congr 1
      rw [List.take_succ_eq_append_getElem (by simp; omega), List.take_append_of_le_length hi]
      congr 1
      rw [List.getD_eq_getElem?_getD, List.getElem?_eq_getElem (by simp; omega)]
      rfl
    rw [e1, hlen, ← List.append_assoc]
    rw [List.take_append_of_le_length (by simp [encs]; omega), List.take_of_length_le (by simp [encs]; omega)]
    unfold encs
    rw [← List.map_append, List.append_assoc]
    rfl
theorem shift_len {xs : List Int} {i : Nat} (h : i ≤ xs.length) : (((encs (Value.int .i64) (xs ++ [0])).drop i).take (xs.length - i)).length = xs.length - i := by
  simp [encs]
  omega
theorem shift_hn {xs : List Int} {i : Nat} (h : i + 1 ≤ xs.length) : (((encs (Value.int .i64) (xs ++ [0])).drop (i + 1)).take (xs.length - (i + 1))).length = Nat.min (xs.length - i) (xs.length - (i + 1)) := by
  rw [shift_len h]
  show _ = min _ _
  omega
theorem shift_ne {xs : List Int} {i c : Nat} (h : i + 1 ≤ xs.length) (hp : 0 < (((encs (Value.int .i64) (xs ++ [0])).drop (i + 1)).take (xs.length - (i + 1))).length) (h1 : xs.length + 1 ≤ c) : ¬ c = i + 1 + 1 := by
  rw [shift_len h] at hp
  omega
theorem shift_hn0 (xs : List Int) : (((encs (Value.int .i64) (xs ++ [0])).drop 0).take (xs.length - 0)).length = Nat.min (xs.length + 1) xs.length := by
  rw [shift_len (Nat.zero_le _)]
  show _ = min _ _
  omega
theorem shift_ne0 {xs : List Int} {c : Nat} (hp : 0 < (((encs (Value.int .i64) (xs ++ [0])).drop 0).take (xs.length - 0)).length) (h1 : xs.length + 1 ≤ c) : ¬ c = 1 := by
  rw [shift_len (Nat.zero_le _)] at hp
  omega
theorem shift_ne2 {xs : List Int} {i c : Nat} (h : i + 1 ≤ xs.length) (h1 : xs.length + 1 ≤ c) : ¬ c = i + 1 := by omega
theorem shift_fit {xs : List Int} {i c : Nat} {cur : Array Value} (h : i ≤ xs.length) (h1 : xs.length + 1 ≤ c) (h2 : cur.size = c * 1) : i + 1 + (((encs (Value.int .i64) (xs ++ [0])).drop i).take (xs.length - i)).length ≤ cur.toList.length := by
  rw [shift_len h]
  simp
  omega
theorem shift_one {xs : List Int} {i : Nat} : ∀ v ∈ (((encs (Value.int .i64) (xs ++ [0])).drop i).take (xs.length - i)), v.oneCell' = true := by
  intro v hv
  obtain ⟨x, _, rfl⟩ := List.mem_map.1 (List.mem_of_mem_drop (List.mem_of_mem_take hv))
  rfl
theorem shift_cells {W : World} {xs : List Int} {g i : Nat} {cur : Array Value} (hg : W.heap[g]? = some (.cells cur 2 (0, 0))) (ht : cur.toList.take ((xs.length + 1) * 1) = encs (Value.int .i64) (xs ++ [0])) :
    ∀ j v, (((encs (Value.int .i64) (xs ++ [0])).drop i).take (xs.length - i))[j]? = some v → W.cell? ((⟨g, i, none⟩ : Addr).add j) = some v := by
  intro j v hj
  have hadd : (⟨g, i, none⟩ : Addr).add j = ⟨g, i + j, none⟩ := by unfold Addr.add; split <;> simp_all
  rw [hadd, blk_cell hg, ← Array.getElem?_toList]
  rw [List.getElem?_take] at hj
  split at hj
  · rw [List.getElem?_drop, ← ht, List.getElem?_take] at hj
    split at hj
    · exact hj
    · cases hj
  · cases hj
theorem posL_step {t : Int} {xs : List Int} {j : Nat} (h : t < xs.getD j 0) : posL t xs (j + 1) = posL t xs j := by
  show (if t < xs.getD j 0 then posL t xs j else j + 1) = _
  rw [if_pos h]
theorem posL_stop {t : Int} {xs : List Int} {j : Nat} (h : ¬ t < xs.getD j 0) : posL t xs (j + 1) = j + 1 := by
  show (if t < xs.getD j 0 then posL t xs j else j + 1) = _
  rw [if_neg h]
set_option maxRecDepth 100000 in
set_option maxHeartbeats 4000000 in
theorem sorted_is (A0 : Option Addr) (c0 : Nat) (l0 : List Int) (hL : (l0.length + 1) * 8 ≤ 140737488355328) (w : World) (hr0 : Kd.C (Kd.int .i64) w A0 l0.length l0) (hc0 : l0.length ≤ c0) :
    Calls Try.prog 38 #[.slice A0 l0.length c0] w fun e w' => ∃ v0_ : Value, e = .returned v0_ ∧ Kd.R (Kd.int .i64) 2 w' w.heap.size (fun _ => True) v0_ (l0.foldl insS []) ∧ Below w.heap.size w w' := by
  have HR := Aside0.mk hr0
  have HM := Aside0.mk (Kd.C_max hr0)
  have HL := Aside0.mk hL
  clear hr0 hL
  go_enter Try.func38, Try.ntmps38
  go_wp2
  go_loopg [3, 9] l0.length (fun kq v3 v9 w' => ∃ (i : Nat), v9 = .int .i64 (i : Int) ∧ Aside0 (i ≤ l0.length ∧ kq = l0.length - i) ∧ Aside0 (Kd.R (Kd.int .i64) 2 w' w.heap.size (fun _ => True) v3 ((l0.take i).foldl insS []) ∧ ((l0.take i).foldl insS []).length ≤ i) ∧ Aside0 (Below w.heap.size w w'))
  case atStart => exact ⟨0, rfl, ⟨Nat.zero_le _, rfl⟩, ⟨Kd.R_nil _ _ _ _ _, Nat.le_refl _⟩, ⟨Below.refl _ _⟩⟩
  case round =>
    obtain ⟨i, rfl, HI, HO, Hb⟩ := hrel
    have hm := HM.out
    by_cases hi : i < l0.length
    · have hd : decide ((i : Int) < (l0.length : Int)) = true := decide_eq_true (by omega)
      have hdn : decide (i < l0.length) = true := decide_eq_true hi
      obtain ⟨ad, ead, hx0⟩ := Kd.at_int (Kd.C_below HR.out Hb.out) (i : Int) (by omega) (by omega)
      cases ead
      simp only [Int.toNat_natCast] at hx0
      obtain ⟨t, ht⟩ : ∃ t, rd l0 (i : Int) = t := ⟨_, rfl⟩
      rw [ht] at hx0
      have htk : (l0.take (i + 1)).foldl insS [] = insS ((l0.take i).foldl insS []) t := by
        rw [List.take_succ_eq_append_getElem hi, List.foldl_append, ← ht]
        simp [rd, List.getD_eq_getElem?_getD, hi]
      have HT := Aside0.mk htk
      have HII := Aside0.mk hi
      have p0 : (0 ≤ (i : Int)) = True := eq_true (by omega)
      have q0 : ((i : Int) < (l0.length : Int)) = True := eq_true (by omega)
      obtain ⟨xs, hxs⟩ : ∃ xs, (l0.take i).foldl insS [] = xs := ⟨_, rfl⟩
      rw [hxs] at HO
      have HXS := Aside0.mk hxs
      obtain ⟨A, c, rfl⟩ := Kd.R_slice HO.out.1
      have HC := Aside0.mk (Kd.R_reads' HO.out.1).2.2
      have hm2 := Kd.C_max HC.out
      have hxl := HO.out.2
      have HLL : Aside0 ((xs.length + 1) * 8 ≤ 140737488355328) := ⟨Nat.le_trans (Nat.mul_le_mul_right 8 (show xs.length + 1 ≤ l0.length + 1 by omega)) HL.out⟩
      clear hxs htk ht hi
      go_wp2
      go_loopg [6] xs.length (fun kq v6 w2 => ∃ (j : Nat), v6 = .int .i64 (j : Int) ∧ Aside0 (j ≤ xs.length ∧ kq = j) ∧ Aside0 (posL t xs xs.length = posL t xs j) ∧ w2 = wr)
      case atStart => exact ⟨xs.length, rfl, ⟨Nat.le_refl _, rfl⟩, ⟨rfl⟩, rfl⟩
      case round =>
        obtain ⟨j, rfl, HJ, HP, rfl⟩ := hrel
        have hjl := HJ.out.1
        have rest : Aside0 (insS xs t = xs.take j ++ t :: xs.drop j) → True := fun _ => trivial
        clear rest
        cases j with
        | succ jp =>
          obtain ⟨ad2, ead2, hy0⟩ := Kd.at_int HC.out (jp : Int) (by omega) (by omega)
          cases ead2
          simp only [Int.toNat_natCast] at hy0
          obtain ⟨y, hy⟩ : ∃ y, xs.getD jp 0 = y := ⟨_, rfl⟩
          have hrd : rd xs (jp : Int) = y := by rw [← hy]; simp [rd]
          rw [hrd] at hy0
          have HY := Aside0.mk hy
          have wj : IntKind.i64.wrap (((jp + 1 : Nat) : Int) - 1) = (jp : Int) := by rw [i64_w]; unfold wrap64; omega
          have dj : decide ((0 : Int) < ((jp + 1 : Nat) : Int)) = true := decide_eq_true (by omega)
          have p1 : (0 ≤ (jp : Int)) = True := eq_true (by omega)
          have q1 : ((jp : Int) < (xs.length : Int)) = True := eq_true (by omega)
          have q2 : (jp < xs.length) = True := eq_true (by omega)
          clear hrd hy
          by_cases c1 : t < y
          · have d1 : decide (t < y) = true := decide_eq_true c1
            have HP2 : Aside0 (posL t xs xs.length = posL t xs jp) := ⟨by rw [HP.out]; exact posL_step (by rw [HY.out]; exact c1)⟩
            clear c1
            go_wp2
            go_roundg jp
            case measure => have := HJ.out.2; omega
            case rel => exact ⟨jp, by first | rfl | go_num, ⟨by have := HJ.out.1; omega, rfl⟩, HP2, rfl⟩
          · have d1 : decide (t < y) = false := decide_eq_false c1
            have HP2 : Aside0 (posL t xs xs.length = jp + 1) := ⟨by rw [HP.out]; exact posL_stop (by rw [HY.out]; exact c1)⟩
            clear c1
            by_cases c2 : y = t
            · have d2 : (y == t) = true := beq_iff_eq.mpr c2
              have HN : Aside0 (insS xs t = xs) := ⟨by
                unfold insS
                rw [if_pos]
                rw [HP2.out, Nat.add_sub_cancel, HY.out]
                exact ⟨by omega, c2⟩⟩
              clear c2
              go_wp2
              go_roundg (l0.length - (i + 1))
              case measure => have := HI.out; have := HII.out; omega
              case rel => have hii := HII.out; exact ⟨i + 1, by (have := HII.out; simp only [Value.int.injEq, true_and]; unfold wrap64; omega), ⟨HII.out, rfl⟩, ⟨by rw [HT.out, HXS.out, HN.out]; exact HO.out.1, by rw [HT.out, HXS.out, HN.out]; exact Nat.le_succ_of_le HO.out.2⟩, Hb⟩
            · have d2 : (y == t) = false := beq_eq_false_iff_ne.mpr c2
              have HN : Aside0 (insS xs t = xs.take (jp + 1) ++ t :: xs.drop (jp + 1)) := ⟨by
                unfold insS
                rw [HP2.out, if_neg]
                rw [Nat.add_sub_cancel, HY.out]
                exact fun h => c2 h.2⟩
              clear c2
              go_wp2_with (at_builtin; refine Kd.R_append (Kd.int .i64) (w0 := w) w.heap.size rfl (.tmp 39) (.tmp 40) 81 2 (.int .i64 0) 8 rfl Try.underlying81 infoI rfl (by decide) (by omega) _ xs 0 [.int .i64 0] (fun _ => True) (fun _ => False) rfl ?aX rfl (fun _ hk => hk.elim) (fun _ _ => trivial) HO.out.1 Hb.out Hb.out.size HLL.out ?_; (case aX => first | rfl | (go_simp; done) | (go_simp; rfl)); intro v1 w1 ho1 hb1 hg1 hat1; have HO1 := Aside0.mk ho1; have Hb1 := Aside0.mk hb1; obtain ⟨A1, c1, rfl⟩ := Kd.R_slice ho1; clear ho1 hb1 hg1 hat1)
              obtain ⟨hown1, (⟨_, h0⟩ | ⟨g, cap, cur, hv, hbg, hgg, hnc, hcm, hcs, htk⟩)⟩ := Kd.own_of_R HO1.out
              · simp at h0
              simp only [List.length_append, List.length_singleton] at hv hnc htk
              obtain ⟨rfl, _, rfl⟩ : A1 = some ⟨g, 0, none⟩ ∧ True ∧ c1 = cap := by simpa using hv
              have HG := Aside0.mk hgg
              have HCU := Aside0.mk (And.intro hnc (And.intro hcm (And.intro hcs (And.intro htk hbg))))
              have hii := HII.out
              have tn : ((jp : Int) + 1 + 1).toNat = jp + 1 + 1 := by omega
              have k1 : (0 ≤ (jp : Int) + 1 + 1) = True := eq_true (by omega)
              have k2 : ((jp : Int) + 1 + 1 ≤ (xs.length : Int) + 1) = True := eq_true (by omega)
              have k3 : (0 ≤ (jp : Int) + 1) = True := eq_true (by omega)
              have k4 : ((jp : Int) + 1 ≤ (xs.length : Int) + 1) = True := eq_true (by omega)
              have wk : IntKind.i64.wrap ((jp : Int) + 1 + 1) = (jp : Int) + 1 + 1 := by rw [i64_w]; unfold wrap64; omega
              clear hown1 hv hgg hnc hcm hcs htk hbg
              have HXL : Aside0 (jp + 1 ≤ xs.length) := ⟨hjl⟩
              refine start_ (n := 8) (S := fun _ => True) (ds := [7]) #[false,false,false,false,false,false,false,false] (by kernel_rfl) rfl rfl trivial (fun _ => ?_)
              refine pure_ (i := 0) (N := some 42) (v := ?_) (a' := ?_) #[true,false,false,false,false,false,false,false] rfl rfl (by kernel_rfl) (fun _ _ _ h => h) (Or.inl ⟨by rfl, ?_⟩) ?_ ?_
              rotate_left
              · intro w'
                go_simp
                with_reducible rfl
              rotate_left
              · simp only [sP]
                rfl
              refine pure_ (i := 1) (N := some 43) (v := ?_) (a' := ?_) #[true,true,false,false,false,false,false,false] rfl rfl (by kernel_rfl) (fun _ _ _ h => h) (Or.inl ⟨by rfl, ?_⟩) ?_ ?_
              rotate_left
              · intro w'
                go_simp
                with_reducible rfl
              rotate_left
              · simp only [sP]
                rfl
              refine pure_ (i := 2) (N := some 44) (v := ?_) (a' := ?_) #[true,true,true,false,false,false,false,false] rfl rfl (by kernel_rfl) (fun _ _ _ h => h) (Or.inl ⟨by rfl, ?_⟩) ?_ ?_
              rotate_left
              · intro w'
                go_simp
                with_reducible rfl
              rotate_left
              · simp only [sP]
                rfl
              refine pure_ (i := 3) (N := some 45) (v := ?_) (a' := ?_) #[true,true,true,true,false,false,false,false] rfl rfl (by kernel_rfl) (fun _ _ _ h => h) (Or.inl ⟨by rfl, ?_⟩) ?_ ?_
              rotate_left
              · intro w'
                go_simp
                with_reducible rfl
              rotate_left
              · simp only [sP]
                rfl
              refine pure_ (i := 4) (N := some 46) (v := ?_) (a' := ?_) #[true,true,true,true,true,false,false,false] rfl rfl (by kernel_rfl) (fun _ _ _ h => h) (Or.inl ⟨by rfl, ?_⟩) ?_ ?_
              rotate_left
              · intro w'
                go_simp
                with_reducible rfl
              rotate_left
              · simp only [sP]
                rfl
              refine pure_ (i := 5) (N := some 47) (v := ?_) (a' := ?_) #[true,true,true,true,true,true,false,false] rfl rfl (by kernel_rfl) (fun _ _ _ h => h) (Or.inl ⟨by rfl, ?_⟩) ?_ ?_
              rotate_left
              · intro w'
                go_simp
                with_reducible rfl
              rotate_left
              · simp only [sP]
                rfl
              refine pure_ (i := 6) (N := some 48) (v := ?_) (a' := ?_) #[true,true,true,true,true,true,true,false] rfl rfl (by kernel_rfl) (fun _ _ _ h => h) (Or.inl ⟨by rfl, ?_⟩) ?_ ?_
              rotate_left
              · intro w'
                go_simp
                with_reducible rfl
              rotate_left
              · simp only [sP]
                rfl
              refine last_ (i := 7) (N := some 49) #[true,true,true,true,true,true,true,true] rfl rfl (by kernel_rfl) (by decide) (fun K hK => ?_)
              refine step_copy_splice rfl (.tmp 45) (.tmp 48) 81 81 rfl 2 Try.underlying81 (by kernel_rfl) _ _ _ _ _ _ rfl rfl g (jp + 1 + 1) cur.toList 2 HG.out (((encs (Value.int .i64) (xs ++ [0])).drop (jp + 1)).take (xs.length - (jp + 1))) (shift_hn HXL.out) (fun hp => ⟨if_neg (shift_ne HXL.out hp HCU.out.1), _, if_neg (shift_ne2 HXL.out HCU.out.1), shift_cells HG.out HCU.out.2.2.2.1⟩) (shift_fit HXL.out HCU.out.1 HCU.out.2.2.1) shift_one w.heap.size w (below_drew1 Hb1.out) HCU.out.2.2.2.2 ?_
              intro w4 hg4 hb4
              refine hK _ _ (done_ (by kernel_rfl) ?_)
              have hsh := shift_own HXL.out HCU.out.2.2.2.2 HCU.out.1 HCU.out.2.1 HCU.out.2.2.1 HCU.out.2.2.2.1 hg4.out
              have hcell : w4.cell? ⟨g, jp + 1, none⟩ = some (.int .i64 ((xs ++ [0]).getD (jp + 1) 0)) := by
                rw [hsh.cellAt (jp + 1) (by have := HXL.out; omega)]
                have hl5 : (xs.take (jp + 1)).length = jp + 1 := by rw [List.length_take]; have := HXL.out; omega
                unfold encs
                rw [List.getElem?_map, List.getElem?_append_right (by omega), hl5, Nat.sub_self]
                rfl
              have hfro : w4.frozen? ⟨g, jp + 1, none⟩ = false := hsh.frozenAt _
              have hst := hsh.stored (jp + 1) (.int .i64 t)
              have e5 : (encs (Value.int .i64) (xs.take (jp + 1) ++ (xs ++ [0]).getD (jp + 1) 0 :: xs.drop (jp + 1))).set (jp + 1) (.int .i64 t) = encs (Value.int .i64) (insS xs t) := by
                rw [HN.out]
                unfold encs
                rw [← List.map_set]
                congr 1
                have hl5 : (xs.take (jp + 1)).length = jp + 1 := by rw [List.length_take]; have := HXL.out; omega
                rw [List.set_append_right _ _ (by omega), hl5, Nat.sub_self]
                rfl
              have hln : (insS xs t).length = xs.length + 1 := by rw [HN.out]; simp; have := HXL.out; omega
              have HF : Aside0 (Kd.R (Kd.int .i64) 2 (w4.setCell ⟨g, jp + 1, none⟩ (.int .i64 t)) w.heap.size (fun _ => True) (.slice (some ⟨g, 0, none⟩) (xs.length + 1) c1) (insS xs t)) := ⟨Kd.R_of_own (by rw [hln, ← e5]; exact hst.1) (fun _ _ => trivial)⟩
              have Hb9 : Aside0 (Below w.heap.size w (w4.setCell ⟨g, jp + 1, none⟩ (.int .i64 t))) := ⟨hb4.setCell (p := ⟨g, jp + 1, none⟩) HCU.out.2.2.2.2 _⟩
              have HLN := Aside0.mk hln
              have k5 : ((jp : Int) + 1 < (xs.length : Int) + 1) = True := eq_true (by have := HXL.out; omega)
              have k6 : (jp + 1 < xs.length + 1) = True := eq_true (by have := HXL.out; omega)
              clear hsh hst e5 hln hg4 hb4
              generalize (if c1 = jp + 1 + 1 then (some ⟨g, 0, none⟩ : Option Addr) else some ⟨g, jp + 1 + 1, none⟩) = D1
              generalize (if c1 = jp + 1 then (some ⟨g, 0, none⟩ : Option Addr) else some ⟨g, jp + 1, none⟩) = D2
              go_wp2
              go_roundg (l0.length - (i + 1))
              case measure => have := HI.out; have := HII.out; omega
              case rel => have hii := HII.out; exact ⟨i + 1, by first | rfl | (simp only [Value.int.injEq, true_and]; unfold wrap64; omega), ⟨HII.out, rfl⟩, ⟨by rw [HT.out, HXS.out]; exact HF.out, by rw [HT.out, HXS.out, HLN.out]; exact Nat.succ_le_succ HO.out.2⟩, Hb9⟩
        | zero =>
          have HN : Aside0 (insS xs t = xs.take 0 ++ t :: xs.drop 0) := ⟨by
            unfold insS
            rw [HP.out]
            exact if_neg (fun h => by cases h.1)⟩
          have dj : decide ((0 : Int) < ((0 : Nat) : Int)) = false := by decide
          have dj2 : decide ((0 : Int) < (0 : Int)) = false := by decide
          go_wp2_with (at_builtin; refine Kd.R_append (Kd.int .i64) (w0 := w) w.heap.size rfl (.tmp 39) (.tmp 40) 81 2 (.int .i64 0) 8 rfl Try.underlying81 infoI rfl (by decide) (by omega) _ xs 0 [.int .i64 0] (fun _ => True) (fun _ => False) rfl ?aX rfl (fun _ hk => hk.elim) (fun _ _ => trivial) HO.out.1 Hb.out Hb.out.size HLL.out ?_; (case aX => first | rfl | (go_simp; done) | (go_simp; rfl)); intro v1 w1 ho1 hb1 hg1 hat1; have HO1 := Aside0.mk ho1; have Hb1 := Aside0.mk hb1; obtain ⟨A1, c1, rfl⟩ := Kd.R_slice ho1; clear ho1 hb1 hg1 hat1)
          obtain ⟨hown1, (⟨_, h0⟩ | ⟨g, cap, cur, hv, hbg, hgg, hnc, hcm, hcs, htk⟩)⟩ := Kd.own_of_R HO1.out
          · simp at h0
          simp only [List.length_append, List.length_singleton] at hv hnc htk
          obtain ⟨rfl, _, rfl⟩ : A1 = some ⟨g, 0, none⟩ ∧ True ∧ c1 = cap := by simpa using hv
          have HG := Aside0.mk hgg
          have HCU := Aside0.mk (And.intro hnc (And.intro hcm (And.intro hcs (And.intro htk hbg))))
          have hii := HII.out
          have tn : (1 : Int).toNat = 1 := rfl
          have k1 : (0 ≤ (1 : Int)) = True := eq_true (by omega)
          have k2 : ((1 : Int) ≤ (xs.length : Int) + 1) = True := eq_true (by omega)
          have kw : wrap64 1 = 1 := by unfold wrap64; omega
          have k3 : (0 ≤ (0 : Int)) = True := eq_true (by omega)
          have k4 : ((0 : Int) ≤ (xs.length : Int) + 1) = True := eq_true (by omega)
          have wk : IntKind.i64.wrap ((0 : Int) + 1) = (0 : Int) + 1 := by rw [i64_w]; unfold wrap64; omega
          clear hown1 hv hgg hnc hcm hcs htk hbg
          have HXL : Aside0 (0 ≤ xs.length) := ⟨hjl⟩
          refine start_ (n := 8) (S := fun _ => True) (ds := [7]) #[false,false,false,false,false,false,false,false] (by kernel_rfl) rfl rfl trivial (fun _ => ?_)
          refine pure_ (i := 0) (N := some 42) (v := ?_) (a' := ?_) #[true,false,false,false,false,false,false,false] rfl rfl (by kernel_rfl) (fun _ _ _ h => h) (Or.inl ⟨by rfl, ?_⟩) ?_ ?_
          rotate_left
          · intro w'
            go_simp
            with_reducible rfl
          rotate_left
          · simp only [sP]
            rfl
          refine pure_ (i := 1) (N := some 43) (v := ?_) (a' := ?_) #[true,true,false,false,false,false,false,false] rfl rfl (by kernel_rfl) (fun _ _ _ h => h) (Or.inl ⟨by rfl, ?_⟩) ?_ ?_
          rotate_left
          · intro w'
            go_simp
            with_reducible rfl
          rotate_left
          · simp only [sP]
            rfl
          refine pure_ (i := 2) (N := some 44) (v := ?_) (a' := ?_) #[true,true,true,false,false,false,false,false] rfl rfl (by kernel_rfl) (fun _ _ _ h => h) (Or.inl ⟨by rfl, ?_⟩) ?_ ?_
          rotate_left
          · intro w'
            go_simp
            with_reducible rfl
          rotate_left
          · simp only [sP]
            rfl
          refine pure_ (i := 3) (N := some 45) (v := ?_) (a' := ?_) #[true,true,true,true,false,false,false,false] rfl rfl (by kernel_rfl) (fun _ _ _ h => h) (Or.inl ⟨by rfl, ?_⟩) ?_ ?_
          rotate_left
          · intro w'
            go_simp
            with_reducible rfl
          rotate_left
          · simp only [sP]
            rfl
          refine pure_ (i := 4) (N := some 46) (v := ?_) (a' := ?_) #[true,true,true,true,true,false,false,false] rfl rfl (by kernel_rfl) (fun _ _ _ h => h) (Or.inl ⟨by rfl, ?_⟩) ?_ ?_
          rotate_left
          · intro w'
            go_simp
            with_reducible rfl
          rotate_left
          · simp only [sP]
            rfl
          refine pure_ (i := 5) (N := some 47) (v := ?_) (a' := ?_) #[true,true,true,true,true,true,false,false] rfl rfl (by kernel_rfl) (fun _ _ _ h => h) (Or.inl ⟨by rfl, ?_⟩) ?_ ?_
          rotate_left
          · intro w'
            go_simp
            with_reducible rfl
          rotate_left
          · simp only [sP]
            rfl
          refine pure_ (i := 6) (N := some 48) (v := ?_) (a' := ?_) #[true,true,true,true,true,true,true,false] rfl rfl (by kernel_rfl) (fun _ _ _ h => h) (Or.inl ⟨by rfl, ?_⟩) ?_ ?_
          rotate_left
          · intro w'
            go_simp
            with_reducible rfl
          rotate_left
          · simp only [sP]
            rfl
          refine last_ (i := 7) (N := some 49) #[true,true,true,true,true,true,true,true] rfl rfl (by kernel_rfl) (by decide) (fun K hK => ?_)
          refine step_copy_splice rfl (.tmp 45) (.tmp 48) 81 81 rfl 2 Try.underlying81 (by kernel_rfl) _ _ _ _ _ _ rfl rfl g (0 + 1) cur.toList 2 HG.out (((encs (Value.int .i64) (xs ++ [0])).drop (0)).take (xs.length - (0))) (shift_hn0 xs) (fun hp => ⟨if_neg (shift_ne0 hp HCU.out.1), _, rfl, shift_cells HG.out HCU.out.2.2.2.1⟩) (shift_fit HXL.out HCU.out.1 HCU.out.2.2.1) shift_one w.heap.size w (below_drew1 Hb1.out) HCU.out.2.2.2.2 ?_
          intro w4 hg4 hb4
          refine hK _ _ (done_ (by kernel_rfl) ?_)
          have hsh := shift_own HXL.out HCU.out.2.2.2.2 HCU.out.1 HCU.out.2.1 HCU.out.2.2.1 HCU.out.2.2.2.1 hg4.out
          have hcell : w4.cell? ⟨g, 0, none⟩ = some (.int .i64 ((xs ++ [0]).getD (0) 0)) := by
            rw [hsh.cellAt (0) (by have := HXL.out; omega)]
            have hl5 : (xs.take (0)).length = 0 := by rw [List.length_take]; have := HXL.out; omega
            unfold encs
            rw [List.getElem?_map, List.getElem?_append_right (by omega), hl5, Nat.sub_self]
            rfl
          have hfro : w4.frozen? ⟨g, 0, none⟩ = false := hsh.frozenAt _
          have hst := hsh.stored (0) (.int .i64 t)
          have e5 : (encs (Value.int .i64) (xs.take (0) ++ (xs ++ [0]).getD (0) 0 :: xs.drop (0))).set (0) (.int .i64 t) = encs (Value.int .i64) (insS xs t) := by
            rw [HN.out]
            unfold encs
            rw [← List.map_set]
            congr 1
          have hln : (insS xs t).length = xs.length + 1 := by rw [HN.out]; simp
          have HF : Aside0 (Kd.R (Kd.int .i64) 2 (w4.setCell ⟨g, 0, none⟩ (.int .i64 t)) w.heap.size (fun _ => True) (.slice (some ⟨g, 0, none⟩) (xs.length + 1) c1) (insS xs t)) := ⟨Kd.R_of_own (by rw [hln, ← e5]; exact hst.1) (fun _ _ => trivial)⟩
          have Hb9 : Aside0 (Below w.heap.size w (w4.setCell ⟨g, 0, none⟩ (.int .i64 t))) := ⟨hb4.setCell (p := ⟨g, 0, none⟩) HCU.out.2.2.2.2 _⟩
          have HLN := Aside0.mk hln
          have k5 : ((0 : Int) < (xs.length : Int) + 1) = True := eq_true (by have := HXL.out; omega)
          have k6 : (0 < xs.length + 1) = True := eq_true (by have := HXL.out; omega)
          clear hsh hst e5 hln hg4 hb4
          generalize (if c1 = 1 then (some ⟨g, 0, none⟩ : Option Addr) else some ⟨g, 1, none⟩) = D1
          go_wp2
          go_roundg (l0.length - (i + 1))
          case measure => have := HI.out; have := HII.out; omega
          case rel => have hii := HII.out; exact ⟨i + 1, by first | rfl | (simp only [Value.int.injEq, true_and]; unfold wrap64; omega), ⟨HII.out, rfl⟩, ⟨by rw [HT.out, HXS.out]; exact HF.out, by rw [HT.out, HXS.out, HLN.out]; exact Nat.succ_le_succ HO.out.2⟩, Hb9⟩
    · have hd : decide ((i : Int) < (l0.length : Int)) = false := decide_eq_false (by omega)
      have hdn : decide (i < l0.length) = false := decide_eq_false hi
      have ho := HO.out.1
      rw [List.take_of_length_le (by omega)] at ho
      obtain ⟨A, c, rfl⟩ := Kd.R_slice ho
      have HO2 := Aside0.mk ho
      clear ho HO
      go_wp2
      go_ret
      exact ⟨_, rfl, HO2.out, Hb.out⟩
def spoorref19_Sorted.f (k : Nat) (l0 : List Int) : Option (List Int) := if (l0.length + 1) * 8 ≤ 140737488355328 then some (l0.foldl insS []) else none
theorem spoorref19_Sorted.calls (k : Nat) (A0 : Option Addr) (c0 : Nat) (l0 : List Int) (r : List Int) (w : World) (hr0 : Kd.C (Kd.int .i64) w A0 l0.length l0) (hc0 : l0.length ≤ c0) (h : spoorref19_Sorted.f k l0 = some r) :
    Calls Try.prog 38 #[.slice A0 l0.length c0] w fun e w' => ∃ v0_ : Value, e = .returned (v0_) ∧ Kd.R (Kd.int .i64) 2 w' w.heap.size (fun _ => True) v0_ r ∧ Below w.heap.size w w' := by
  unfold spoorref19_Sorted.f at h
  by_cases hl : (l0.length + 1) * 8 ≤ 140737488355328
  · rw [if_pos hl] at h
    obtain rfl := Option.some.inj h
    exact sorted_is A0 c0 l0 hl w hr0 hc0
  · rw [if_neg hl] at h; cases h
mutual
def spoorref20_Differ.j0 : Nat → List (S52) → List (S52) → Bool → Int → Int → Option ((List (S23)) × Int)
 | 0, _, _, _, _, _ => none
 | k + 1, x1, x2, x25, x321000, x321001 => if x25 = true then (some (([] : List (S23)), 2)) else ((some (([] : List (S52)) : List (S52))).bind fun y323 => (if y323.length + x1.length < 4398046511104 then ((some (y323 ++ x1 : List (S52))).bind fun y326 => (if y326.length + x2.length < 4398046511104 then ((some (y326 ++ x2 : List (S52))).bind fun y329 => (spoorref20_Differ.l0 k x1 x2 ([] : List Int) y329 (y329.length : Int) 0 x321000 x321001)) else (none))) else (none)))
def spoorref20_Differ.l0 : Nat → List (S52) → List (S52) → List Int → List (S52) → Int → Int → Int → Int → Option ((List (S23)) × Int)
 | 0, _, _, _, _, _, _, _, _ => none
 | k + 1, x1, x2, x8, x30, x31, x32, x321000, x321001 => if x32 < x31 then (if 0 ≤ x32 then (if x32 < (x30.length : Int) then (if x8.length < 17592186044416 then (spoorref20_Differ.l0 k x1 x2 (x8 ++ [(rd_T52 x30 x32).f0.f0]) x30 x31 (wrap64 (x32 + 1)) x321000 x321001) else (none)) else (none)) else (none)) else ((spoorref19_Sorted.f k x8).bind fun t337 => (spoorref20_Differ.l1 k x1 x2 ([] : List (S23)) false t337 (t337.length : Int) 0 x321000 x321001))
def spoorref20_Differ.l1 : Nat → List (S52) → List (S52) → List (S23) → Bool → List Int → Int → Int → Int → Int → Option ((List (S23)) × Int)
 | 0, _, _, _, _, _, _, _, _, _ => none
 | k + 1, x1, x2, x11, x12, x44, x45, x46, x321000, x321001 => if x46 < x45 then (if 0 ≤ x46 then (if x46 < (x44.length : Int) then ((spoorref20_holds.f k x1 (rd x44 x46)).bind fun bt341 => ((spoorref20_holds.f k x2 (rd x44 x46)).bind fun bt343 => (if x12 = true then (spoorref20_Differ.j3 k x1 x2 x11 x12 (rd x44 x46) (!(bt341.1 == bt343.1) || (!(bt341.2 == bt343.2))) x44 x45 x46 (!(!(bt341.1 == bt343.1) || (!(bt341.2 == bt343.2)))) x321000 x321001) else (spoorref20_Differ.j3 k x1 x2 x11 x12 (rd x44 x46) (!(bt341.1 == bt343.1) || (!(bt341.2 == bt343.2))) x44 x45 x46 false x321000 x321001)))) else (none)) else (none)) else (if (x11.length : Int) > 1024 then (some (([] : List (S23)), 11)) else (some (x11, 0)))
def spoorref20_Differ.j3 : Nat → List (S52) → List (S52) → List (S23) → Bool → Int → Bool → List Int → Int → Int → Bool → Int → Int → Option ((List (S23)) × Int)
 | 0, _, _, _, _, _, _, _, _, _, _, _, _ => none
 | k + 1, x1, x2, x11, x12, x14, x15, x44, x45, x46, x61, x321000, x321001 => if x61 = true then (if 0 ≤ (wrap64 ((x11.length : Int) - 1)) then (if (wrap64 ((x11.length : Int) - 1)) < (x11.length : Int) then ((some (x11.set ((wrap64 ((x11.length : Int) - 1)) : Int).toNat (⟨(rd_T23 x11 (wrap64 ((x11.length : Int) - 1))).f0, wrap64 (x14 - 1)⟩ : S23) : List (S23))).bind fun y345 => (if x12 = true then (spoorref20_Differ.l1 k x1 x2 y345 x15 x44 x45 (wrap64 (x46 + 1)) x321000 x321001) else (if x15 = true then (if y345.length < 8796093022208 then (spoorref20_Differ.l1 k x1 x2 (y345 ++ [(⟨x14, x321001⟩ : S23)]) x15 x44 x45 (wrap64 (x46 + 1)) x321000 x321001) else (none)) else (spoorref20_Differ.l1 k x1 x2 y345 x15 x44 x45 (wrap64 (x46 + 1)) x321000 x321001)))) else (none)) else (none)) else (if x12 = true then (spoorref20_Differ.l1 k x1 x2 x11 x15 x44 x45 (wrap64 (x46 + 1)) x321000 x321001) else (if x15 = true then (if x11.length < 8796093022208 then (spoorref20_Differ.l1 k x1 x2 (x11 ++ [(⟨x14, x321001⟩ : S23)]) x15 x44 x45 (wrap64 (x46 + 1)) x321000 x321001) else (none)) else (spoorref20_Differ.l1 k x1 x2 x11 x15 x44 x45 (wrap64 (x46 + 1)) x321000 x321001)))
end
def spoorref20_Differ.f (k : Nat) (a0_0 : Int) (a0_1 : Int) (l1 : List (S52)) (l2 : List (S52)) : Option ((List (S23)) × Int) := (spoorref20_Check.f k a0_0 a0_1 l1).bind fun t321 => (if t321 = 0 then ((spoorref20_Check.f k a0_0 a0_1 l2).bind fun t322 => (spoorref20_Differ.j0 k l1 l2 (t322 != 0) a0_0 a0_1)) else (spoorref20_Differ.j0 k l1 l2 true a0_0 a0_1))
end Go.Proofs.Ytghklhdooemjdaa.Q
end
section
namespace Go.Proofs.Ytghklhdooemjdaa.Q
open Go.RowKit Go.Proofs.YtghklhdooemjdaaW.PrintWords Go.Proofs.YtghklhdooemjdaaW.PrintLast Go.Proofs.YtghklhdooemjdaaW.PrintMore
attribute [local go_sem] max2_int min2_int max_two min_two max_three min_three max_four min_four   -- for this text's walks alone
set_option linter.unusedVariables false
set_option linter.unusedSimpArgs false
attribute [local go_sem high] eqA35
set_option maxHeartbeats 8000000 in
set_option maxRecDepth 100000 in
theorem spoorref20_Differ.calls (k : Nat) (a0_0 : Int) (a0_1 : Int) (A1 : Option Addr) (c1 : Nat) (l1 : List (S52)) (A2 : Option Addr) (c2 : Nat) (l2 : List (S52)) (r1 : List (S23)) (r2 : Int) (w : World) (hr1 : Kd.C k52 w A1 l1.length l1) (hc1 : l1.length ≤ c1) (hr2 : Kd.C k52 w A2 l2.length l2) (hc2 : l2.length ≤ c2) (h : spoorref20_Differ.f k a0_0 a0_1 l1 l2 = some (r1, r2)) :
  Calls Try.prog 21 #[.agg #[.int .i64 a0_0, .int .i64 a0_1], .slice A1 l1.length c1, .slice A2 l2.length c2] w fun e w' => ∃ v0_ : Value, e = .returned (.tuple #[v0_, .int .i64 r2]) ∧ Kd.R k23 23 w' w.heap.size (fun _ => True) v0_ r1 ∧ Below w.heap.size w w' := by
 have hu23 := Try.underlying23
 have hu52 := Try.underlying52
 have HR1 := Ax hr1
 have HC1 := Ax hc1
 clear hr1 hc1
 have HR2 := Ax hr2
 have HC2 := Ax hc2
 clear hr2 hc2
 have HB := Ax (Below.refl w.heap.size w)
 have H : ((spoorref20_Check.f k a0_0 a0_1 l1).bind fun t321 => (if t321 = 0 then ((spoorref20_Check.f k a0_0 a0_1 l2).bind fun t322 => (spoorref20_Differ.j0 k l1 l2 (t322 != 0) a0_0 a0_1)) else (spoorref20_Differ.j0 k l1 l2 true a0_0 a0_1))) = some (r1, r2) := h
 clear h
 have HC4 := Ax H
 clear H
 go_enter Try.func21, Try.ntmps21
 go_upto_region 1 with (first | ((with_reducible refine gate_dst (N := 3) rfl ?_); refine box_event ?hg (N := 3) ?hd (cs := #[.int .i64 a0_0, .int .i64 a0_1]) (t := 23) ?hr ?_; (case hd => rfl); (case hg => rfl); (case hr => first | (go_simp; done) | (go_simp; rfl)); intro gb320 hg w5 hbox hb; have n0_ := Bs0 HB hb; have n1_ := Ax (hbox); have n2_ := Gw0 HB hg; have n3_ := Gw0 HB hg; clear HB; have HB := n0_; have BK320 := n1_; have GW320 := n2_; have GE320 := n3_; clear n0_ n1_ n2_ n3_; clear hb hbox hg))
 (try simp only [Act.put, List.setIfInBounds_toArray, List.set_cons_zero, List.set_cons_succ])
 go_cut [25] (fun v25 wc => ∃ (kq : Nat) (x25_3 : Bool), v25 = .bool x25_3 ∧ Aside0 (spoorref20_Differ.j0 kq l1 l2 x25_3 a0_0 a0_1 = some (r1, r2)) ∧ Aside0 (kq ≤ k) ∧ Aside0 (wc.heap[gb320]? = some (.cells #[.int .i64 a0_0, .int .i64 a0_1] 23 (0, 0))) ∧ Aside0 (Below w.heap.size w wc))
 case first =>
  have H := HC4.out
  clear HC4
  replace H := Option.bind_eq_some_iff.mp H
  obtain ⟨t321, A60, H⟩ := H
  replace H : (if t321 = 0 then ((spoorref20_Check.f k a0_0 a0_1 l2).bind fun t322 => (spoorref20_Differ.j0 k l1 l2 (t322 != 0) a0_0 a0_1)) else (spoorref20_Differ.j0 k l1 l2 true a0_0 a0_1)) = some (r1, r2) := H
  have A6 := Ax A60
  clear A60
  by_cases c7 : t321 = 0
  ·rw [if_pos c7] at H
   have c7b0 : (t321 == 0) = true := beq_iff_eq.mpr c7
   have c7b1 : (t321 != 0) = false := bne_eq_false_iff_eq.mpr c7
   clear c7
   (first | rw [c7b0] | (simp only [i64_w, i32_w]; rw [c7b0]) | skip)
   replace H := Option.bind_eq_some_iff.mp H
   obtain ⟨t322, A80, H⟩ := H
   replace H : (spoorref20_Differ.j0 k l1 l2 (t322 != 0) a0_0 a0_1) = some (r1, r2) := H
   have A8 := Ax A80
   clear A80
   have H' := Ax H
   clear H
   obtain ⟨hcz9_0, hcz9_1, hfz9_0, hfz9_1⟩ := cl2 BK320
   go_wp2_with (first | ((with_reducible refine gate_callee (f := 13) rfl ?_); refine goesL_ (some 18) rfl rfl Try.func13 (by kernel_rfl) rfl #[.agg #[.int .i64 a0_0, .int .i64 a0_1], .slice A1 l1.length c1] rfl gS ?_; (with_reducible refine (spoorref20_Check.calls k a0_0 a0_1 _ _ l1 t321 _ ?side1 ?side2 A6.out).mono ?_); (case side1 => repeat (first | exact (Kd.C_below HR1.out HB.out) | (with_reducible refine Kd.C_alloc ?_ _) | (with_reducible refine Kd.C_drewN ?_ _) | (with_reducible refine Kd.C_drew ?_))); (case side2 => exact HC1.out); rintro e w10 ⟨rfl, hb⟩; refine ⟨_, rfl, ?_⟩; replace BK320 := Bx0 BK320 hb; replace HB := Bs1 HB hb GE320.out; (try clear hb); (try clear hb2); (try clear hk); (try clear hi); obtain ⟨hcz11_0, hcz11_1, hfz11_0, hfz11_1⟩ := cl2 BK320) | (go_at_call 13; (with_reducible refine (spoorref20_Check.calls k a0_0 a0_1 _ _ l2 t322 _ ?side1 ?side2 A8.out).mono ?_); (case side1 => repeat (first | exact (Kd.C_below HR2.out HB.out) | (with_reducible refine Kd.C_alloc ?_ _) | (with_reducible refine Kd.C_drewN ?_ _) | (with_reducible refine Kd.C_drew ?_))); (case side2 => exact HC2.out); rintro e w12 ⟨rfl, hb⟩; replace BK320 := Bx0 BK320 hb; replace HB := Bs1 HB hb GE320.out; (try clear hb); (try clear hb2); (try clear hk); (try clear hi)))
   go_meet
   case rel => exact ⟨_, ((t322 != 0)), rS, H', ⟨by first | omega | exact Nat.le_refl _⟩, ⟨bf0 BK320.out⟩, ⟨bw1 HB.out GE320.out⟩⟩
  ·rw [if_neg c7] at H
   have c7b0 : (t321 == 0) = false := beq_eq_false_iff_ne.mpr c7
   have c7b1 : (t321 != 0) = true := bne_iff_ne.mpr c7
   (first | rw [c7b0] | (simp only [i64_w, i32_w]; rw [c7b0]) | skip)
   have H' := Ax H
   clear H
   obtain ⟨hcz13_0, hcz13_1, hfz13_0, hfz13_1⟩ := cl2 BK320
   go_wp2_with (first | ((with_reducible refine gate_callee (f := 13) rfl ?_); refine goesL_ (some 18) rfl rfl Try.func13 (by kernel_rfl) rfl #[.agg #[.int .i64 a0_0, .int .i64 a0_1], .slice A1 l1.length c1] rfl gS ?_; (with_reducible refine (spoorref20_Check.calls k a0_0 a0_1 _ _ l1 t321 _ ?side1 ?side2 A6.out).mono ?_); (case side1 => repeat (first | exact (Kd.C_below HR1.out HB.out) | (with_reducible refine Kd.C_alloc ?_ _) | (with_reducible refine Kd.C_drewN ?_ _) | (with_reducible refine Kd.C_drew ?_))); (case side2 => exact HC1.out); rintro e w14 ⟨rfl, hb⟩; refine ⟨_, rfl, ?_⟩; replace BK320 := Bx0 BK320 hb; replace HB := Bs1 HB hb GE320.out; (try clear hb); (try clear hb2); (try clear hk); (try clear hi)))
   go_meet
   case rel => exact ⟨_, (true), rS, H', ⟨by first | omega | exact Nat.le_refl _⟩, ⟨bf0 BK320.out⟩, ⟨bw1 HB.out GE320.out⟩⟩
 case rest =>
  clear HC4
  try clear c1
  try clear c2
  try clear p2
  try clear c7
  try clear c7b0
  try clear c7b1
  try clear c13
  try clear hcz11_0
  try clear hcz11_1
  try clear hcz13_0
  try clear hcz13_1
  try clear hcz9_0
  try clear hcz9_1
  try clear hfz11_0
  try clear hfz11_1
  try clear hfz13_0
  try clear hfz13_1
  try clear hfz9_0
  try clear hfz9_1
  obtain ⟨kq, x25_3, rfl, HA, HJ3, BK320, HB⟩ := hcut
  cases kq with
  | zero => exact absurd HA.out (by simp [spoorref20_Differ.j0])
  | succ kj3 =>
   have H := HA.out
   clear HA
   simp only [spoorref20_Differ.j0] at H
   by_cases c15 : x25_3 = true
   ·subst c15
    have H1 : (some (([] : List (S23)), 2)) = some (r1, r2) := by rw [if_pos rfl] at H; exact H
    clear H
    have H := H1
    clear H1
    simp only [Option.some.injEq, Prod.mk.injEq] at H
    obtain ⟨rfl, rfl⟩ := H
    go_wp2
    go_ret2
    exact ⟨_, eS, by first | exact Kd.R_nil _ _ _ _ _ | exact Kd.N_nil _ _ _ _ _ | exact Kd.V_nil _ _ _ _ _ | exact Kd.Q_nil _ _ _ _ _ | exact Kd.S_nil _ _ _ _ _, bw1 HB.out GE320.out⟩
   ·replace c15 := Bool.eq_false_iff.mpr c15
    subst c15
    have H1 : ((some (([] : List (S52)) : List (S52))).bind fun y323 => (if y323.length + l1.length < 4398046511104 then ((some (y323 ++ l1 : List (S52))).bind fun y326 => (if y326.length + l2.length < 4398046511104 then ((some (y326 ++ l2 : List (S52))).bind fun y329 => (spoorref20_Differ.l0 kj3 l1 l2 ([] : List Int) y329 (y329.length : Int) 0 a0_0 a0_1)) else (none))) else (none))) = some (r1, r2) := by rw [if_neg (show ¬ (false = true) by decide)] at H; exact H
    clear H
    have H := H1
    clear H1
    obtain ⟨y323, hy323⟩ : ∃ y_ : List (S52), y_ = (([] : List (S52))) := ⟨_, rfl⟩
    replace H : (if y323.length + l1.length < 4398046511104 then ((some (y323 ++ l1 : List (S52))).bind fun y326 => (if y326.length + l2.length < 4398046511104 then ((some (y326 ++ l2 : List (S52))).bind fun y329 => (spoorref20_Differ.l0 kj3 l1 l2 ([] : List Int) y329 (y329.length : Int) 0 a0_0 a0_1)) else (none))) else (none)) = some (r1, r2) := by first | (rw [hy323]; with_reducible exact H) | (have H2_ := (Option.bind_some _ _).symm.trans H; rw [hy323]; with_reducible exact H2_) | (have H2_ := (Option.bind_some _ _).symm.trans H; with_reducible exact H2_) | with_reducible exact H | (rw [hy323]; exact H) | exact H
    have Ny323 := Ax hy323
    clear hy323
    by_cases c16 : y323.length + l1.length < 4398046511104
    ·rw [if_pos c16] at H
     have LMc16 := Ax c16
     clear c16
     obtain ⟨y326, hy326⟩ : ∃ y_ : List (S52), y_ = (y323 ++ l1) := ⟨_, rfl⟩
     replace H : (if y326.length + l2.length < 4398046511104 then ((some (y326 ++ l2 : List (S52))).bind fun y329 => (spoorref20_Differ.l0 kj3 l1 l2 ([] : List Int) y329 (y329.length : Int) 0 a0_0 a0_1)) else (none)) = some (r1, r2) := by first | (rw [hy326]; with_reducible exact H) | (have H2_ := (Option.bind_some _ _).symm.trans H; rw [hy326]; with_reducible exact H2_) | (have H2_ := (Option.bind_some _ _).symm.trans H; with_reducible exact H2_) | with_reducible exact H | (rw [hy326]; exact H) | exact H
     have Ny326 := Ax hy326
     clear hy326
     by_cases c17 : y326.length + l2.length < 4398046511104
     ·rw [if_pos c17] at H
      have LMc17 := Ax c17
      clear c17
      obtain ⟨y329, hy329⟩ : ∃ y_ : List (S52), y_ = (y326 ++ l2) := ⟨_, rfl⟩
      replace H : (spoorref20_Differ.l0 kj3 l1 l2 ([] : List Int) y329 (y329.length : Int) 0 a0_0 a0_1) = some (r1, r2) := by first | (rw [hy329]; with_reducible exact H) | (have H2_ := (Option.bind_some _ _).symm.trans H; rw [hy329]; with_reducible exact H2_) | (have H2_ := (Option.bind_some _ _).symm.trans H; with_reducible exact H2_) | with_reducible exact H | (rw [hy329]; exact H) | exact H
      have Ny329 := Ax hy329
      clear hy329
      have H' := Ax H
      clear H
      go_wp2_with (first | ((with_reducible refine gate_dst (N := 26) rfl ?_); refine Kd.R_lit k52 _ 52 ?hg (N := 26) ?hd (xs := ([] : List (S52))) (inner := []) (ok := fun _ => True) (okp := fun _ => True) ?hr ?hp (fun _ hk => hk) trivial (Below.refl _ _) (Nat.le_refl _) (by simp) ?_; (case hd => rfl); (case hg => rfl); (case hr => first | (go_simp; done) | (go_simp; rfl)); (case hp => exact (Reps.none _ _)); intro v324 w18 ho19 hb hg_ hnew_; clear hg_ hnew_; (first | rw [← Ny323.out] at ho19 | (simp only [Int.reduceToNat] at ho19; rw [← Ny323.out] at ho19)); have HO325 := Ax (Kd.R_lower ho19 (below_size (bw1 HB.out GE320.out))); replace BK320 := Bx0 BK320 hb; replace HB := Bs1 HB hb GE320.out; clear hb ho19) | ((with_reducible refine gate_builtin (b := .append) (xs := #[.tmp 26, .tmp 27]) rfl ?_); at_builtin; refine Kd.R_append_rows k52 (w0 := w) w.heap.size rfl (.tmp 26) (.tmp 27) 25 52 (.agg #[(.int .i64 0), (.int .i64 0), (.int .u8 0), (.int .i64 0)]) 32 rfl Try.underlying25 info52 rfl (by decide) (by omega) v324 y323 l1 _ _ _ (fun _ => True) (fun _ => False) rfl rfl ?aO ?aR (fun _ _ h => h) (fun _ h => h.elim) ?aF ?aB ?aS ?aL ?_; (case aR => repeat (first | exact (Kd.C_below HR1.out HB.out) | (with_reducible refine Kd.C_alloc ?_ _) | (with_reducible refine Kd.C_drewN ?_ _) | (with_reducible refine Kd.C_drew ?_))); (case aB => exact (bw1 HB.out GE320.out)); (case aF => exact (fun _ _ => trivial)); (case aO => exact (by (with_reducible repeat (first | apply Kd.R_alloc | apply Kd.R_drewN | apply Kd.R_drew)); exact HO325.out)); (case aS => exact (below_size (bw1 HB.out GE320.out))); (case aL => have := LMc16.out; omega); intro v327 w20 ho hb hg hat; rw [← Ny326.out] at ho; have n0_ := Ax (blk_grown (g := gb320) (o := .cells #[.int .i64 a0_0, .int .i64 a0_1] 23 (0, 0)) (bf0 BK320.out) hg (Kd.R_ne HO325.out BK320.out (by decide))); have n1_ := Ax (hb); have n2_ := Ax (ho); clear BK320; clear HB; clear HO325; have BK320 := n0_; have HB := n1_; have HO328 := n2_; clear n0_ n1_ n2_; clear ho hb hg hat) | ((with_reducible refine gate_builtin (b := .append) (xs := #[.tmp 28, .tmp 29]) rfl ?_); at_builtin; refine Kd.R_append_rows k52 (w0 := w) w.heap.size rfl (.tmp 28) (.tmp 29) 25 52 (.agg #[(.int .i64 0), (.int .i64 0), (.int .u8 0), (.int .i64 0)]) 32 rfl Try.underlying25 info52 rfl (by decide) (by omega) v327 y326 l2 _ _ _ (fun _ => True) (fun _ => False) rfl rfl ?aO ?aR (fun _ _ h => h) (fun _ h => h.elim) ?aF ?aB ?aS ?aL ?_; (case aR => repeat (first | exact (Kd.C_below HR2.out HB.out) | (with_reducible refine Kd.C_alloc ?_ _) | (with_reducible refine Kd.C_drewN ?_ _) | (with_reducible refine Kd.C_drew ?_))); (case aB => exact (bw1 HB.out GE320.out)); (case aF => exact (fun _ _ => trivial)); (case aO => exact (by (with_reducible repeat (first | apply Kd.R_alloc | apply Kd.R_drewN | apply Kd.R_drew)); exact HO328.out)); (case aS => exact (below_size (bw1 HB.out GE320.out))); (case aL => have := LMc17.out; omega); intro v330 w21 ho hb hg hat; rw [← Ny329.out] at ho; have n0_ := Ax (blk_grown (g := gb320) (o := .cells #[.int .i64 a0_0, .int .i64 a0_1] 23 (0, 0)) (bf0 BK320.out) hg (Kd.R_ne HO328.out BK320.out (by decide))); have n1_ := Ax (hb); have n2_ := Ax (ho); clear BK320; clear HB; clear HO328; have BK320 := n0_; have HB := n1_; have HO331 := n2_; clear n0_ n1_ n2_; clear ho hb hg hat; obtain ⟨Ao22, co22, eo22⟩ := Kd.R_slice HO331.out; subst eo22))
      go_loopg [8, 32] kj3 (fun kq v8 v32 w' => ∃ (x8_2 : List Int) (x32_2 : Int), v32 = .int .i64 x32_2 ∧ Aside0 (spoorref20_Differ.l0 kq l1 l2 x8_2 y329 (y329.length : Int) x32_2 a0_0 a0_1 = some (r1, r2)) ∧ Aside0 (kq ≤ kj3) ∧ Aside0 (Kd.R (Kd.int .i64) 2 w' w.heap.size (fun _ => True) v8 x8_2) ∧ Aside0 (Kd.R k52 52 w' w.heap.size (fun _ => True) (.slice Ao22 y329.length co22) y329) ∧ Aside0 (w'.heap[gb320]? = some (.cells #[.int .i64 a0_0, .int .i64 a0_1] 23 (0, 0))) ∧ Aside0 (Below w.heap.size w w'))
      case atStart => exact ⟨(([] : List Int)), (0), rS, H', ⟨Nat.le_refl _⟩, ⟨by first | exact Kd.R_nil _ _ _ _ _ | exact Kd.N_nil _ _ _ _ _ | exact Kd.V_nil _ _ _ _ _ | exact Kd.Q_nil _ _ _ _ _ | exact Kd.S_nil _ _ _ _ _⟩, ⟨by (with_reducible repeat (first | apply Kd.R_alloc | apply Kd.R_drewN | apply Kd.R_drew)); exact HO331.out⟩, ⟨bf0 BK320.out⟩, ⟨bw1 HB.out GE320.out⟩⟩
      case round =>
       clear H'
       try clear c1
       try clear c2
       try clear p2
       try clear c7
       try clear c7b0
       try clear c7b1
       try clear c13
       try clear c15
       try clear c16
       try clear c17
       try clear c21
       try clear hcz11_0
       try clear hcz11_1
       try clear hcz13_0
       try clear hcz13_1
       try clear hcz9_0
       try clear hcz9_1
       try clear hfz11_0
       try clear hfz11_1
       try clear hfz13_0
       try clear hfz13_1
       try clear hfz9_0
       try clear hfz9_1
       try clear p2
       obtain ⟨x8_2, x32_2, rfl, HA, HK2, HO_8, HO_30, BK320, HB⟩ := hrel
       cases gk with
       | zero => exact absurd HA.out (by simp [spoorref20_Differ.l0])
       | succ k2 =>
        have H := HA.out
        clear HA
        simp only [spoorref20_Differ.l0] at H
        by_cases c23 : x32_2 < (y329.length : Int)
        ·rw [if_pos c23] at H
         have c23b0 : decide (x32_2 < (y329.length : Int)) = true := decide_eq_true c23
         clear c23
         by_cases c24 : 0 ≤ x32_2
         ·rw [if_pos c24] at H
          have c24b0 : decide (0 ≤ x32_2) = true := decide_eq_true c24
          clear c24
          by_cases c25 : x32_2 < (y329.length : Int)
          ·rw [if_pos c25] at H
           have c25b0 : decide (x32_2 < (y329.length : Int)) = true := decide_eq_true c25
           clear c25
           by_cases c26 : x8_2.length < 17592186044416
           ·rw [if_pos c26] at H
            have LMc26 := Ax c26
            clear c26
            obtain ⟨y334, hy334⟩ : ∃ y_ : List Int, y_ = (x8_2 ++ [(rd_T52 y329 x32_2).f0.f0]) := ⟨_, rfl⟩
            replace H : (spoorref20_Differ.l0 k2 l1 l2 y334 y329 (y329.length : Int) (wrap64 (x32_2 + 1)) a0_0 a0_1) = some (r1, r2) := by first | (rw [hy334]; with_reducible exact H) | (have H2_ := (Option.bind_some _ _).symm.trans H; rw [hy334]; with_reducible exact H2_) | (have H2_ := (Option.bind_some _ _).symm.trans H; with_reducible exact H2_) | with_reducible exact H | (rw [hy334]; exact H) | exact H
            have Ny334 := Ax hy334
            clear hy334
            have H' := Ax H
            clear H
            have p332 : 0 ≤ (x32_2 : Int) := of_decide_eq_true (by first | (with_reducible assumption) | assumption)
            have q332 : x32_2 < (y329.length : Int) := of_decide_eq_true (by first | (with_reducible assumption) | assumption)
            obtain ⟨ad332, e332, hx332_0, hx332_1, hx332_2, hx332_3⟩ := at_T52 (Kd.R_reads' HO_30.out).2.2 x32_2 p332 q332
            cases e332
            replace p332 := eq_true p332
            replace q332 := eq_true q332
            go_wp2_with (first | ((with_reducible refine gate_dst (N := 10) rfl ?_); refine box_event ?hg (N := 10) ?hd (cs := #[.int .i64 0, .int .i64 0, .int .u8 0, .int .i64 0]) (t := 52) ?hr ?_; (case hd => rfl); (case hg => rfl); (case hr => first | (go_simp; done) | (go_simp; rfl)); intro gb333 hg w27 hbox hb; have n0_ := Ax (Kd.R_below (by (with_reducible repeat (first | apply Kd.R_alloc | apply Kd.R_drewN | apply Kd.R_drew)); exact HO_8.out) hb); have n1_ := Ax (Kd.R_below (Kd.R_elderB (by (with_reducible repeat (first | apply Kd.R_alloc | apply Kd.R_drewN | apply Kd.R_drew)); exact HO_30.out) gb333 (Nat.le_of_eq hg.symm)) hb); have n2_ := Bx0 BK320 hb; have n3_ := Bs1 HB hb GE320.out; have n4_ := Ax (hbox); have n5_ := Gw1 HB hg GE320.out; have n6_ := Gw1 HB hg GE320.out; have n7_ := Nl0 BK320 hg; have n8_ := Nr0 BK320 hg; clear HO_8; clear HO_30; clear BK320; clear HB; have HO_8 := n0_; have HO_30 := n1_; have BK320 := n2_; have HB := n3_; have BK333 := n4_; have GW333 := n5_; have GE333 := n6_; have NB320_333 := n7_; have NB333_320 := n8_; clear n0_ n1_ n2_ n3_ n4_ n5_ n6_ n7_ n8_; clear hb hbox hg; have hnb28 := NB333_320.out; have hnc28 := NB320_333.out; obtain ⟨hcz29_0, hcz29_1, hcz29_2, hcz29_3, hfz29_0, hfz29_1, hfz29_2, hfz29_3⟩ := cl4 BK333) | ((with_reducible refine gate_builtin (b := .append) (xs := #[.tmp 36, .tmp 40]) rfl ?_); at_builtin; refine Kd.R_append (Kd.int .i64) (w0 := w) w.heap.size rfl (.tmp 36) (.tmp 40) 81 2 (.int .i64 0) 8 rfl Try.underlying81 info2 rfl (by decide) (by omega) u8 x8_2 ((rd_T52 y329 x32_2).f0.f0) [.int .i64 ((rd_T52 y329 x32_2).f0.f0)] (fun _ => True) (fun _ => False) rfl (by first | (go_simp; done) | (go_simp; rfl)) ?aP (fun _ hk => hk.elim) ?aF ?aO ?aB ?aS ?aL ?_; (case aP => exact rfl); (case aB => exact (bw2 HB.out GE320.out GE333.out)); (case aF => exact (fun _ _ => trivial)); (case aO => exact (by (with_reducible repeat (first | apply Kd.R_alloc | apply Kd.R_drewN | apply Kd.R_drew)); exact Kd.R_mono (Kd.R_far (p := ⟨gb333, 3, none⟩) (Kd.R_far (p := ⟨gb333, 2, none⟩) (Kd.R_far (p := ⟨gb333, 1, none⟩) (Kd.R_far (p := ⟨gb333, 0, none⟩) (Kd.R_types HO_8.out BK333.out (by decide)) (fun _ hk => hk.2) (.int .i64 ((rd_T52 y329 x32_2).f0.f0))) (fun _ hk => hk.2) (.int .i64 ((rd_T52 y329 x32_2).f0.f1))) (fun _ hk => hk.2) (.int .u8 ((rd_T52 y329 x32_2).f1.f0))) (fun _ hk => hk.2) (.int .i64 ((rd_T52 y329 x32_2).f1.f1))) (fun _ hk => trivial))); (case aS => exact (below_size (bw2 HB.out GE320.out GE333.out))); (case aL => have := LMc26.out; omega); intro v335 w30 ho hb hg hat; rw [← Ny334.out] at ho; have n0_ := Ax (Kd.R_over' (by (with_reducible repeat (first | apply Kd.R_alloc | apply Kd.R_drewN | apply Kd.R_drew)); exact (Kd.R_mono (Kd.R_far (p := ⟨gb333, 3, none⟩) (Kd.R_far (p := ⟨gb333, 2, none⟩) (Kd.R_far (p := ⟨gb333, 1, none⟩) (Kd.R_far (p := ⟨gb333, 0, none⟩) (Kd.R_mono HO_30.out (fun k_ hk => (⟨hk, hk.2⟩ : _ ∧ k_ ≠ gb333))) (fun _ hk => hk.2) (.int .i64 ((rd_T52 y329 x32_2).f0.f0))) (fun _ hk => hk.2) (.int .i64 ((rd_T52 y329 x32_2).f0.f1))) (fun _ hk => hk.2) (.int .u8 ((rd_T52 y329 x32_2).f1.f0))) (fun _ hk => hk.2) (.int .i64 ((rd_T52 y329 x32_2).f1.f1))) (fun _ h_ => h_.1))) (Kd.R_typed (by (with_reducible repeat (first | apply Kd.R_alloc | apply Kd.R_drewN | apply Kd.R_drew)); exact (Kd.R_mono (Kd.R_far (p := ⟨gb333, 3, none⟩) (Kd.R_far (p := ⟨gb333, 2, none⟩) (Kd.R_far (p := ⟨gb333, 1, none⟩) (Kd.R_far (p := ⟨gb333, 0, none⟩) (Kd.R_types HO_8.out BK333.out (by decide)) (fun _ hk => hk.2) (.int .i64 ((rd_T52 y329 x32_2).f0.f0))) (fun _ hk => hk.2) (.int .i64 ((rd_T52 y329 x32_2).f0.f1))) (fun _ hk => hk.2) (.int .u8 ((rd_T52 y329 x32_2).f1.f0))) (fun _ hk => hk.2) (.int .i64 ((rd_T52 y329 x32_2).f1.f1))) (fun _ h_ => h_.1)))) (by decide) hg); have n1_ := Ax (blk_grown (g := gb320) (o := .cells #[.int .i64 a0_0, .int .i64 a0_1] 23 (0, 0)) (bf4 BK320.out NB320_333.out NB320_333.out NB320_333.out NB320_333.out) hg (Kd.R_ne HO_8.out BK320.out (by decide))); have n2_ := Ax (blk_grown (g := gb333) (o := .cells #[.int .i64 ((rd_T52 y329 x32_2).f0.f0), .int .i64 ((rd_T52 y329 x32_2).f0.f1), .int .u8 ((rd_T52 y329 x32_2).f1.f0), .int .i64 ((rd_T52 y329 x32_2).f1.f1)] 52 (0, 0)) (by (with_reducible repeat (first | refine blk_drewN ?_ _ | refine blk_drew ?_ | refine blk_alloc ?_ _)); refine blk_put (cs := #[.int .i64 ((rd_T52 y329 x32_2).f0.f0), .int .i64 ((rd_T52 y329 x32_2).f0.f1), .int .u8 ((rd_T52 y329 x32_2).f1.f0), .int .i64 0]) ?_ 3 _ rfl; (with_reducible repeat (first | refine blk_drewN ?_ _ | refine blk_drew ?_ | refine blk_alloc ?_ _)); refine blk_put (cs := #[.int .i64 ((rd_T52 y329 x32_2).f0.f0), .int .i64 ((rd_T52 y329 x32_2).f0.f1), .int .u8 0, .int .i64 0]) ?_ 2 _ rfl; (with_reducible repeat (first | refine blk_drewN ?_ _ | refine blk_drew ?_ | refine blk_alloc ?_ _)); refine blk_put (cs := #[.int .i64 ((rd_T52 y329 x32_2).f0.f0), .int .i64 0, .int .u8 0, .int .i64 0]) ?_ 1 _ rfl; (with_reducible repeat (first | refine blk_drewN ?_ _ | refine blk_drew ?_ | refine blk_alloc ?_ _)); refine blk_put (cs := #[.int .i64 0, .int .i64 0, .int .u8 0, .int .i64 0]) ?_ 0 _ rfl; (with_reducible repeat (first | refine blk_drewN ?_ _ | refine blk_drew ?_ | refine blk_alloc ?_ _)); exact BK333.out) hg (Kd.R_ne HO_8.out BK333.out (by decide))); have n3_ := Ax (hb); have n4_ := Ax (ho); clear HO_30; clear BK320; clear BK333; clear HB; clear HO_8; have HO_30 := n0_; have BK320 := n1_; have BK333 := n2_; have HB := n3_; have HO336 := n4_; clear n0_ n1_ n2_ n3_ n4_; clear ho hb hg hat))
            go_roundg k2
            case measure => have := HJ3.out; have := HK2.out; omega
            case rel => exact ⟨(y334), (wrap64 (x32_2 + 1)), rS, H', ⟨by have := HJ3.out; have := HK2.out; omega⟩, ⟨by (with_reducible repeat (first | apply Kd.R_alloc | apply Kd.R_drewN | apply Kd.R_drew)); exact HO336.out⟩, ⟨by (with_reducible repeat (first | apply Kd.R_alloc | apply Kd.R_drewN | apply Kd.R_drew)); exact Kd.R_mono HO_30.out (fun _ hk => trivial)⟩, ⟨bf0 BK320.out⟩, ⟨bw2 HB.out GE320.out GE333.out⟩⟩
           ·rw [if_neg c26] at H
            exact absurd H (by simp)
          ·rw [if_neg c25] at H
           exact absurd H (by simp)
         ·rw [if_neg c24] at H
          exact absurd H (by simp)
        ·rw [if_neg c23] at H
         have c23b0 : decide (x32_2 < (y329.length : Int)) = false := decide_eq_false c23
         clear c23
         replace H := Option.bind_eq_some_iff.mp H
         obtain ⟨t337, A310, H⟩ := H
         replace H : (spoorref20_Differ.l1 k2 l1 l2 ([] : List (S23)) false t337 (t337.length : Int) 0 a0_0 a0_1) = some (r1, r2) := H
         have A31 := Ax A310
         clear A310
         have H' := Ax H
         clear H
         obtain ⟨Ao32, co32, eo32⟩ := Kd.R_slice HO_8.out
         subst eo32
         go_wp2_with (first | ((with_reducible refine gate_callee (f := 38) rfl ?_); refine goesL_ (some 44) rfl rfl Try.func38 (by kernel_rfl) rfl #[.slice Ao32 x8_2.length co32] rfl gS ?_; (with_reducible refine (spoorref19_Sorted.calls k2 _ _ x8_2 t337 _ ?side1 ?side2 A31.out).mono ?_); (case side1 => repeat (first | exact (Kd.R_reads' HO_8.out).2.2 | (with_reducible refine Kd.C_alloc ?_ _) | (with_reducible refine Kd.C_drewN ?_ _) | (with_reducible refine Kd.C_drew ?_))); (case side2 => exact (Kd.R_reads' HO_8.out).2.1); rintro e w33 ⟨v338, rfl, ho0, hb⟩; refine ⟨_, rfl, ?_⟩; have n0_ := Ax (Kd.R_elder' (by (with_reducible repeat (first | apply Kd.R_alloc | apply Kd.R_drewN | apply Kd.R_drew)); exact HO_8.out) (Kd.R_base ho0) hb); have n1_ := Ax (Kd.R_below (by (with_reducible repeat (first | apply Kd.R_alloc | apply Kd.R_drewN | apply Kd.R_drew)); exact HO_30.out) hb); have n2_ := Ax (Kd.R_lower (Kd.R_new' ho0 (Kd.R_lt (by (with_reducible repeat (first | apply Kd.R_alloc | apply Kd.R_drewN | apply Kd.R_drew)); exact HO_8.out))) (below_size (bw1 HB.out GE320.out))); have n3_ := Bx0 BK320 hb; have n4_ := Bs1 HB hb GE320.out; clear HO_8; clear HO_30; clear BK320; clear HB; have HO_8 := n0_; have HO_30 := n1_; have HO339 := n2_; have BK320 := n3_; have HB := n4_; clear n0_ n1_ n2_ n3_ n4_; (try clear hb); (try clear hb2); (try clear hk); (try clear hi); (try clear ho0); obtain ⟨Ao34, co34, eo34⟩ := Kd.R_slice HO339.out; subst eo34))
         go_loopg [11, 12, 46] k2 (fun kq v11 v12 v46 w' => ∃ (x11_3 : List (S23)) (x12_3 : Bool) (x46_3 : Int) (x321001_3 : Int), v12 = .bool x12_3 ∧ v46 = .int .i64 x46_3 ∧ Aside0 (spoorref20_Differ.l1 kq l1 l2 x11_3 x12_3 t337 (t337.length : Int) x46_3 a0_0 x321001_3 = some (r1, r2)) ∧ Aside0 (kq ≤ k2) ∧ Aside0 (Kd.R k23 23 w' w.heap.size (fun k_ => k_ ≠ gb320) v11 x11_3) ∧ Aside0 (Kd.R (Kd.int .i64) 2 w' w.heap.size (fun _ => True) (.slice Ao34 t337.length co34) t337) ∧ Aside0 (w'.heap[gb320]? = some (.cells #[.int .i64 a0_0, .int .i64 x321001_3] 23 (0, 0))) ∧ Aside0 (Below w.heap.size w w'))
         case atStart => exact ⟨(([] : List (S23))), (false), (0), (a0_1), rS, rS, H', ⟨Nat.le_refl _⟩, ⟨by first | exact Kd.R_nil _ _ _ _ _ | exact Kd.N_nil _ _ _ _ _ | exact Kd.V_nil _ _ _ _ _ | exact Kd.Q_nil _ _ _ _ _ | exact Kd.S_nil _ _ _ _ _⟩, ⟨by (with_reducible repeat (first | apply Kd.R_alloc | apply Kd.R_drewN | apply Kd.R_drew)); exact Kd.R_mono HO339.out (fun _ hk => trivial)⟩, ⟨bf0 BK320.out⟩, ⟨bw1 HB.out GE320.out⟩⟩
         case round =>
          clear H'
          try clear c1
          try clear c2
          try clear p2
          try clear c3
          try clear p3
          try clear q3
          try clear hx3
          try clear p6
          try clear c7
          try clear c7b0
          try clear c7b1
          try clear c13
          try clear c15
          try clear c16
          try clear c17
          try clear c21
          try clear c23
          try clear c23b0
          try clear c24
          try clear c24b0
          try clear c25
          try clear c25b0
          try clear c26
          try clear c28
          try clear p33
          try clear q33
          try clear hx33
          try clear hcz11_0
          try clear hcz11_1
          try clear hcz13_0
          try clear hcz13_1
          try clear hcz29_0
          try clear hcz29_1
          try clear hcz29_2
          try clear hcz29_3
          try clear hcz9_0
          try clear hcz9_1
          try clear hfz11_0
          try clear hfz11_1
          try clear hfz13_0
          try clear hfz13_1
          try clear hfz29_0
          try clear hfz29_1
          try clear hfz29_2
          try clear hfz29_3
          try clear hfz9_0
          try clear hfz9_1
          try clear hx332_0
          try clear hx332_1
          try clear hx332_2
          try clear hx332_3
          try clear p2
          try clear p332
          try clear q332
          obtain ⟨x11_3, x12_3, x46_3, x321001_3, rfl, rfl, HA, HK3, HO_11, HO_44, BK320, HB⟩ := hrel
          cases gk with
          | zero => exact absurd HA.out (by simp [spoorref20_Differ.l1])
          | succ k3 =>
           have H := HA.out
           clear HA
           simp only [spoorref20_Differ.l1] at H
           by_cases c35 : x46_3 < (t337.length : Int)
           ·rw [if_pos c35] at H
            have c35b0 : decide (x46_3 < (t337.length : Int)) = true := decide_eq_true c35
            clear c35
            by_cases c36 : 0 ≤ x46_3
            ·rw [if_pos c36] at H
             have c36b0 : decide (0 ≤ x46_3) = true := decide_eq_true c36
             clear c36
             by_cases c37 : x46_3 < (t337.length : Int)
             ·rw [if_pos c37] at H
              have c37b0 : decide (x46_3 < (t337.length : Int)) = true := decide_eq_true c37
              clear c37
              replace H := Option.bind_eq_some_iff.mp H
              obtain ⟨⟨t341, t342⟩, A380, H⟩ := H
              replace H : ((spoorref20_holds.f k3 l2 (rd t337 x46_3)).bind fun bt343 => (if x12_3 = true then (spoorref20_Differ.j3 k3 l1 l2 x11_3 x12_3 (rd t337 x46_3) (!(t341 == bt343.1) || (!(t342 == bt343.2))) t337 (t337.length : Int) x46_3 (!(!(t341 == bt343.1) || (!(t342 == bt343.2)))) a0_0 x321001_3) else (spoorref20_Differ.j3 k3 l1 l2 x11_3 x12_3 (rd t337 x46_3) (!(t341 == bt343.1) || (!(t342 == bt343.2))) t337 (t337.length : Int) x46_3 false a0_0 x321001_3))) = some (r1, r2) := H
              have A38 := Ax A380
              clear A380
              replace H := Option.bind_eq_some_iff.mp H
              obtain ⟨⟨t343, t344⟩, A390, H⟩ := H
              replace H : (if x12_3 = true then (spoorref20_Differ.j3 k3 l1 l2 x11_3 x12_3 (rd t337 x46_3) (!(t341 == t343) || (!(t342 == t344))) t337 (t337.length : Int) x46_3 (!(!(t341 == t343) || (!(t342 == t344)))) a0_0 x321001_3) else (spoorref20_Differ.j3 k3 l1 l2 x11_3 x12_3 (rd t337 x46_3) (!(t341 == t343) || (!(t342 == t344))) t337 (t337.length : Int) x46_3 false a0_0 x321001_3)) = some (r1, r2) := H
              have A39 := Ax A390
              clear A390
              have HC40 := Ax H
              clear H
              have p340 : 0 ≤ (x46_3 : Int) := of_decide_eq_true (by first | (with_reducible assumption) | assumption)
              have q340 : x46_3 < (t337.length : Int) := of_decide_eq_true (by first | (with_reducible assumption) | assumption)
              obtain ⟨ad340, e340, hx340_0⟩ := Kd.at_int (Kd.R_reads' HO_44.out).2.2 x46_3 p340 q340
              cases e340
              replace p340 := eq_true p340
              replace q340 := eq_true q340
              go_upto_region 15 with (first | ((with_reducible refine gate_callee (f := 34) rfl ?_); refine goesL_ (some 52) rfl rfl Try.func34 (by kernel_rfl) rfl #[.slice A1 l1.length c1, .int .i64 (rd t337 x46_3)] rfl gS ?_; (with_reducible refine (spoorref20_holds.calls k3 _ _ l1 (rd t337 x46_3) t341 t342 _ ?side1 ?side2 A38.out).mono ?_); (case side1 => repeat (first | exact (Kd.C_below HR1.out HB.out) | (with_reducible refine Kd.C_alloc ?_ _) | (with_reducible refine Kd.C_drewN ?_ _) | (with_reducible refine Kd.C_drew ?_))); (case side2 => exact HC1.out); rintro e w41 ⟨rfl, hb⟩; refine ⟨_, rfl, ?_⟩; have n0_ := Ax (Kd.R_below (by (with_reducible repeat (first | apply Kd.R_alloc | apply Kd.R_drewN | apply Kd.R_drew)); exact HO_11.out) hb); have n1_ := Ax (Kd.R_below (by (with_reducible repeat (first | apply Kd.R_alloc | apply Kd.R_drewN | apply Kd.R_drew)); exact HO_44.out) hb); have n2_ := Bx0 BK320 hb; have n3_ := Bs1 HB hb GE320.out; clear HO_11; clear HO_44; clear BK320; clear HB; have HO_11 := n0_; have HO_44 := n1_; have BK320 := n2_; have HB := n3_; clear n0_ n1_ n2_ n3_; (try clear hb); (try clear hb2); (try clear hk); (try clear hi)) | ((with_reducible refine gate_callee (f := 34) rfl ?_); refine goesL_ (some 55) rfl rfl Try.func34 (by kernel_rfl) rfl #[.slice A2 l2.length c2, .int .i64 (rd t337 x46_3)] rfl gS ?_; (with_reducible refine (spoorref20_holds.calls k3 _ _ l2 (rd t337 x46_3) t343 t344 _ ?side1 ?side2 A39.out).mono ?_); (case side1 => repeat (first | exact (Kd.C_below HR2.out HB.out) | (with_reducible refine Kd.C_alloc ?_ _) | (with_reducible refine Kd.C_drewN ?_ _) | (with_reducible refine Kd.C_drew ?_))); (case side2 => exact HC2.out); rintro e w42 ⟨rfl, hb⟩; refine ⟨_, rfl, ?_⟩; have n0_ := Ax (Kd.R_below (by (with_reducible repeat (first | apply Kd.R_alloc | apply Kd.R_drewN | apply Kd.R_drew)); exact HO_11.out) hb); have n1_ := Ax (Kd.R_below (by (with_reducible repeat (first | apply Kd.R_alloc | apply Kd.R_drewN | apply Kd.R_drew)); exact HO_44.out) hb); have n2_ := Bx0 BK320 hb; have n3_ := Bs1 HB hb GE320.out; clear HO_11; clear HO_44; clear BK320; clear HB; have HO_11 := n0_; have HO_44 := n1_; have BK320 := n2_; have HB := n3_; clear n0_ n1_ n2_ n3_; (try clear hb); (try clear hb2); (try clear hk); (try clear hi)))
              (try simp only [Act.put, List.setIfInBounds_toArray, List.set_cons_zero, List.set_cons_succ])
              go_cut [61] (fun v61 wc => ∃ (kq : Nat) (x61_39 : Bool), v61 = .bool x61_39 ∧ Aside0 (spoorref20_Differ.j3 kq l1 l2 x11_3 x12_3 (rd t337 x46_3) (!(t341 == t343) || (!(t342 == t344))) t337 (t337.length : Int) x46_3 x61_39 a0_0 x321001_3 = some (r1, r2)) ∧ Aside0 (kq ≤ k3) ∧ Aside0 (Kd.R k23 23 wc w.heap.size (fun k_ => k_ ≠ gb320) u11 x11_3) ∧ Aside0 (Kd.R (Kd.int .i64) 2 wc w.heap.size (fun _ => True) (.slice (some ad340) t337.length co34) t337) ∧ Aside0 (wc.heap[gb320]? = some (.cells #[.int .i64 a0_0, .int .i64 x321001_3] 23 (0, 0))) ∧ Aside0 (Below w.heap.size w wc))
              case first =>
               have H := HC40.out
               clear HC40
               by_cases c43 : x12_3 = true
               ·subst c43
                have H1 : (spoorref20_Differ.j3 k3 l1 l2 x11_3 true (rd t337 x46_3) (!(t341 == t343) || (!(t342 == t344))) t337 (t337.length : Int) x46_3 (!(!(t341 == t343) || (!(t342 == t344)))) a0_0 x321001_3) = some (r1, r2) := by rw [if_pos rfl] at H; exact H
                clear H
                have H := H1
                clear H1
                have H' := Ax H
                clear H
                go_wp2
                go_meet
                case rel => exact ⟨_, (!(!(t341 == t343) || (!(t342 == t344)))), rS, H', ⟨by have := HJ3.out; have := HK2.out; have := HK3.out; first | omega | exact Nat.le_refl _⟩, ⟨by (with_reducible repeat (first | apply Kd.R_alloc | apply Kd.R_drewN | apply Kd.R_drew)); exact HO_11.out⟩, ⟨by (with_reducible repeat (first | apply Kd.R_alloc | apply Kd.R_drewN | apply Kd.R_drew)); exact HO_44.out⟩, ⟨bf0 BK320.out⟩, ⟨bw1 HB.out GE320.out⟩⟩
               ·replace c43 := Bool.eq_false_iff.mpr c43
                subst c43
                have H1 : (spoorref20_Differ.j3 k3 l1 l2 x11_3 false (rd t337 x46_3) (!(t341 == t343) || (!(t342 == t344))) t337 (t337.length : Int) x46_3 false a0_0 x321001_3) = some (r1, r2) := by rw [if_neg (show ¬ (false = true) by decide)] at H; exact H
                clear H
                have H := H1
                clear H1
                have H' := Ax H
                clear H
                go_wp2
                go_meet
                case rel => exact ⟨_, (false), rS, H', ⟨by have := HJ3.out; have := HK2.out; have := HK3.out; first | omega | exact Nat.le_refl _⟩, ⟨by (with_reducible repeat (first | apply Kd.R_alloc | apply Kd.R_drewN | apply Kd.R_drew)); exact HO_11.out⟩, ⟨by (with_reducible repeat (first | apply Kd.R_alloc | apply Kd.R_drewN | apply Kd.R_drew)); exact HO_44.out⟩, ⟨bf0 BK320.out⟩, ⟨bw1 HB.out GE320.out⟩⟩
              case rest =>
               clear HC40
               try clear c1
               try clear c2
               try clear p2
               try clear c3
               try clear p3
               try clear q3
               try clear hx3
               try clear c4
               try clear p6
               try clear c7
               try clear c7b0
               try clear c7b1
               try clear c13
               try clear c15
               try clear c16
               try clear c17
               try clear c21
               try clear c23
               try clear c23b0
               try clear c24
               try clear c24b0
               try clear c25
               try clear c25b0
               try clear c26
               try clear c28
               try clear p33
               try clear q33
               try clear hx33
               try clear c34
               try clear p34
               try clear q34
               try clear hx34
               try clear c35
               try clear c35b0
               try clear c36
               try clear c36b0
               try clear c37
               try clear c37b0
               try clear c38
               try clear c43
               try clear hcz11_0
               try clear hcz11_1
               try clear hcz13_0
               try clear hcz13_1
               try clear hcz29_0
               try clear hcz29_1
               try clear hcz29_2
               try clear hcz29_3
               try clear hcz9_0
               try clear hcz9_1
               try clear hfz11_0
               try clear hfz11_1
               try clear hfz13_0
               try clear hfz13_1
               try clear hfz29_0
               try clear hfz29_1
               try clear hfz29_2
               try clear hfz29_3
               try clear hfz9_0
               try clear hfz9_1
               try clear hx332_0
               try clear hx332_1
               try clear hx332_2
               try clear hx332_3
               try clear hx340_0
               try clear p2
               try clear p3
               try clear p33
               try clear p332
               try clear p340
               try clear p6
               try clear q3
               try clear q33
               try clear q332
               try clear q340
               obtain ⟨kq, x61_39, rfl, HA, HJ39, HO_11, HO_44, BK320, HB⟩ := hcut
               cases kq with
               | zero => exact absurd HA.out (by simp [spoorref20_Differ.j3])
               | succ kj39 =>
                have H := HA.out
                clear HA
                simp only [spoorref20_Differ.j3] at H
                by_cases c44 : x61_39 = true
                ·subst c44
                 have H1 : (if 0 ≤ (wrap64 ((x11_3.length : Int) - 1)) then (if (wrap64 ((x11_3.length : Int) - 1)) < (x11_3.length : Int) then ((some (x11_3.set ((wrap64 ((x11_3.length : Int) - 1)) : Int).toNat (⟨(rd_T23 x11_3 (wrap64 ((x11_3.length : Int) - 1))).f0, wrap64 ((rd t337 x46_3) - 1)⟩ : S23) : List (S23))).bind fun y345 => (if x12_3 = true then (spoorref20_Differ.l1 kj39 l1 l2 y345 (!(t341 == t343) || (!(t342 == t344))) t337 (t337.length : Int) (wrap64 (x46_3 + 1)) a0_0 x321001_3) else (if (!(t341 == t343) || (!(t342 == t344))) = true then (if y345.length < 8796093022208 then (spoorref20_Differ.l1 kj39 l1 l2 (y345 ++ [(⟨(rd t337 x46_3), x321001_3⟩ : S23)]) (!(t341 == t343) || (!(t342 == t344))) t337 (t337.length : Int) (wrap64 (x46_3 + 1)) a0_0 x321001_3) else (none)) else (spoorref20_Differ.l1 kj39 l1 l2 y345 (!(t341 == t343) || (!(t342 == t344))) t337 (t337.length : Int) (wrap64 (x46_3 + 1)) a0_0 x321001_3)))) else (none)) else (none)) = some (r1, r2) := by rw [if_pos rfl] at H; exact H
                 clear H
                 have H := H1
                 clear H1
                 obtain ⟨ji45, hji45⟩ : ∃ j_ : Int, (wrap64 ((x11_3.length : Int) - 1)) = j_ := ⟨_, rfl⟩
                 replace H : (if 0 ≤ (ji45) then (if (ji45) < (x11_3.length : Int) then ((some (x11_3.set ((ji45) : Int).toNat (⟨(rd_T23 x11_3 (ji45)).f0, wrap64 ((rd t337 x46_3) - 1)⟩ : S23) : List (S23))).bind fun y345 => (if x12_3 = true then (spoorref20_Differ.l1 kj39 l1 l2 y345 (!(t341 == t343) || (!(t342 == t344))) t337 (t337.length : Int) (wrap64 (x46_3 + 1)) a0_0 x321001_3) else (if (!(t341 == t343) || (!(t342 == t344))) = true then (if y345.length < 8796093022208 then (spoorref20_Differ.l1 kj39 l1 l2 (y345 ++ [(⟨(rd t337 x46_3), x321001_3⟩ : S23)]) (!(t341 == t343) || (!(t342 == t344))) t337 (t337.length : Int) (wrap64 (x46_3 + 1)) a0_0 x321001_3) else (none)) else (spoorref20_Differ.l1 kj39 l1 l2 y345 (!(t341 == t343) || (!(t342 == t344))) t337 (t337.length : Int) (wrap64 (x46_3 + 1)) a0_0 x321001_3)))) else (none)) else (none)) = some (r1, r2) := by first | (rw [hji45] at H; exact H) | (simp only [hji45] at H ⊢; exact H)
                 have hji45w : (IntKind.i64.wrap ((x11_3.length : Int) - 1)) = ji45 := (i64_w _).trans hji45
                 by_cases c46 : 0 ≤ (ji45)
                 ·rw [if_pos c46] at H
                  have c46b0 : decide (0 ≤ (ji45)) = true := decide_eq_true c46
                  clear c46
                  by_cases c47 : (ji45) < (x11_3.length : Int)
                  ·rw [if_pos c47] at H
                   have c47b0 : decide ((ji45) < (x11_3.length : Int)) = true := decide_eq_true c47
                   clear c47
                   obtain ⟨y345, hy345⟩ : ∃ y_ : List (S23), y_ = (x11_3.set ((ji45) : Int).toNat (⟨(rd_T23 x11_3 (ji45)).f0, wrap64 ((rd t337 x46_3) - 1)⟩ : S23)) := ⟨_, rfl⟩
                   replace H : (if x12_3 = true then (spoorref20_Differ.l1 kj39 l1 l2 y345 (!(t341 == t343) || (!(t342 == t344))) t337 (t337.length : Int) (wrap64 (x46_3 + 1)) a0_0 x321001_3) else (if (!(t341 == t343) || (!(t342 == t344))) = true then (if y345.length < 8796093022208 then (spoorref20_Differ.l1 kj39 l1 l2 (y345 ++ [(⟨(rd t337 x46_3), x321001_3⟩ : S23)]) (!(t341 == t343) || (!(t342 == t344))) t337 (t337.length : Int) (wrap64 (x46_3 + 1)) a0_0 x321001_3) else (none)) else (spoorref20_Differ.l1 kj39 l1 l2 y345 (!(t341 == t343) || (!(t342 == t344))) t337 (t337.length : Int) (wrap64 (x46_3 + 1)) a0_0 x321001_3))) = some (r1, r2) := by first | (rw [hy345]; with_reducible exact H) | (have H2_ := (Option.bind_some _ _).symm.trans H; rw [hy345]; with_reducible exact H2_) | (have H2_ := (Option.bind_some _ _).symm.trans H; with_reducible exact H2_) | with_reducible exact H | (rw [hy345]; exact H) | exact H
                   have Ny345 := Ax hy345
                   clear hy345
                   by_cases c49 : x12_3 = true
                   ·subst c49
                    have H1 : (spoorref20_Differ.l1 kj39 l1 l2 y345 (!(t341 == t343) || (!(t342 == t344))) t337 (t337.length : Int) (wrap64 (x46_3 + 1)) a0_0 x321001_3) = some (r1, r2) := by rw [if_pos rfl] at H; exact H
                    clear H
                    have H := H1
                    clear H1
                    have H' := Ax H
                    clear H
                    obtain ⟨Ao50, co50, eo50⟩ := Kd.R_slice HO_11.out
                    subst eo50
                    have p48 : 0 ≤ ((ji45) : Int) := of_decide_eq_true (by first | (with_reducible assumption) | assumption)
                    have q48 : ((ji45) : Int) < ((x11_3.length : Int) : Int) := of_decide_eq_true (by first | (with_reducible assumption) | assumption)
                    obtain ⟨go48, co48, eo48, gb48, gl48, cl48, HG48⟩ := Kd.R_form HO_11.out (by omega)
                    (first | cases eo48 | (injection eo48 with ea_ en_ ec_; (first | subst ea_ | (injection ea_ with ea_; subst ea_)); subst ec_; clear en_))
                    have GB48 := Ax gb48
                    have GG48 := Ax HG48
                    clear gb48 gl48 HG48
                    obtain ⟨ce48, hcl48, hM48, hcc48, hfr48⟩ := Kd.R_elem HO_11.out z23 ((ji45) : Int) p48 q48
                    obtain rfl := k23_openM hM48
                    have hx48_0 : wc.cell? ⟨go48, ((ji45) : Int).toNat * 2, none⟩ = some (.int .i64 ((rd_T23 x11_3 (ji45)).f0)) := hcc48 0 _ rfl
                    have hx48_1 : wc.cell? ⟨go48, ((ji45) : Int).toNat * 2 + 1, none⟩ = some (.int .i64 ((rd_T23 x11_3 (ji45)).f1)) := hcc48 1 _ rfl
                    have hf48_0 : wc.frozen? ⟨go48, ((ji45) : Int).toNat * 2, none⟩ = false := hfr48 0
                    have hf48_1 : wc.frozen? ⟨go48, ((ji45) : Int).toNat * 2 + 1, none⟩ = false := hfr48 1
                    clear hcl48 hcc48 hfr48 hM48
                    replace p48 := eq_true p48
                    replace q48 := eq_true q48
                    have HX51 := Ax (show Kd.R k23 23 wc w.heap.size (fun k_ => k_ ≠ gb320) (.slice (some ⟨go48, 0, none⟩) x11_3.length co50) x11_3 from (by (with_reducible repeat (first | apply Kd.R_alloc | apply Kd.R_drewN | apply Kd.R_drew)); exact HO_11.out))
                    obtain ⟨ce51, hcl51, hM51, hcc51, hfr51⟩ := Kd.R_elem HX51.out z23 ((ji45) : Int) (of_decide_eq_true (by first | (with_reducible assumption) | assumption)) (by have h_ : ((ji45) : Int) < ((x11_3.length : Int) : Int) := of_decide_eq_true (by first | (with_reducible assumption) | assumption); first | exact h_ | (have e_ := (Kd.R_reads' HO_11.out).1; omega) | simpa using h_)
                    obtain rfl := k23_openM hM51
                    have HP51 := Kd.R_seg HX51.out ((ji45) : Int) (of_decide_eq_true (by first | (with_reducible assumption) | assumption)) (by have h_ : ((ji45) : Int) < ((x11_3.length : Int) : Int) := of_decide_eq_true (by first | (with_reducible assumption) | assumption); first | exact h_ | (have e_ := (Kd.R_reads' HO_11.out).1; omega) | simpa using h_) (seg := [.int .i64 (wrap64 ((rd t337 x46_3) - 1))]) (j := 1) hcl51 hcc51 (show 2 ≤ 2 from by decide) (x' := (⟨(rd_T23 x11_3 (ji45)).f0, wrap64 ((rd t337 x46_3) - 1)⟩ : S23)) (k23_mkM _ _ _ (⟨(rd_T23 x11_3 (ji45)).f0, wrap64 ((rd t337 x46_3) - 1)⟩ : S23) ) (fun _ hk => hk)
                    have hx51_1 := hcc51 1 _ rfl
                    (try simp only [show (k23).sz = 2 from rfl, Nat.mul_one, Nat.add_zero] at hx51_1)
                    have hf51_1 := hfr51 1
                    (try simp only [show (k23).sz = 2 from rfl, Nat.mul_one, Nat.add_zero] at hf51_1)
                    clear hcl51 hcc51 hfr51 hM51
                    go_wp2_with (first | ((with_reducible refine gate_store (t := 2) (p := 69) rfl ?_); refine store_event (t := 2) (p := 69) (v := ?vo_w52) (w1 := (wc.setCell ⟨go48, ((ji45) : Int).toNat * 2 + 1, none⟩ (.int .i64 (wrap64 ((rd t337 x46_3) - 1))))) ?hg ?ho ?hn ?hr ?_; (case ho => rfl); (case hg => rfl); (case hn => rfl); (case hr => first | (go_simp; done) | (go_simp; rfl)); intro w52 hw; have hg : wc.grownBy w52 (some go48) := (by rw [hw]; exact HP51.2); have hp_ : Kd.R k23 23 w52 w.heap.size (fun k_ => k_ ≠ gb320) (.slice (some ⟨go48, 0, none⟩) x11_3.length co50) y345 := (by rw [hw, Ny345.out]; exact HP51.1); clear HP51; have n0_ := Ax (hp_); have n1_ := Ax (Kd.R_over' (v := (.slice (some ⟨go48, 0, none⟩) x11_3.length co50)) (by (with_reducible repeat (first | apply Kd.R_alloc | apply Kd.R_drewN | apply Kd.R_drew)); exact HO_44.out) (Kd.R_typed HO_11.out) (by decide) hg); have n2_ := Ax (blk_grown (g := gb320) (o := .cells #[.int .i64 a0_0, .int .i64 x321001_3] 23 (0, 0)) (bf0 BK320.out) hg (Kd.R_away HO_11.out (fun _ hk => hk))); have n3_ := Ax ((by rw [hw]; exact below_set (HB.out) GB48.out : Below w.heap.size w w52)); clear HO_11; clear HO_44; clear BK320; clear HB; have HO_11 := n0_; have HO_44 := n1_; have BK320 := n2_; have HB := n3_; clear n0_ n1_ n2_ n3_; clear hg hw hp_))
                    go_roundg kj39
                    case measure => have := HJ3.out; have := HK2.out; have := HK3.out; have := HJ39.out; omega
                    case rel => exact ⟨(y345), ((!(t341 == t343) || (!(t342 == t344)))), (wrap64 (x46_3 + 1)), (x321001_3), rS, rS, H', ⟨by have := HJ3.out; have := HK2.out; have := HK3.out; have := HJ39.out; omega⟩, ⟨by (with_reducible repeat (first | apply Kd.R_alloc | apply Kd.R_drewN | apply Kd.R_drew)); exact HO_11.out⟩, ⟨by (with_reducible repeat (first | apply Kd.R_alloc | apply Kd.R_drewN | apply Kd.R_drew)); exact HO_44.out⟩, ⟨bf0 BK320.out⟩, ⟨bw1 HB.out GE320.out⟩⟩
                   ·replace c49 := Bool.eq_false_iff.mpr c49
                    subst c49
                    have H1 : (if (!(t341 == t343) || (!(t342 == t344))) = true then (if y345.length < 8796093022208 then (spoorref20_Differ.l1 kj39 l1 l2 (y345 ++ [(⟨(rd t337 x46_3), x321001_3⟩ : S23)]) (!(t341 == t343) || (!(t342 == t344))) t337 (t337.length : Int) (wrap64 (x46_3 + 1)) a0_0 x321001_3) else (none)) else (spoorref20_Differ.l1 kj39 l1 l2 y345 (!(t341 == t343) || (!(t342 == t344))) t337 (t337.length : Int) (wrap64 (x46_3 + 1)) a0_0 x321001_3)) = some (r1, r2) := by rw [if_neg (show ¬ (false = true) by decide)] at H; exact H
                    clear H
                    have H := H1
                    clear H1
                    by_cases c53 : (!(t341 == t343) || (!(t342 == t344))) = true
                    ·rw [if_pos c53] at H
                     have c53b0 : (!(t341 == t343) || (!(t342 == t344))) = true := c53
                     clear c53
                     by_cases c54 : y345.length < 8796093022208
                     ·rw [if_pos c54] at H
                      have LMc54 := Ax c54
                      clear c54
                      obtain ⟨y346, hy346⟩ : ∃ y_ : List (S23), y_ = (y345 ++ [(⟨(rd t337 x46_3), x321001_3⟩ : S23)]) := ⟨_, rfl⟩
                      replace H : (spoorref20_Differ.l1 kj39 l1 l2 y346 (!(t341 == t343) || (!(t342 == t344))) t337 (t337.length : Int) (wrap64 (x46_3 + 1)) a0_0 x321001_3) = some (r1, r2) := by first | (rw [hy346]; with_reducible exact H) | (have H2_ := (Option.bind_some _ _).symm.trans H; rw [hy346]; with_reducible exact H2_) | (have H2_ := (Option.bind_some _ _).symm.trans H; with_reducible exact H2_) | with_reducible exact H | (rw [hy346]; exact H) | exact H
                      have Ny346 := Ax hy346
                      clear hy346
                      have H' := Ax H
                      clear H
                      obtain ⟨Ao55, co55, eo55⟩ := Kd.R_slice HO_11.out
                      subst eo55
                      have p48 : 0 ≤ ((ji45) : Int) := of_decide_eq_true (by first | (with_reducible assumption) | assumption)
                      have q48 : ((ji45) : Int) < ((x11_3.length : Int) : Int) := of_decide_eq_true (by first | (with_reducible assumption) | assumption)
                      obtain ⟨go48, co48, eo48, gb48, gl48, cl48, HG48⟩ := Kd.R_form HO_11.out (by omega)
                      (first | cases eo48 | (injection eo48 with ea_ en_ ec_; (first | subst ea_ | (injection ea_ with ea_; subst ea_)); subst ec_; clear en_))
                      have GB48 := Ax gb48
                      have GG48 := Ax HG48
                      clear gb48 gl48 HG48
                      obtain ⟨ce48, hcl48, hM48, hcc48, hfr48⟩ := Kd.R_elem HO_11.out z23 ((ji45) : Int) p48 q48
                      obtain rfl := k23_openM hM48
                      have hx48_0 : wc.cell? ⟨go48, ((ji45) : Int).toNat * 2, none⟩ = some (.int .i64 ((rd_T23 x11_3 (ji45)).f0)) := hcc48 0 _ rfl
                      have hx48_1 : wc.cell? ⟨go48, ((ji45) : Int).toNat * 2 + 1, none⟩ = some (.int .i64 ((rd_T23 x11_3 (ji45)).f1)) := hcc48 1 _ rfl
                      have hf48_0 : wc.frozen? ⟨go48, ((ji45) : Int).toNat * 2, none⟩ = false := hfr48 0
                      have hf48_1 : wc.frozen? ⟨go48, ((ji45) : Int).toNat * 2 + 1, none⟩ = false := hfr48 1
                      clear hcl48 hcc48 hfr48 hM48
                      replace p48 := eq_true p48
                      replace q48 := eq_true q48
                      have HX56 := Ax (show Kd.R k23 23 wc w.heap.size (fun k_ => k_ ≠ gb320) (.slice (some ⟨go48, 0, none⟩) x11_3.length co55) x11_3 from (by (with_reducible repeat (first | apply Kd.R_alloc | apply Kd.R_drewN | apply Kd.R_drew)); exact HO_11.out))
                      obtain ⟨ce56, hcl56, hM56, hcc56, hfr56⟩ := Kd.R_elem HX56.out z23 ((ji45) : Int) (of_decide_eq_true (by first | (with_reducible assumption) | assumption)) (by have h_ : ((ji45) : Int) < ((x11_3.length : Int) : Int) := of_decide_eq_true (by first | (with_reducible assumption) | assumption); first | exact h_ | (have e_ := (Kd.R_reads' HO_11.out).1; omega) | simpa using h_)
                      obtain rfl := k23_openM hM56
                      have HP56 := Kd.R_seg HX56.out ((ji45) : Int) (of_decide_eq_true (by first | (with_reducible assumption) | assumption)) (by have h_ : ((ji45) : Int) < ((x11_3.length : Int) : Int) := of_decide_eq_true (by first | (with_reducible assumption) | assumption); first | exact h_ | (have e_ := (Kd.R_reads' HO_11.out).1; omega) | simpa using h_) (seg := [.int .i64 (wrap64 ((rd t337 x46_3) - 1))]) (j := 1) hcl56 hcc56 (show 2 ≤ 2 from by decide) (x' := (⟨(rd_T23 x11_3 (ji45)).f0, wrap64 ((rd t337 x46_3) - 1)⟩ : S23)) (k23_mkM _ _ _ (⟨(rd_T23 x11_3 (ji45)).f0, wrap64 ((rd t337 x46_3) - 1)⟩ : S23) ) (fun _ hk => hk)
                      have hx56_1 := hcc56 1 _ rfl
                      (try simp only [show (k23).sz = 2 from rfl, Nat.mul_one, Nat.add_zero] at hx56_1)
                      have hf56_1 := hfr56 1
                      (try simp only [show (k23).sz = 2 from rfl, Nat.mul_one, Nat.add_zero] at hf56_1)
                      clear hcl56 hcc56 hfr56 hM56
                      go_wp2_with (first | ((with_reducible refine gate_store (t := 2) (p := 69) rfl ?_); refine store_event (t := 2) (p := 69) (v := ?vo_w57) (w1 := (wc.setCell ⟨go48, ((ji45) : Int).toNat * 2 + 1, none⟩ (.int .i64 (wrap64 ((rd t337 x46_3) - 1))))) ?hg ?ho ?hn ?hr ?_; (case ho => rfl); (case hg => rfl); (case hn => rfl); (case hr => first | (go_simp; done) | (go_simp; rfl)); intro w57 hw; have hg : wc.grownBy w57 (some go48) := (by rw [hw]; exact HP56.2); have hp_ : Kd.R k23 23 w57 w.heap.size (fun k_ => k_ ≠ gb320) (.slice (some ⟨go48, 0, none⟩) x11_3.length co55) y345 := (by rw [hw, Ny345.out]; exact HP56.1); clear HP56; have n0_ := Ax (hp_); have n1_ := Ax (Kd.R_over' (v := (.slice (some ⟨go48, 0, none⟩) x11_3.length co55)) (by (with_reducible repeat (first | apply Kd.R_alloc | apply Kd.R_drewN | apply Kd.R_drew)); exact HO_44.out) (Kd.R_typed HO_11.out) (by decide) hg); have n2_ := Ax (blk_grown (g := gb320) (o := .cells #[.int .i64 a0_0, .int .i64 x321001_3] 23 (0, 0)) (bf0 BK320.out) hg (Kd.R_away HO_11.out (fun _ hk => hk))); have n3_ := Ax ((by rw [hw]; exact below_set (HB.out) GB48.out : Below w.heap.size w w57)); clear HO_11; clear HO_44; clear BK320; clear HB; have HO_11 := n0_; have HO_44 := n1_; have BK320 := n2_; have HB := n3_; clear n0_ n1_ n2_ n3_; clear hg hw hp_; obtain ⟨hcz58_0, hcz58_1, hfz58_0, hfz58_1⟩ := cl2 BK320) | ((with_reducible refine gate_builtin (b := .append) (xs := #[.tmp 75, .tmp 80]) rfl ?_); at_builtin; refine Kd.R_append k23 (w0 := w) w.heap.size rfl (.tmp 75) (.tmp 80) 38 23 (.agg #[(.int .i64 0), (.int .i64 0)]) 16 rfl Try.underlying38 info23 rfl (by decide) (by omega) (.slice (some ⟨go48, 0, none⟩) x11_3.length co55) y345 (⟨(rd t337 x46_3), x321001_3⟩ : S23) [.int .i64 (rd t337 x46_3), .int .i64 x321001_3] (fun k_ => k_ ≠ gb320) (fun _ => False) rfl rfl ?aP (fun _ hk => hk.elim) ?aF ?aO ?aB ?aS ?aL ?_; (case aP => exact k23_mkM _ _ _ (⟨(rd t337 x46_3), x321001_3⟩ : S23)); (case aB => exact (bw1 HB.out GE320.out)); (case aF => exact (fun k_ hk => Kd.freshB (g := gb320) (o := .cells #[.int .i64 a0_0, .int .i64 x321001_3] 23 (0, 0)) (bf0 BK320.out) k_ hk)); (case aO => exact (by (with_reducible repeat (first | apply Kd.R_alloc | apply Kd.R_drewN | apply Kd.R_drew)); exact HO_11.out)); (case aS => exact (below_size (bw1 HB.out GE320.out))); (case aL => have := LMc54.out; omega); intro v347 w59 ho hb hg hat; rw [← Ny346.out] at ho; have n0_ := Ax (Kd.R_over' (by (with_reducible repeat (first | apply Kd.R_alloc | apply Kd.R_drewN | apply Kd.R_drew)); exact HO_44.out) (Kd.R_typed (by (with_reducible repeat (first | apply Kd.R_alloc | apply Kd.R_drewN | apply Kd.R_drew)); exact HO_11.out)) (by decide) hg); have n1_ := Ax (blk_grown (g := gb320) (o := .cells #[.int .i64 a0_0, .int .i64 x321001_3] 23 (0, 0)) (bf0 BK320.out) hg (Kd.R_away HO_11.out (fun _ hk => hk))); have n2_ := Ax (hb); have n3_ := Ax (ho); clear HO_44; clear BK320; clear HB; clear HO_11; have HO_44 := n0_; have BK320 := n1_; have HB := n2_; have HO348 := n3_; clear n0_ n1_ n2_ n3_; clear ho hb hg hat))
                      go_roundg kj39
                      case measure => have := HJ3.out; have := HK2.out; have := HK3.out; have := HJ39.out; omega
                      case rel => exact ⟨(y346), ((!(t341 == t343) || (!(t342 == t344)))), (wrap64 (x46_3 + 1)), (x321001_3), rS, rS, H', ⟨by have := HJ3.out; have := HK2.out; have := HK3.out; have := HJ39.out; omega⟩, ⟨by (with_reducible repeat (first | apply Kd.R_alloc | apply Kd.R_drewN | apply Kd.R_drew)); exact HO348.out⟩, ⟨by (with_reducible repeat (first | apply Kd.R_alloc | apply Kd.R_drewN | apply Kd.R_drew)); exact HO_44.out⟩, ⟨bf0 BK320.out⟩, ⟨bw1 HB.out GE320.out⟩⟩
                     ·rw [if_neg c54] at H
                      exact absurd H (by simp)
                    ·rw [if_neg c53] at H
                     have c53b0 : (!(t341 == t343) || (!(t342 == t344))) = false := by simpa using c53
                     clear c53
                     have H' := Ax H
                     clear H
                     obtain ⟨Ao60, co60, eo60⟩ := Kd.R_slice HO_11.out
                     subst eo60
                     have p48 : 0 ≤ ((ji45) : Int) := of_decide_eq_true (by first | (with_reducible assumption) | assumption)
                     have q48 : ((ji45) : Int) < ((x11_3.length : Int) : Int) := of_decide_eq_true (by first | (with_reducible assumption) | assumption)
                     obtain ⟨go48, co48, eo48, gb48, gl48, cl48, HG48⟩ := Kd.R_form HO_11.out (by omega)
                     (first | cases eo48 | (injection eo48 with ea_ en_ ec_; (first | subst ea_ | (injection ea_ with ea_; subst ea_)); subst ec_; clear en_))
                     have GB48 := Ax gb48
                     have GG48 := Ax HG48
                     clear gb48 gl48 HG48
                     obtain ⟨ce48, hcl48, hM48, hcc48, hfr48⟩ := Kd.R_elem HO_11.out z23 ((ji45) : Int) p48 q48
                     obtain rfl := k23_openM hM48
                     have hx48_0 : wc.cell? ⟨go48, ((ji45) : Int).toNat * 2, none⟩ = some (.int .i64 ((rd_T23 x11_3 (ji45)).f0)) := hcc48 0 _ rfl
                     have hx48_1 : wc.cell? ⟨go48, ((ji45) : Int).toNat * 2 + 1, none⟩ = some (.int .i64 ((rd_T23 x11_3 (ji45)).f1)) := hcc48 1 _ rfl
                     have hf48_0 : wc.frozen? ⟨go48, ((ji45) : Int).toNat * 2, none⟩ = false := hfr48 0
                     have hf48_1 : wc.frozen? ⟨go48, ((ji45) : Int).toNat * 2 + 1, none⟩ = false := hfr48 1
                     clear hcl48 hcc48 hfr48 hM48
                     replace p48 := eq_true p48
                     replace q48 := eq_true q48
                     have HX61 := Ax (show Kd.R k23 23 wc w.heap.size (fun k_ => k_ ≠ gb320) (.slice (some ⟨go48, 0, none⟩) x11_3.length co60) x11_3 from (by (with_reducible repeat (first | apply Kd.R_alloc | apply Kd.R_drewN | apply Kd.R_drew)); exact HO_11.out))
                     obtain ⟨ce61, hcl61, hM61, hcc61, hfr61⟩ := Kd.R_elem HX61.out z23 ((ji45) : Int) (of_decide_eq_true (by first | (with_reducible assumption) | assumption)) (by have h_ : ((ji45) : Int) < ((x11_3.length : Int) : Int) := of_decide_eq_true (by first | (with_reducible assumption) | assumption); first | exact h_ | (have e_ := (Kd.R_reads' HO_11.out).1; omega) | simpa using h_)
                     obtain rfl := k23_openM hM61
                     have HP61 := Kd.R_seg HX61.out ((ji45) : Int) (of_decide_eq_true (by first | (with_reducible assumption) | assumption)) (by have h_ : ((ji45) : Int) < ((x11_3.length : Int) : Int) := of_decide_eq_true (by first | (with_reducible assumption) | assumption); first | exact h_ | (have e_ := (Kd.R_reads' HO_11.out).1; omega) | simpa using h_) (seg := [.int .i64 (wrap64 ((rd t337 x46_3) - 1))]) (j := 1) hcl61 hcc61 (show 2 ≤ 2 from by decide) (x' := (⟨(rd_T23 x11_3 (ji45)).f0, wrap64 ((rd t337 x46_3) - 1)⟩ : S23)) (k23_mkM _ _ _ (⟨(rd_T23 x11_3 (ji45)).f0, wrap64 ((rd t337 x46_3) - 1)⟩ : S23) ) (fun _ hk => hk)
                     have hx61_1 := hcc61 1 _ rfl
                     (try simp only [show (k23).sz = 2 from rfl, Nat.mul_one, Nat.add_zero] at hx61_1)
                     have hf61_1 := hfr61 1
                     (try simp only [show (k23).sz = 2 from rfl, Nat.mul_one, Nat.add_zero] at hf61_1)
                     clear hcl61 hcc61 hfr61 hM61
                     go_wp2_with (first | ((with_reducible refine gate_store (t := 2) (p := 69) rfl ?_); refine store_event (t := 2) (p := 69) (v := ?vo_w62) (w1 := (wc.setCell ⟨go48, ((ji45) : Int).toNat * 2 + 1, none⟩ (.int .i64 (wrap64 ((rd t337 x46_3) - 1))))) ?hg ?ho ?hn ?hr ?_; (case ho => rfl); (case hg => rfl); (case hn => rfl); (case hr => first | (go_simp; done) | (go_simp; rfl)); intro w62 hw; have hg : wc.grownBy w62 (some go48) := (by rw [hw]; exact HP61.2); have hp_ : Kd.R k23 23 w62 w.heap.size (fun k_ => k_ ≠ gb320) (.slice (some ⟨go48, 0, none⟩) x11_3.length co60) y345 := (by rw [hw, Ny345.out]; exact HP61.1); clear HP61; have n0_ := Ax (hp_); have n1_ := Ax (Kd.R_over' (v := (.slice (some ⟨go48, 0, none⟩) x11_3.length co60)) (by (with_reducible repeat (first | apply Kd.R_alloc | apply Kd.R_drewN | apply Kd.R_drew)); exact HO_44.out) (Kd.R_typed HO_11.out) (by decide) hg); have n2_ := Ax (blk_grown (g := gb320) (o := .cells #[.int .i64 a0_0, .int .i64 x321001_3] 23 (0, 0)) (bf0 BK320.out) hg (Kd.R_away HO_11.out (fun _ hk => hk))); have n3_ := Ax ((by rw [hw]; exact below_set (HB.out) GB48.out : Below w.heap.size w w62)); clear HO_11; clear HO_44; clear BK320; clear HB; have HO_11 := n0_; have HO_44 := n1_; have BK320 := n2_; have HB := n3_; clear n0_ n1_ n2_ n3_; clear hg hw hp_))
                     go_roundg kj39
                     case measure => have := HJ3.out; have := HK2.out; have := HK3.out; have := HJ39.out; omega
                     case rel => exact ⟨(y345), ((!(t341 == t343) || (!(t342 == t344)))), (wrap64 (x46_3 + 1)), (x321001_3), rS, rS, H', ⟨by have := HJ3.out; have := HK2.out; have := HK3.out; have := HJ39.out; omega⟩, ⟨by (with_reducible repeat (first | apply Kd.R_alloc | apply Kd.R_drewN | apply Kd.R_drew)); exact HO_11.out⟩, ⟨by (with_reducible repeat (first | apply Kd.R_alloc | apply Kd.R_drewN | apply Kd.R_drew)); exact HO_44.out⟩, ⟨bf0 BK320.out⟩, ⟨bw1 HB.out GE320.out⟩⟩
                  ·rw [if_neg c47] at H
                   exact absurd H (by simp)
                 ·rw [if_neg c46] at H
                  exact absurd H (by simp)
                ·replace c44 := Bool.eq_false_iff.mpr c44
                 subst c44
                 have H1 : (if x12_3 = true then (spoorref20_Differ.l1 kj39 l1 l2 x11_3 (!(t341 == t343) || (!(t342 == t344))) t337 (t337.length : Int) (wrap64 (x46_3 + 1)) a0_0 x321001_3) else (if (!(t341 == t343) || (!(t342 == t344))) = true then (if x11_3.length < 8796093022208 then (spoorref20_Differ.l1 kj39 l1 l2 (x11_3 ++ [(⟨(rd t337 x46_3), x321001_3⟩ : S23)]) (!(t341 == t343) || (!(t342 == t344))) t337 (t337.length : Int) (wrap64 (x46_3 + 1)) a0_0 x321001_3) else (none)) else (spoorref20_Differ.l1 kj39 l1 l2 x11_3 (!(t341 == t343) || (!(t342 == t344))) t337 (t337.length : Int) (wrap64 (x46_3 + 1)) a0_0 x321001_3))) = some (r1, r2) := by rw [if_neg (show ¬ (false = true) by decide)] at H; exact H
                 clear H
                 have H := H1
                 clear H1
                 by_cases c63 : x12_3 = true
                 ·subst c63
                  have H1 : (spoorref20_Differ.l1 kj39 l1 l2 x11_3 (!(t341 == t343) || (!(t342 == t344))) t337 (t337.length : Int) (wrap64 (x46_3 + 1)) a0_0 x321001_3) = some (r1, r2) := by rw [if_pos rfl] at H; exact H
                  clear H
                  have H := H1
                  clear H1
                  have H' := Ax H
                  clear H
                  go_wp2
                  go_roundg kj39
                  case measure => have := HJ3.out; have := HK2.out; have := HK3.out; have := HJ39.out; omega
                  case rel => exact ⟨(x11_3), ((!(t341 == t343) || (!(t342 == t344)))), (wrap64 (x46_3 + 1)), (x321001_3), rS, rS, H', ⟨by have := HJ3.out; have := HK2.out; have := HK3.out; have := HJ39.out; omega⟩, ⟨by (with_reducible repeat (first | apply Kd.R_alloc | apply Kd.R_drewN | apply Kd.R_drew)); exact HO_11.out⟩, ⟨by (with_reducible repeat (first | apply Kd.R_alloc | apply Kd.R_drewN | apply Kd.R_drew)); exact HO_44.out⟩, ⟨bf0 BK320.out⟩, ⟨bw1 HB.out GE320.out⟩⟩
                 ·replace c63 := Bool.eq_false_iff.mpr c63
                  subst c63
                  have H1 : (if (!(t341 == t343) || (!(t342 == t344))) = true then (if x11_3.length < 8796093022208 then (spoorref20_Differ.l1 kj39 l1 l2 (x11_3 ++ [(⟨(rd t337 x46_3), x321001_3⟩ : S23)]) (!(t341 == t343) || (!(t342 == t344))) t337 (t337.length : Int) (wrap64 (x46_3 + 1)) a0_0 x321001_3) else (none)) else (spoorref20_Differ.l1 kj39 l1 l2 x11_3 (!(t341 == t343) || (!(t342 == t344))) t337 (t337.length : Int) (wrap64 (x46_3 + 1)) a0_0 x321001_3)) = some (r1, r2) := by rw [if_neg (show ¬ (false = true) by decide)] at H; exact H
                  clear H
                  have H := H1
                  clear H1
                  by_cases c64 : (!(t341 == t343) || (!(t342 == t344))) = true
                  ·rw [if_pos c64] at H
                   have c64b0 : (!(t341 == t343) || (!(t342 == t344))) = true := c64
                   clear c64
                   by_cases c65 : x11_3.length < 8796093022208
                   ·rw [if_pos c65] at H
                    have LMc65 := Ax c65
                    clear c65
                    obtain ⟨y349, hy349⟩ : ∃ y_ : List (S23), y_ = (x11_3 ++ [(⟨(rd t337 x46_3), x321001_3⟩ : S23)]) := ⟨_, rfl⟩
                    replace H : (spoorref20_Differ.l1 kj39 l1 l2 y349 (!(t341 == t343) || (!(t342 == t344))) t337 (t337.length : Int) (wrap64 (x46_3 + 1)) a0_0 x321001_3) = some (r1, r2) := by first | (rw [hy349]; with_reducible exact H) | (have H2_ := (Option.bind_some _ _).symm.trans H; rw [hy349]; with_reducible exact H2_) | (have H2_ := (Option.bind_some _ _).symm.trans H; with_reducible exact H2_) | with_reducible exact H | (rw [hy349]; exact H) | exact H
                    have Ny349 := Ax hy349
                    clear hy349
                    have H' := Ax H
                    clear H
                    obtain ⟨hcz66_0, hcz66_1, hfz66_0, hfz66_1⟩ := cl2 BK320
                    go_wp2_with (first | ((with_reducible refine gate_builtin (b := .append) (xs := #[.tmp 75, .tmp 80]) rfl ?_); at_builtin; refine Kd.R_append k23 (w0 := w) w.heap.size rfl (.tmp 75) (.tmp 80) 38 23 (.agg #[(.int .i64 0), (.int .i64 0)]) 16 rfl Try.underlying38 info23 rfl (by decide) (by omega) u11 x11_3 (⟨(rd t337 x46_3), x321001_3⟩ : S23) [.int .i64 (rd t337 x46_3), .int .i64 x321001_3] (fun k_ => k_ ≠ gb320) (fun _ => False) rfl rfl ?aP (fun _ hk => hk.elim) ?aF ?aO ?aB ?aS ?aL ?_; (case aP => exact k23_mkM _ _ _ (⟨(rd t337 x46_3), x321001_3⟩ : S23)); (case aB => exact (bw1 HB.out GE320.out)); (case aF => exact (fun k_ hk => Kd.freshB (g := gb320) (o := .cells #[.int .i64 a0_0, .int .i64 x321001_3] 23 (0, 0)) (bf0 BK320.out) k_ hk)); (case aO => exact (by (with_reducible repeat (first | apply Kd.R_alloc | apply Kd.R_drewN | apply Kd.R_drew)); exact HO_11.out)); (case aS => exact (below_size (bw1 HB.out GE320.out))); (case aL => have := LMc65.out; omega); intro v350 w67 ho hb hg hat; rw [← Ny349.out] at ho; have n0_ := Ax (Kd.R_over' (by (with_reducible repeat (first | apply Kd.R_alloc | apply Kd.R_drewN | apply Kd.R_drew)); exact HO_44.out) (Kd.R_typed (by (with_reducible repeat (first | apply Kd.R_alloc | apply Kd.R_drewN | apply Kd.R_drew)); exact HO_11.out)) (by decide) hg); have n1_ := Ax (blk_grown (g := gb320) (o := .cells #[.int .i64 a0_0, .int .i64 x321001_3] 23 (0, 0)) (bf0 BK320.out) hg (Kd.R_away HO_11.out (fun _ hk => hk))); have n2_ := Ax (hb); have n3_ := Ax (ho); clear HO_44; clear BK320; clear HB; clear HO_11; have HO_44 := n0_; have BK320 := n1_; have HB := n2_; have HO351 := n3_; clear n0_ n1_ n2_ n3_; clear ho hb hg hat))
                    go_roundg kj39
                    case measure => have := HJ3.out; have := HK2.out; have := HK3.out; have := HJ39.out; omega
                    case rel => exact ⟨(y349), ((!(t341 == t343) || (!(t342 == t344)))), (wrap64 (x46_3 + 1)), (x321001_3), rS, rS, H', ⟨by have := HJ3.out; have := HK2.out; have := HK3.out; have := HJ39.out; omega⟩, ⟨by (with_reducible repeat (first | apply Kd.R_alloc | apply Kd.R_drewN | apply Kd.R_drew)); exact HO351.out⟩, ⟨by (with_reducible repeat (first | apply Kd.R_alloc | apply Kd.R_drewN | apply Kd.R_drew)); exact HO_44.out⟩, ⟨bf0 BK320.out⟩, ⟨bw1 HB.out GE320.out⟩⟩
                   ·rw [if_neg c65] at H
                    exact absurd H (by simp)
                  ·rw [if_neg c64] at H
                   have c64b0 : (!(t341 == t343) || (!(t342 == t344))) = false := by simpa using c64
                   clear c64
                   have H' := Ax H
                   clear H
                   go_wp2
                   go_roundg kj39
                   case measure => have := HJ3.out; have := HK2.out; have := HK3.out; have := HJ39.out; omega
                   case rel => exact ⟨(x11_3), ((!(t341 == t343) || (!(t342 == t344)))), (wrap64 (x46_3 + 1)), (x321001_3), rS, rS, H', ⟨by have := HJ3.out; have := HK2.out; have := HK3.out; have := HJ39.out; omega⟩, ⟨by (with_reducible repeat (first | apply Kd.R_alloc | apply Kd.R_drewN | apply Kd.R_drew)); exact HO_11.out⟩, ⟨by (with_reducible repeat (first | apply Kd.R_alloc | apply Kd.R_drewN | apply Kd.R_drew)); exact HO_44.out⟩, ⟨bf0 BK320.out⟩, ⟨bw1 HB.out GE320.out⟩⟩
             ·rw [if_neg c37] at H
              exact absurd H (by simp)
            ·rw [if_neg c36] at H
             exact absurd H (by simp)
           ·rw [if_neg c35] at H
            have c35b0 : decide (x46_3 < (t337.length : Int)) = false := decide_eq_false c35
            clear c35
            by_cases c68 : (x11_3.length : Int) > 1024
            ·rw [if_pos c68] at H
             have c68b0 : decide (1024 < (x11_3.length : Int)) = true := decide_eq_true c68
             have c68b1 : decide (1024 < x11_3.length) = true := decide_eq_true (by omega)
             clear c68
             simp only [Option.some.injEq, Prod.mk.injEq] at H
             obtain ⟨rfl, rfl⟩ := H
             obtain ⟨Ao69, co69, eo69⟩ := Kd.R_slice HO_11.out
             subst eo69
             go_wp2
             go_ret2
             exact ⟨_, eS, by first | exact Kd.R_nil _ _ _ _ _ | exact Kd.N_nil _ _ _ _ _ | exact Kd.V_nil _ _ _ _ _ | exact Kd.Q_nil _ _ _ _ _ | exact Kd.S_nil _ _ _ _ _, bw1 HB.out GE320.out⟩
            ·rw [if_neg c68] at H
             have c68b0 : decide (1024 < (x11_3.length : Int)) = false := decide_eq_false c68
             have c68b1 : decide (1024 < x11_3.length) = false := decide_eq_false (by omega)
             clear c68
             simp only [Option.some.injEq, Prod.mk.injEq] at H
             obtain ⟨rfl, rfl⟩ := H
             obtain ⟨Ao70, co70, eo70⟩ := Kd.R_slice HO_11.out
             subst eo70
             go_wp2
             go_ret2
             exact ⟨_, eS, by (with_reducible repeat (first | apply Kd.R_alloc | apply Kd.R_drewN | apply Kd.R_drew)); exact Kd.R_mono HO_11.out (fun _ hk => trivial), bw1 HB.out GE320.out⟩
     ·rw [if_neg c17] at H
      exact absurd H (by simp)
    ·rw [if_neg c16] at H
     exact absurd H (by simp)
def spoorlaw20_LineAsks.j0 : Nat → List (S52) → List (S52) → Int → Bool → Int → Int → Int → Int → Int → Int → Option (Bool)
 | 0, _, _, _, _, _, _, _, _, _, _ => none
 | k + 1, x1, x2, x3, x36, x353000, x353001, x354000, x354001, x355000, x355001 => if x36 = true then ((spoorlaw20_lives.f k).bind fun t355 => (some t355)) else ((line_At.f k x353000 x353001 x1 x3).bind fun bt356 => ((spoorref20_At.f k x353000 x353001 x1 x3).bind fun bt360 => ((line_When.f k x353000 x353001 x1 x354000 x354001).bind fun bt364 => ((spoorref20_When.f k x353000 x353001 x1 x354000 x354001).bind fun bt368 => ((line_Cut.f k x353000 x353001 x1 x355000 x355001).bind fun bt372 => ((spoorref20_Cut.f k x353000 x353001 x1 x355000 x355001).bind fun bt376 => ((line_Differ.f k x353000 x353001 x1 x2).bind fun bt380 => ((spoorref20_Differ.f k x353000 x353001 x1 x2).bind fun bt384 => ((spoorlaw20_lives.f k).bind fun t388 => (if t388 = true then (if (bt356.1 == bt360.1 && (bt356.2.1 == bt360.2.1)) = true then (if bt356.2.2 = bt360.2.2 then ((spoorref19_Same.f k bt364.1 bt368.1).bind fun t389 => (if t389 = true then (if bt364.2 = bt368.2 then ((spoorref20_Same.f k bt372.1 bt376.1).bind fun t390 => (if t390 = true then (if bt372.2 = bt376.2 then ((spoorref19_Same.f k bt380.1 bt384.1).bind fun t391 => (if t391 = true then (some (bt380.2 == bt384.2)) else (none))) else (none)) else (none))) else (none)) else (none))) else (none)) else (none)) else (none)))))))))))
def spoorlaw20_LineAsks.f (k : Nat) (a0_0 : Int) (a0_1 : Int) (l1 : List (S52)) (l2 : List (S52)) (a3 : Int) (a4_0 : Int) (a4_1 : Int) (a5_0 : Int) (a5_1 : Int) : Option (Bool) := if (l1.length : Int) > 200 then (spoorlaw20_LineAsks.j0 k l1 l2 a3 true a0_0 a0_1 a4_0 a4_1 a5_0 a5_1) else (spoorlaw20_LineAsks.j0 k l1 l2 a3 (decide ((l2.length : Int) > 200)) a0_0 a0_1 a4_0 a4_1 a5_0 a5_1)
set_option maxHeartbeats 8000000 in
set_option maxRecDepth 100000 in
theorem spoorlaw20_LineAsks.calls (k : Nat) (a0_0 : Int) (a0_1 : Int) (A1 : Option Addr) (c1 : Nat) (l1 : List (S52)) (A2 : Option Addr) (c2 : Nat) (l2 : List (S52)) (a3 : Int) (a4_0 : Int) (a4_1 : Int) (a5_0 : Int) (a5_1 : Int) (r : Bool) (w : World) (hr1 : Kd.C k52 w A1 l1.length l1) (hc1 : l1.length ≤ c1) (hr2 : Kd.C k52 w A2 l2.length l2) (hc2 : l2.length ≤ c2) (h : spoorlaw20_LineAsks.f k a0_0 a0_1 l1 l2 a3 a4_0 a4_1 a5_0 a5_1 = some r) :
  Calls Try.prog 4 #[.agg #[.int .i64 a0_0, .int .i64 a0_1], .slice A1 l1.length c1, .slice A2 l2.length c2, .int .i64 a3, .agg #[.int .u8 a4_0, .int .i64 a4_1], .agg #[.int .i64 a5_0, .int .i64 a5_1]] w fun e w' => e = .returned (.bool r) ∧ Below w.heap.size w w' := by
 have hu23 := Try.underlying23
 have hu35 := Try.underlying35
 have HR1 := Ax hr1
 have HC1 := Ax hc1
 clear hr1 hc1
 have HR2 := Ax hr2
 have HC2 := Ax hc2
 clear hr2 hc2
 have HB := Ax (Below.refl w.heap.size w)
 have H : (if (l1.length : Int) > 200 then (spoorlaw20_LineAsks.j0 k l1 l2 a3 true a0_0 a0_1 a4_0 a4_1 a5_0 a5_1) else (spoorlaw20_LineAsks.j0 k l1 l2 a3 (decide ((l2.length : Int) > 200)) a0_0 a0_1 a4_0 a4_1 a5_0 a5_1)) = some r := h
 clear h
 have HC7 := Ax H
 clear H
 go_enter Try.func4, Try.ntmps4
 go_upto_region 1 with (first | ((with_reducible refine gate_dst (N := 6) rfl ?_); refine box_event ?hg (N := 6) ?hd (cs := #[.int .i64 a0_0, .int .i64 a0_1]) (t := 23) ?hr ?_; (case hd => rfl); (case hg => rfl); (case hr => first | (go_simp; done) | (go_simp; rfl)); intro gb352 hg w8 hbox hb; have n0_ := Bs0 HB hb; have n1_ := Ax (hbox); have n2_ := Gw0 HB hg; have n3_ := Gw0 HB hg; clear HB; have HB := n0_; have BK352 := n1_; have GW352 := n2_; have GE352 := n3_; clear n0_ n1_ n2_ n3_; clear hb hbox hg) | ((with_reducible refine gate_dst (N := 10) rfl ?_); refine box_event ?hg (N := 10) ?hd (cs := #[.int .u8 a4_0, .int .i64 a4_1]) (t := 35) ?hr ?_; (case hd => rfl); (case hg => rfl); (case hr => first | (go_simp; done) | (go_simp; rfl)); intro gb353 hg w9 hbox hb; have n0_ := Bx0 BK352 hb; have n1_ := Bs1 HB hb GE352.out; have n2_ := Ax (hbox); have n3_ := Gw1 HB hg GE352.out; have n4_ := Gw1 HB hg GE352.out; have n5_ := Nl0 BK352 hg; have n6_ := Nr0 BK352 hg; clear BK352; clear HB; have BK352 := n0_; have HB := n1_; have BK353 := n2_; have GW353 := n3_; have GE353 := n4_; have NB352_353 := n5_; have NB353_352 := n6_; clear n0_ n1_ n2_ n3_ n4_ n5_ n6_; clear hb hbox hg) | ((with_reducible refine gate_dst (N := 11) rfl ?_); refine box_event ?hg (N := 11) ?hd (cs := #[.int .i64 a5_0, .int .i64 a5_1]) (t := 23) ?hr ?_; (case hd => rfl); (case hg => rfl); (case hr => first | (go_simp; done) | (go_simp; rfl)); intro gb354 hg w10 hbox hb; have n0_ := Bx0 BK352 hb; have n1_ := Bx0 BK353 hb; have n2_ := Bs2 HB hb GE352.out GE353.out; have n3_ := Ax (hbox); have n4_ := Gw2 HB hg GE352.out GE353.out; have n5_ := Gw2 HB hg GE352.out GE353.out; have n6_ := Nl0 BK352 hg; have n7_ := Nr0 BK352 hg; have n8_ := Nl0 BK353 hg; have n9_ := Nr0 BK353 hg; clear BK352; clear BK353; clear HB; have BK352 := n0_; have BK353 := n1_; have HB := n2_; have BK354 := n3_; have GW354 := n4_; have GE354 := n5_; have NB352_354 := n6_; have NB354_352 := n7_; have NB353_354 := n8_; have NB354_353 := n9_; clear n0_ n1_ n2_ n3_ n4_ n5_ n6_ n7_ n8_ n9_; clear hb hbox hg))
 (try simp only [Act.put, List.setIfInBounds_toArray, List.set_cons_zero, List.set_cons_succ])
 go_cut [36] (fun v36 wc => ∃ (kq : Nat) (x36_6 : Bool), v36 = .bool x36_6 ∧ Aside0 (spoorlaw20_LineAsks.j0 kq l1 l2 a3 x36_6 a0_0 a0_1 a4_0 a4_1 a5_0 a5_1 = some r) ∧ Aside0 (kq ≤ k) ∧ Aside0 (wc.heap[gb352]? = some (.cells #[.int .i64 a0_0, .int .i64 a0_1] 23 (0, 0))) ∧ Aside0 (wc.heap[gb353]? = some (.cells #[.int .u8 a4_0, .int .i64 a4_1] 35 (0, 0))) ∧ Aside0 (wc.heap[gb354]? = some (.cells #[.int .i64 a5_0, .int .i64 a5_1] 23 (0, 0))) ∧ Aside0 (Below w.heap.size w wc))
 case first =>
  have H := HC7.out
  clear HC7
  by_cases c11 : (l1.length : Int) > 200
  ·rw [if_pos c11] at H
   have c11b0 : decide (200 < (l1.length : Int)) = true := decide_eq_true c11
   have c11b1 : decide (200 < l1.length) = true := decide_eq_true (by omega)
   clear c11
   (first | rw [c11b0] | (simp only [i64_w, i32_w]; rw [c11b0]) | skip)
   have H' := Ax H
   clear H
   go_wp2
   go_meet
   case rel => exact ⟨_, (true), rS, H', ⟨by first | omega | exact Nat.le_refl _⟩, ⟨bf0 BK352.out⟩, ⟨bf0 BK353.out⟩, ⟨bf0 BK354.out⟩, ⟨bw3 HB.out GE352.out GE353.out GE354.out⟩⟩
  ·rw [if_neg c11] at H
   have c11b0 : decide (200 < (l1.length : Int)) = false := decide_eq_false c11
   have c11b1 : decide (200 < l1.length) = false := decide_eq_false (by omega)
   clear c11
   (first | rw [c11b0] | (simp only [i64_w, i32_w]; rw [c11b0]) | skip)
   have H' := Ax H
   clear H
   go_wp2
   go_meet
   case rel => exact ⟨_, (decide ((l2.length : Int) > 200)), rS, H', ⟨by first | omega | exact Nat.le_refl _⟩, ⟨bf0 BK352.out⟩, ⟨bf0 BK353.out⟩, ⟨bf0 BK354.out⟩, ⟨bw3 HB.out GE352.out GE353.out GE354.out⟩⟩
 case rest =>
  clear HC7
  try clear c1
  try clear c2
  try clear p2
  try clear c4
  try clear c11
  try clear c11b0
  try clear c11b1
  obtain ⟨kq, x36_6, rfl, HA, HJ6, BK352, BK353, BK354, HB⟩ := hcut
  cases kq with
  | zero => exact absurd HA.out (by simp [spoorlaw20_LineAsks.j0])
  | succ kj6 =>
   have H := HA.out
   clear HA
   simp only [spoorlaw20_LineAsks.j0] at H
   by_cases c12 : x36_6 = true
   ·subst c12
    have H1 : ((spoorlaw20_lives.f kj6).bind fun t355 => (some t355)) = some r := by rw [if_pos rfl] at H; exact H
    clear H
    have H := H1
    clear H1
    replace H := Option.bind_eq_some_iff.mp H
    obtain ⟨t355, A130, H⟩ := H
    replace H : (some t355) = some r := H
    have A13 := Ax A130
    clear A130
    obtain rfl := Option.some.inj H
    go_wp2_with (first | ((with_reducible refine gate_callee (f := 10) rfl ?_); refine goesL_ (some 37) rfl rfl Try.func10 (by kernel_rfl) rfl #[] rfl gS ?_; (with_reducible refine (spoorlaw20_lives.calls kj6  t355 _ A13.out).mono ?_); rintro e w14 ⟨rfl, hb⟩; refine ⟨_, rfl, ?_⟩; replace BK352 := Bx0 BK352 hb; replace BK353 := Bx0 BK353 hb; replace BK354 := Bx0 BK354 hb; replace HB := Bs3 HB hb GE352.out GE353.out GE354.out; (try clear hb)))
    go_ret
    exact ⟨eS, bw3 HB.out GE352.out GE353.out GE354.out⟩
   ·replace c12 := Bool.eq_false_iff.mpr c12
    subst c12
    have H1 : ((line_At.f kj6 a0_0 a0_1 l1 a3).bind fun bt356 => ((spoorref20_At.f kj6 a0_0 a0_1 l1 a3).bind fun bt360 => ((line_When.f kj6 a0_0 a0_1 l1 a4_0 a4_1).bind fun bt364 => ((spoorref20_When.f kj6 a0_0 a0_1 l1 a4_0 a4_1).bind fun bt368 => ((line_Cut.f kj6 a0_0 a0_1 l1 a5_0 a5_1).bind fun bt372 => ((spoorref20_Cut.f kj6 a0_0 a0_1 l1 a5_0 a5_1).bind fun bt376 => ((line_Differ.f kj6 a0_0 a0_1 l1 l2).bind fun bt380 => ((spoorref20_Differ.f kj6 a0_0 a0_1 l1 l2).bind fun bt384 => ((spoorlaw20_lives.f kj6).bind fun t388 => (if t388 = true then (if (bt356.1 == bt360.1 && (bt356.2.1 == bt360.2.1)) = true then (if bt356.2.2 = bt360.2.2 then ((spoorref19_Same.f kj6 bt364.1 bt368.1).bind fun t389 => (if t389 = true then (if bt364.2 = bt368.2 then ((spoorref20_Same.f kj6 bt372.1 bt376.1).bind fun t390 => (if t390 = true then (if bt372.2 = bt376.2 then ((spoorref19_Same.f kj6 bt380.1 bt384.1).bind fun t391 => (if t391 = true then (some (bt380.2 == bt384.2)) else (none))) else (none)) else (none))) else (none)) else (none))) else (none)) else (none)) else (none))))))))))) = some r := by rw [if_neg (show ¬ (false = true) by decide)] at H; exact H
    clear H
    have H := H1
    clear H1
    replace H := Option.bind_eq_some_iff.mp H
    obtain ⟨⟨t356, t357, t358⟩, A150, H⟩ := H
    replace H : ((spoorref20_At.f kj6 a0_0 a0_1 l1 a3).bind fun bt360 => ((line_When.f kj6 a0_0 a0_1 l1 a4_0 a4_1).bind fun bt364 => ((spoorref20_When.f kj6 a0_0 a0_1 l1 a4_0 a4_1).bind fun bt368 => ((line_Cut.f kj6 a0_0 a0_1 l1 a5_0 a5_1).bind fun bt372 => ((spoorref20_Cut.f kj6 a0_0 a0_1 l1 a5_0 a5_1).bind fun bt376 => ((line_Differ.f kj6 a0_0 a0_1 l1 l2).bind fun bt380 => ((spoorref20_Differ.f kj6 a0_0 a0_1 l1 l2).bind fun bt384 => ((spoorlaw20_lives.f kj6).bind fun t388 => (if t388 = true then (if (t356 == bt360.1 && (t357 == bt360.2.1)) = true then (if t358 = bt360.2.2 then ((spoorref19_Same.f kj6 bt364.1 bt368.1).bind fun t389 => (if t389 = true then (if bt364.2 = bt368.2 then ((spoorref20_Same.f kj6 bt372.1 bt376.1).bind fun t390 => (if t390 = true then (if bt372.2 = bt376.2 then ((spoorref19_Same.f kj6 bt380.1 bt384.1).bind fun t391 => (if t391 = true then (some (bt380.2 == bt384.2)) else (none))) else (none)) else (none))) else (none)) else (none))) else (none)) else (none)) else (none)))))))))) = some r := H
    have A15 := Ax A150
    clear A150
    replace H := Option.bind_eq_some_iff.mp H
    obtain ⟨⟨t360, t361, t362⟩, A160, H⟩ := H
    replace H : ((line_When.f kj6 a0_0 a0_1 l1 a4_0 a4_1).bind fun bt364 => ((spoorref20_When.f kj6 a0_0 a0_1 l1 a4_0 a4_1).bind fun bt368 => ((line_Cut.f kj6 a0_0 a0_1 l1 a5_0 a5_1).bind fun bt372 => ((spoorref20_Cut.f kj6 a0_0 a0_1 l1 a5_0 a5_1).bind fun bt376 => ((line_Differ.f kj6 a0_0 a0_1 l1 l2).bind fun bt380 => ((spoorref20_Differ.f kj6 a0_0 a0_1 l1 l2).bind fun bt384 => ((spoorlaw20_lives.f kj6).bind fun t388 => (if t388 = true then (if (t356 == t360 && (t357 == t361)) = true then (if t358 = t362 then ((spoorref19_Same.f kj6 bt364.1 bt368.1).bind fun t389 => (if t389 = true then (if bt364.2 = bt368.2 then ((spoorref20_Same.f kj6 bt372.1 bt376.1).bind fun t390 => (if t390 = true then (if bt372.2 = bt376.2 then ((spoorref19_Same.f kj6 bt380.1 bt384.1).bind fun t391 => (if t391 = true then (some (bt380.2 == bt384.2)) else (none))) else (none)) else (none))) else (none)) else (none))) else (none)) else (none)) else (none))))))))) = some r := H
    have A16 := Ax A160
    clear A160
    replace H := Option.bind_eq_some_iff.mp H
    obtain ⟨⟨t364, t367⟩, A170, H⟩ := H
    replace H : ((spoorref20_When.f kj6 a0_0 a0_1 l1 a4_0 a4_1).bind fun bt368 => ((line_Cut.f kj6 a0_0 a0_1 l1 a5_0 a5_1).bind fun bt372 => ((spoorref20_Cut.f kj6 a0_0 a0_1 l1 a5_0 a5_1).bind fun bt376 => ((line_Differ.f kj6 a0_0 a0_1 l1 l2).bind fun bt380 => ((spoorref20_Differ.f kj6 a0_0 a0_1 l1 l2).bind fun bt384 => ((spoorlaw20_lives.f kj6).bind fun t388 => (if t388 = true then (if (t356 == t360 && (t357 == t361)) = true then (if t358 = t362 then ((spoorref19_Same.f kj6 t364 bt368.1).bind fun t389 => (if t389 = true then (if t367 = bt368.2 then ((spoorref20_Same.f kj6 bt372.1 bt376.1).bind fun t390 => (if t390 = true then (if bt372.2 = bt376.2 then ((spoorref19_Same.f kj6 bt380.1 bt384.1).bind fun t391 => (if t391 = true then (some (bt380.2 == bt384.2)) else (none))) else (none)) else (none))) else (none)) else (none))) else (none)) else (none)) else (none)))))))) = some r := H
    have A17 := Ax A170
    clear A170
    replace H := Option.bind_eq_some_iff.mp H
    obtain ⟨⟨t368, t371⟩, A180, H⟩ := H
    replace H : ((line_Cut.f kj6 a0_0 a0_1 l1 a5_0 a5_1).bind fun bt372 => ((spoorref20_Cut.f kj6 a0_0 a0_1 l1 a5_0 a5_1).bind fun bt376 => ((line_Differ.f kj6 a0_0 a0_1 l1 l2).bind fun bt380 => ((spoorref20_Differ.f kj6 a0_0 a0_1 l1 l2).bind fun bt384 => ((spoorlaw20_lives.f kj6).bind fun t388 => (if t388 = true then (if (t356 == t360 && (t357 == t361)) = true then (if t358 = t362 then ((spoorref19_Same.f kj6 t364 t368).bind fun t389 => (if t389 = true then (if t367 = t371 then ((spoorref20_Same.f kj6 bt372.1 bt376.1).bind fun t390 => (if t390 = true then (if bt372.2 = bt376.2 then ((spoorref19_Same.f kj6 bt380.1 bt384.1).bind fun t391 => (if t391 = true then (some (bt380.2 == bt384.2)) else (none))) else (none)) else (none))) else (none)) else (none))) else (none)) else (none)) else (none))))))) = some r := H
    have A18 := Ax A180
    clear A180
    replace H := Option.bind_eq_some_iff.mp H
    obtain ⟨⟨t372, t375⟩, A190, H⟩ := H
    replace H : ((spoorref20_Cut.f kj6 a0_0 a0_1 l1 a5_0 a5_1).bind fun bt376 => ((line_Differ.f kj6 a0_0 a0_1 l1 l2).bind fun bt380 => ((spoorref20_Differ.f kj6 a0_0 a0_1 l1 l2).bind fun bt384 => ((spoorlaw20_lives.f kj6).bind fun t388 => (if t388 = true then (if (t356 == t360 && (t357 == t361)) = true then (if t358 = t362 then ((spoorref19_Same.f kj6 t364 t368).bind fun t389 => (if t389 = true then (if t367 = t371 then ((spoorref20_Same.f kj6 t372 bt376.1).bind fun t390 => (if t390 = true then (if t375 = bt376.2 then ((spoorref19_Same.f kj6 bt380.1 bt384.1).bind fun t391 => (if t391 = true then (some (bt380.2 == bt384.2)) else (none))) else (none)) else (none))) else (none)) else (none))) else (none)) else (none)) else (none)))))) = some r := H
    have A19 := Ax A190
    clear A190
    replace H := Option.bind_eq_some_iff.mp H
    obtain ⟨⟨t376, t379⟩, A200, H⟩ := H
    replace H : ((line_Differ.f kj6 a0_0 a0_1 l1 l2).bind fun bt380 => ((spoorref20_Differ.f kj6 a0_0 a0_1 l1 l2).bind fun bt384 => ((spoorlaw20_lives.f kj6).bind fun t388 => (if t388 = true then (if (t356 == t360 && (t357 == t361)) = true then (if t358 = t362 then ((spoorref19_Same.f kj6 t364 t368).bind fun t389 => (if t389 = true then (if t367 = t371 then ((spoorref20_Same.f kj6 t372 t376).bind fun t390 => (if t390 = true then (if t375 = t379 then ((spoorref19_Same.f kj6 bt380.1 bt384.1).bind fun t391 => (if t391 = true then (some (bt380.2 == bt384.2)) else (none))) else (none)) else (none))) else (none)) else (none))) else (none)) else (none)) else (none))))) = some r := H
    have A20 := Ax A200
    clear A200
    replace H := Option.bind_eq_some_iff.mp H
    obtain ⟨⟨t380, t383⟩, A210, H⟩ := H
    replace H : ((spoorref20_Differ.f kj6 a0_0 a0_1 l1 l2).bind fun bt384 => ((spoorlaw20_lives.f kj6).bind fun t388 => (if t388 = true then (if (t356 == t360 && (t357 == t361)) = true then (if t358 = t362 then ((spoorref19_Same.f kj6 t364 t368).bind fun t389 => (if t389 = true then (if t367 = t371 then ((spoorref20_Same.f kj6 t372 t376).bind fun t390 => (if t390 = true then (if t375 = t379 then ((spoorref19_Same.f kj6 t380 bt384.1).bind fun t391 => (if t391 = true then (some (t383 == bt384.2)) else (none))) else (none)) else (none))) else (none)) else (none))) else (none)) else (none)) else (none)))) = some r := H
    have A21 := Ax A210
    clear A210
    replace H := Option.bind_eq_some_iff.mp H
    obtain ⟨⟨t384, t387⟩, A220, H⟩ := H
    replace H : ((spoorlaw20_lives.f kj6).bind fun t388 => (if t388 = true then (if (t356 == t360 && (t357 == t361)) = true then (if t358 = t362 then ((spoorref19_Same.f kj6 t364 t368).bind fun t389 => (if t389 = true then (if t367 = t371 then ((spoorref20_Same.f kj6 t372 t376).bind fun t390 => (if t390 = true then (if t375 = t379 then ((spoorref19_Same.f kj6 t380 t384).bind fun t391 => (if t391 = true then (some (t383 == t387)) else (none))) else (none)) else (none))) else (none)) else (none))) else (none)) else (none)) else (none))) = some r := H
    have A22 := Ax A220
    clear A220
    replace H := Option.bind_eq_some_iff.mp H
    obtain ⟨t388, A230, H⟩ := H
    replace H : (if t388 = true then (if (t356 == t360 && (t357 == t361)) = true then (if t358 = t362 then ((spoorref19_Same.f kj6 t364 t368).bind fun t389 => (if t389 = true then (if t367 = t371 then ((spoorref20_Same.f kj6 t372 t376).bind fun t390 => (if t390 = true then (if t375 = t379 then ((spoorref19_Same.f kj6 t380 t384).bind fun t391 => (if t391 = true then (some (t383 == t387)) else (none))) else (none)) else (none))) else (none)) else (none))) else (none)) else (none)) else (none)) = some r := H
    have A23 := Ax A230
    clear A230
    by_cases c24 : t388 = true
    ·subst c24
     have H1 : (if (t356 == t360 && (t357 == t361)) = true then (if t358 = t362 then ((spoorref19_Same.f kj6 t364 t368).bind fun t389 => (if t389 = true then (if t367 = t371 then ((spoorref20_Same.f kj6 t372 t376).bind fun t390 => (if t390 = true then (if t375 = t379 then ((spoorref19_Same.f kj6 t380 t384).bind fun t391 => (if t391 = true then (some (t383 == t387)) else (none))) else (none)) else (none))) else (none)) else (none))) else (none)) else (none)) = some r := by rw [if_pos rfl] at H; exact H
     clear H
     have H := H1
     clear H1
     by_cases c25 : (t356 == t360 && (t357 == t361)) = true
     ·rw [if_pos c25] at H
      have c25b0 : (t356 == t360 && (t357 == t361)) = true := c25
      (try (have c25b1 : decide (t356 = t360 && (t357 == t361)) = true := by simpa using c25))
      (try (have c25b2 : (t356 == t360 && (t357 == t361)) = true := by simpa using c25))
      clear c25
      by_cases c26 : t358 = t362
      ·rw [if_pos c26] at H
       have c26b0 : (t358 == t362) = true := beq_iff_eq.mpr c26
       have c26b1 : (t358 != t362) = false := bne_eq_false_iff_eq.mpr c26
       clear c26
       replace H := Option.bind_eq_some_iff.mp H
       obtain ⟨t389, A270, H⟩ := H
       replace H : (if t389 = true then (if t367 = t371 then ((spoorref20_Same.f kj6 t372 t376).bind fun t390 => (if t390 = true then (if t375 = t379 then ((spoorref19_Same.f kj6 t380 t384).bind fun t391 => (if t391 = true then (some (t383 == t387)) else (none))) else (none)) else (none))) else (none)) else (none)) = some r := H
       have A27 := Ax A270
       clear A270
       by_cases c28 : t389 = true
       ·subst c28
        have H1 : (if t367 = t371 then ((spoorref20_Same.f kj6 t372 t376).bind fun t390 => (if t390 = true then (if t375 = t379 then ((spoorref19_Same.f kj6 t380 t384).bind fun t391 => (if t391 = true then (some (t383 == t387)) else (none))) else (none)) else (none))) else (none)) = some r := by rw [if_pos rfl] at H; exact H
        clear H
        have H := H1
        clear H1
        by_cases c29 : t367 = t371
        ·rw [if_pos c29] at H
         have c29b0 : (t367 == t371) = true := beq_iff_eq.mpr c29
         have c29b1 : (t367 != t371) = false := bne_eq_false_iff_eq.mpr c29
         clear c29
         replace H := Option.bind_eq_some_iff.mp H
         obtain ⟨t390, A300, H⟩ := H
         replace H : (if t390 = true then (if t375 = t379 then ((spoorref19_Same.f kj6 t380 t384).bind fun t391 => (if t391 = true then (some (t383 == t387)) else (none))) else (none)) else (none)) = some r := H
         have A30 := Ax A300
         clear A300
         by_cases c31 : t390 = true
         ·subst c31
          have H1 : (if t375 = t379 then ((spoorref19_Same.f kj6 t380 t384).bind fun t391 => (if t391 = true then (some (t383 == t387)) else (none))) else (none)) = some r := by rw [if_pos rfl] at H; exact H
          clear H
          have H := H1
          clear H1
          by_cases c32 : t375 = t379
          ·rw [if_pos c32] at H
           have c32b0 : (t375 == t379) = true := beq_iff_eq.mpr c32
           have c32b1 : (t375 != t379) = false := bne_eq_false_iff_eq.mpr c32
           clear c32
           replace H := Option.bind_eq_some_iff.mp H
           obtain ⟨t391, A330, H⟩ := H
           replace H : (if t391 = true then (some (t383 == t387)) else (none)) = some r := H
           have A33 := Ax A330
           clear A330
           by_cases c34 : t391 = true
           ·subst c34
            have H1 : (some (t383 == t387)) = some r := by rw [if_pos rfl] at H; exact H
            clear H
            have H := H1
            clear H1
            obtain rfl := Option.some.inj H
            have hnb35 := NB352_353.out
            have hnc35 := NB353_352.out
            have hnb36 := NB352_354.out
            have hnc36 := NB354_352.out
            obtain ⟨hcz37_0, hcz37_1, hfz37_0, hfz37_1⟩ := cl2 BK352
            go_wp2_with (first | ((with_reducible refine gate_callee (f := 14) rfl ?_); refine goesL_ (some 42) rfl rfl Try.func14 (by kernel_rfl) rfl #[.agg #[.int .i64 a0_0, .int .i64 a0_1], .slice A1 l1.length c1, .int .i64 a3] rfl gS ?_; (with_reducible refine (line_At.calls kj6 a0_0 a0_1 _ _ l1 a3 t356 t357 t358 _ ?side1 ?side2 A15.out).mono ?_); (case side1 => repeat (first | exact (Kd.C_below HR1.out HB.out) | (with_reducible refine Kd.C_alloc ?_ _) | (with_reducible refine Kd.C_drewN ?_ _) | (with_reducible refine Kd.C_drew ?_))); (case side2 => exact HC1.out); rintro e w38 ⟨rfl, hb⟩; refine ⟨_, rfl, ?_⟩; replace BK352 := Bx0 BK352 hb; replace BK353 := Bx0 BK353 hb; replace BK354 := Bx0 BK354 hb; replace HB := Bs3 HB hb GE352.out GE353.out GE354.out; (try clear hb)) | ((with_reducible refine gate_dst (N := 13) rfl ?_); refine box_event ?hg (N := 13) ?hd (cs := #[.int .u8 0, .int .i64 0]) (t := 35) ?hr ?_; (case hd => rfl); (case hg => rfl); (case hr => first | (go_simp; done) | (go_simp; rfl)); intro gb359 hg w39 hbox hb; have n0_ := Bx0 BK352 hb; have n1_ := Bx0 BK353 hb; have n2_ := Bx0 BK354 hb; have n3_ := Bs3 HB hb GE352.out GE353.out GE354.out; have n4_ := Ax (hbox); have n5_ := Gw3 HB hg GE352.out GE353.out GE354.out; have n6_ := Gw3 HB hg GE352.out GE353.out GE354.out; have n7_ := Nl0 BK352 hg; have n8_ := Nr0 BK352 hg; have n9_ := Nl0 BK353 hg; have n10_ := Nr0 BK353 hg; have n11_ := Nl0 BK354 hg; have n12_ := Nr0 BK354 hg; clear BK352; clear BK353; clear BK354; clear HB; have BK352 := n0_; have BK353 := n1_; have BK354 := n2_; have HB := n3_; have BK359 := n4_; have GW359 := n5_; have GE359 := n6_; have NB352_359 := n7_; have NB359_352 := n8_; have NB353_359 := n9_; have NB359_353 := n10_; have NB354_359 := n11_; have NB359_354 := n12_; clear n0_ n1_ n2_ n3_ n4_ n5_ n6_ n7_ n8_ n9_ n10_ n11_ n12_; clear hb hbox hg; have hnb40 := NB359_352.out; have hnc40 := NB352_359.out; have hnb41 := NB359_353.out; have hnc41 := NB353_359.out; have hnb42 := NB359_354.out; have hnc42 := NB354_359.out; obtain ⟨hcz43_0, hcz43_1, hfz43_0, hfz43_1⟩ := cl2 BK359; obtain ⟨hcz44_0, hcz44_1, hfz44_0, hfz44_1⟩ := cl2 BK352) | ((with_reducible refine gate_callee (f := 15) rfl ?_); refine goesL_ (some 49) rfl rfl Try.func15 (by kernel_rfl) rfl #[.agg #[.int .i64 a0_0, .int .i64 a0_1], .slice A1 l1.length c1, .int .i64 a3] rfl gS ?_; (with_reducible refine (spoorref20_At.calls kj6 a0_0 a0_1 _ _ l1 a3 t360 t361 t362 _ ?side1 ?side2 A16.out).mono ?_); (case side1 => exact Kd.C_below HR1.out (bw4 HB.out GE352.out GE353.out GE354.out GE359.out)); (case side2 => exact HC1.out); rintro e w45 ⟨rfl, hb⟩; refine ⟨_, rfl, ?_⟩; have n0_ := Bx2 BK352 hb NB352_359.out NB352_359.out; have n1_ := Bx2 BK353 hb NB353_359.out NB353_359.out; have n2_ := Bx2 BK354 hb NB354_359.out NB354_359.out; have n3_ := Ax (blk_below (g := gb359) (o := .cells #[.int .u8 t356, .int .i64 t357] 35 (0, 0)) (by (with_reducible repeat (first | refine blk_drewN ?_ _ | refine blk_drew ?_ | refine blk_alloc ?_ _)); refine blk_put (cs := #[.int .u8 t356, .int .i64 0]) ?_ 1 _ rfl; (with_reducible repeat (first | refine blk_drewN ?_ _ | refine blk_drew ?_ | refine blk_alloc ?_ _)); refine blk_put (cs := #[.int .u8 0, .int .i64 0]) ?_ 0 _ rfl; (with_reducible repeat (first | refine blk_drewN ?_ _ | refine blk_drew ?_ | refine blk_alloc ?_ _)); exact BK359.out) hb); have n4_ := Bs4 HB hb GE352.out GE353.out GE354.out GE359.out; clear BK352; clear BK353; clear BK354; clear BK359; clear HB; have BK352 := n0_; have BK353 := n1_; have BK354 := n2_; have BK359 := n3_; have HB := n4_; clear n0_ n1_ n2_ n3_ n4_; (try clear hb)) | ((with_reducible refine gate_dst (N := 15) rfl ?_); refine box_event ?hg (N := 15) ?hd (cs := #[.int .u8 0, .int .i64 0]) (t := 35) ?hr ?_; (case hd => rfl); (case hg => rfl); (case hr => first | (go_simp; done) | (go_simp; rfl)); intro gb363 hg w46 hbox hb; have n0_ := Bx0 BK352 hb; have n1_ := Bx0 BK353 hb; have n2_ := Bx0 BK354 hb; have n3_ := Bx0 BK359 hb; have n4_ := Bs4 HB hb GE352.out GE353.out GE354.out GE359.out; have n5_ := Ax (hbox); have n6_ := Gw4 HB hg GE352.out GE353.out GE354.out GE359.out; have n7_ := Gw4 HB hg GE352.out GE353.out GE354.out GE359.out; have n8_ := Nl0 BK352 hg; have n9_ := Nr0 BK352 hg; have n10_ := Nl0 BK353 hg; have n11_ := Nr0 BK353 hg; have n12_ := Nl0 BK354 hg; have n13_ := Nr0 BK354 hg; have n14_ := Nl0 BK359 hg; have n15_ := Nr0 BK359 hg; clear BK352; clear BK353; clear BK354; clear BK359; clear HB; have BK352 := n0_; have BK353 := n1_; have BK354 := n2_; have BK359 := n3_; have HB := n4_; have BK363 := n5_; have GW363 := n6_; have GE363 := n7_; have NB352_363 := n8_; have NB363_352 := n9_; have NB353_363 := n10_; have NB363_353 := n11_; have NB354_363 := n12_; have NB363_354 := n13_; have NB359_363 := n14_; have NB363_359 := n15_; clear n0_ n1_ n2_ n3_ n4_ n5_ n6_ n7_ n8_ n9_ n10_ n11_ n12_ n13_ n14_ n15_; clear hb hbox hg; have hnb47 := NB363_352.out; have hnc47 := NB352_363.out; have hnb48 := NB363_353.out; have hnc48 := NB353_363.out; have hnb49 := NB363_354.out; have hnc49 := NB354_363.out; have hnb50 := NB363_359.out; have hnc50 := NB359_363.out; obtain ⟨hcz51_0, hcz51_1, hfz51_0, hfz51_1⟩ := cl2 BK363; obtain ⟨hcz52_0, hcz52_1, hfz52_0, hfz52_1⟩ := cl2 BK352; have hnb53 := NB353_354.out; have hnc53 := NB354_353.out; obtain ⟨hcz54_0, hcz54_1, hfz54_0, hfz54_1⟩ := cl2 BK353) | ((with_reducible refine gate_callee (f := 16) rfl ?_); refine goesL_ (some 56) rfl rfl Try.func16 (by kernel_rfl) rfl #[.agg #[.int .i64 a0_0, .int .i64 a0_1], .slice A1 l1.length c1, .agg #[.int .u8 a4_0, .int .i64 a4_1]] rfl gS ?_; (with_reducible refine (line_When.calls kj6 a0_0 a0_1 _ _ l1 a4_0 a4_1 t364 t367 _ ?side1 ?side2 A17.out).mono ?_); (case side1 => exact Kd.C_below HR1.out (bw5 HB.out GE352.out GE353.out GE354.out GE359.out GE363.out)); (case side2 => exact HC1.out); rintro e w55 ⟨v365, rfl, ho0, hb⟩; refine ⟨_, rfl, ?_⟩; have n0_ := Ax (Kd.R_lower (Kd.R_newB (Kd.R_newB ho0 (g := gb352) (o := .cells #[.int .i64 a0_0, .int .i64 a0_1] 23 (0, 0)) (bf2 BK352.out NB352_363.out NB352_363.out)) (g := gb354) (o := .cells #[.int .i64 a5_0, .int .i64 a5_1] 23 (0, 0)) (bf2 BK354.out NB354_363.out NB354_363.out)) (below_size (bw5 HB.out GE352.out GE353.out GE354.out GE359.out GE363.out))); have n1_ := Bx2 BK352 hb NB352_363.out NB352_363.out; have n2_ := Bx2 BK353 hb NB353_363.out NB353_363.out; have n3_ := Bx2 BK354 hb NB354_363.out NB354_363.out; have n4_ := Bx2 BK359 hb NB359_363.out NB359_363.out; have n5_ := Ax (blk_below (g := gb363) (o := .cells #[.int .u8 t360, .int .i64 t361] 35 (0, 0)) (by (with_reducible repeat (first | refine blk_drewN ?_ _ | refine blk_drew ?_ | refine blk_alloc ?_ _)); refine blk_put (cs := #[.int .u8 t360, .int .i64 0]) ?_ 1 _ rfl; (with_reducible repeat (first | refine blk_drewN ?_ _ | refine blk_drew ?_ | refine blk_alloc ?_ _)); refine blk_put (cs := #[.int .u8 0, .int .i64 0]) ?_ 0 _ rfl; (with_reducible repeat (first | refine blk_drewN ?_ _ | refine blk_drew ?_ | refine blk_alloc ?_ _)); exact BK363.out) hb); have n6_ := Bs5 HB hb GE352.out GE353.out GE354.out GE359.out GE363.out; clear BK352; clear BK353; clear BK354; clear BK359; clear BK363; clear HB; have HO366 := n0_; have BK352 := n1_; have BK353 := n2_; have BK354 := n3_; have BK359 := n4_; have BK363 := n5_; have HB := n6_; clear n0_ n1_ n2_ n3_ n4_ n5_ n6_; (try clear hb); (try clear ho0); obtain ⟨hcz56_0, hcz56_1, hfz56_0, hfz56_1⟩ := cl2 BK352; obtain ⟨hcz57_0, hcz57_1, hfz57_0, hfz57_1⟩ := cl2 BK353) | ((with_reducible refine gate_callee (f := 17) rfl ?_); refine goesL_ (some 63) rfl rfl Try.func17 (by kernel_rfl) rfl #[.agg #[.int .i64 a0_0, .int .i64 a0_1], .slice A1 l1.length c1, .agg #[.int .u8 a4_0, .int .i64 a4_1]] rfl gS ?_; (with_reducible refine (spoorref20_When.calls kj6 a0_0 a0_1 _ _ l1 a4_0 a4_1 t368 t371 _ ?side1 ?side2 A18.out).mono ?_); (case side1 => repeat (first | exact (Kd.C_below HR1.out HB.out) | (with_reducible refine Kd.C_alloc ?_ _) | (with_reducible refine Kd.C_drewN ?_ _) | (with_reducible refine Kd.C_drew ?_))); (case side2 => exact HC1.out); rintro e w58 ⟨v369, rfl, ho0, hb⟩; refine ⟨_, rfl, ?_⟩; have n0_ := Ax (Kd.R_elder' (by (with_reducible repeat (first | apply Kd.R_alloc | apply Kd.R_drewN | apply Kd.R_drew)); exact HO366.out) (Kd.R_base ho0) hb); have n1_ := Ax (Kd.R_lower (Kd.R_newB (Kd.R_newB (Kd.R_new' ho0 (Kd.R_lt (by (with_reducible repeat (first | apply Kd.R_alloc | apply Kd.R_drewN | apply Kd.R_drew)); exact HO366.out))) (g := gb352) (o := .cells #[.int .i64 a0_0, .int .i64 a0_1] 23 (0, 0)) (bf0 BK352.out)) (g := gb354) (o := .cells #[.int .i64 a5_0, .int .i64 a5_1] 23 (0, 0)) (bf0 BK354.out)) (below_size (bw5 HB.out GE352.out GE353.out GE354.out GE359.out GE363.out))); have n2_ := Bx0 BK352 hb; have n3_ := Bx0 BK353 hb; have n4_ := Bx0 BK354 hb; have n5_ := Bx0 BK359 hb; have n6_ := Bx0 BK363 hb; have n7_ := Bs5 HB hb GE352.out GE353.out GE354.out GE359.out GE363.out; clear HO366; clear BK352; clear BK353; clear BK354; clear BK359; clear BK363; clear HB; have HO366 := n0_; have HO370 := n1_; have BK352 := n2_; have BK353 := n3_; have BK354 := n4_; have BK359 := n5_; have BK363 := n6_; have HB := n7_; clear n0_ n1_ n2_ n3_ n4_ n5_ n6_ n7_; (try clear hb); (try clear ho0); obtain ⟨hcz59_0, hcz59_1, hfz59_0, hfz59_1⟩ := cl2 BK352; obtain ⟨hcz60_0, hcz60_1, hfz60_0, hfz60_1⟩ := cl2 BK354) | ((with_reducible refine gate_callee (f := 18) rfl ?_); refine goesL_ (some 70) rfl rfl Try.func18 (by kernel_rfl) rfl #[.agg #[.int .i64 a0_0, .int .i64 a0_1], .slice A1 l1.length c1, .agg #[.int .i64 a5_0, .int .i64 a5_1]] rfl gS ?_; (with_reducible refine (line_Cut.calls kj6 a0_0 a0_1 _ _ l1 a5_0 a5_1 t372 t375 _ ?side1 ?side2 A19.out).mono ?_); (case side1 => repeat (first | exact (Kd.C_below HR1.out HB.out) | (with_reducible refine Kd.C_alloc ?_ _) | (with_reducible refine Kd.C_drewN ?_ _) | (with_reducible refine Kd.C_drew ?_))); (case side2 => exact HC1.out); rintro e w61 ⟨v373, rfl, ho0, hb⟩; refine ⟨_, rfl, ?_⟩; have n0_ := Ax (Kd.R_below (by (with_reducible repeat (first | apply Kd.R_alloc | apply Kd.R_drewN | apply Kd.R_drew)); exact HO366.out) hb); have n1_ := Ax (Kd.R_below (by (with_reducible repeat (first | apply Kd.R_alloc | apply Kd.R_drewN | apply Kd.R_drew)); exact HO370.out) hb); have n2_ := Ax (Kd.R_lower ho0 (below_size (bw5 HB.out GE352.out GE353.out GE354.out GE359.out GE363.out))); have n3_ := Bx0 BK352 hb; have n4_ := Bx0 BK353 hb; have n5_ := Bx0 BK354 hb; have n6_ := Bx0 BK359 hb; have n7_ := Bx0 BK363 hb; have n8_ := Bs5 HB hb GE352.out GE353.out GE354.out GE359.out GE363.out; clear HO366; clear HO370; clear BK352; clear BK353; clear BK354; clear BK359; clear BK363; clear HB; have HO366 := n0_; have HO370 := n1_; have HO374 := n2_; have BK352 := n3_; have BK353 := n4_; have BK354 := n5_; have BK359 := n6_; have BK363 := n7_; have HB := n8_; clear n0_ n1_ n2_ n3_ n4_ n5_ n6_ n7_ n8_; (try clear hb); (try clear ho0); obtain ⟨hcz62_0, hcz62_1, hfz62_0, hfz62_1⟩ := cl2 BK352; obtain ⟨hcz63_0, hcz63_1, hfz63_0, hfz63_1⟩ := cl2 BK354) | ((with_reducible refine gate_callee (f := 19) rfl ?_); refine goesL_ (some 77) rfl rfl Try.func19 (by kernel_rfl) rfl #[.agg #[.int .i64 a0_0, .int .i64 a0_1], .slice A1 l1.length c1, .agg #[.int .i64 a5_0, .int .i64 a5_1]] rfl gS ?_; (with_reducible refine (spoorref20_Cut.calls kj6 a0_0 a0_1 _ _ l1 a5_0 a5_1 t376 t379 _ ?side1 ?side2 A20.out).mono ?_); (case side1 => repeat (first | exact (Kd.C_below HR1.out HB.out) | (with_reducible refine Kd.C_alloc ?_ _) | (with_reducible refine Kd.C_drewN ?_ _) | (with_reducible refine Kd.C_drew ?_))); (case side2 => exact HC1.out); rintro e w64 ⟨v377, rfl, ho0, hb⟩; refine ⟨_, rfl, ?_⟩; have n0_ := Ax (Kd.R_below (by (with_reducible repeat (first | apply Kd.R_alloc | apply Kd.R_drewN | apply Kd.R_drew)); exact HO366.out) hb); have n1_ := Ax (Kd.R_below (by (with_reducible repeat (first | apply Kd.R_alloc | apply Kd.R_drewN | apply Kd.R_drew)); exact HO370.out) hb); have n2_ := Ax (Kd.R_elder' (by (with_reducible repeat (first | apply Kd.R_alloc | apply Kd.R_drewN | apply Kd.R_drew)); exact HO374.out) (Kd.R_base ho0) hb); have n3_ := Ax (Kd.R_lower (Kd.R_new' ho0 (Kd.R_lt (by (with_reducible repeat (first | apply Kd.R_alloc | apply Kd.R_drewN | apply Kd.R_drew)); exact HO374.out))) (below_size (bw5 HB.out GE352.out GE353.out GE354.out GE359.out GE363.out))); have n4_ := Bx0 BK352 hb; have n5_ := Bx0 BK353 hb; have n6_ := Bx0 BK354 hb; have n7_ := Bx0 BK359 hb; have n8_ := Bx0 BK363 hb; have n9_ := Bs5 HB hb GE352.out GE353.out GE354.out GE359.out GE363.out; clear HO366; clear HO370; clear HO374; clear BK352; clear BK353; clear BK354; clear BK359; clear BK363; clear HB; have HO366 := n0_; have HO370 := n1_; have HO374 := n2_; have HO378 := n3_; have BK352 := n4_; have BK353 := n5_; have BK354 := n6_; have BK359 := n7_; have BK363 := n8_; have HB := n9_; clear n0_ n1_ n2_ n3_ n4_ n5_ n6_ n7_ n8_ n9_; (try clear hb); (try clear ho0); obtain ⟨hcz65_0, hcz65_1, hfz65_0, hfz65_1⟩ := cl2 BK352) | ((with_reducible refine gate_callee (f := 20) rfl ?_); refine goesL_ (some 84) rfl rfl Try.func20 (by kernel_rfl) rfl #[.agg #[.int .i64 a0_0, .int .i64 a0_1], .slice A1 l1.length c1, .slice A2 l2.length c2] rfl gS ?_; (with_reducible refine (line_Differ.calls kj6 a0_0 a0_1 _ _ l1 _ _ l2 t380 t383 _ ?side1 ?side2 ?side3 ?side4 A21.out).mono ?_); (case side1 => repeat (first | exact (Kd.C_below HR1.out HB.out) | (with_reducible refine Kd.C_alloc ?_ _) | (with_reducible refine Kd.C_drewN ?_ _) | (with_reducible refine Kd.C_drew ?_))); (case side2 => exact HC1.out); (case side3 => repeat (first | exact (Kd.C_below HR2.out HB.out) | (with_reducible refine Kd.C_alloc ?_ _) | (with_reducible refine Kd.C_drewN ?_ _) | (with_reducible refine Kd.C_drew ?_))); (case side4 => exact HC2.out); rintro e w66 ⟨v381, rfl, ho0, hb⟩; refine ⟨_, rfl, ?_⟩; have n0_ := Ax (Kd.R_elder' (by (with_reducible repeat (first | apply Kd.R_alloc | apply Kd.R_drewN | apply Kd.R_drew)); exact HO366.out) (Kd.R_base ho0) hb); have n1_ := Ax (Kd.R_elder' (by (with_reducible repeat (first | apply Kd.R_alloc | apply Kd.R_drewN | apply Kd.R_drew)); exact HO370.out) (Kd.R_base ho0) hb); have n2_ := Ax (Kd.R_below (by (with_reducible repeat (first | apply Kd.R_alloc | apply Kd.R_drewN | apply Kd.R_drew)); exact HO374.out) hb); have n3_ := Ax (Kd.R_below (by (with_reducible repeat (first | apply Kd.R_alloc | apply Kd.R_drewN | apply Kd.R_drew)); exact HO378.out) hb); have n4_ := Ax (Kd.R_lower (Kd.R_newB (Kd.R_newB (Kd.R_new' (Kd.R_new' ho0 (Kd.R_lt (by (with_reducible repeat (first | apply Kd.R_alloc | apply Kd.R_drewN | apply Kd.R_drew)); exact HO366.out))) (Kd.R_lt (by (with_reducible repeat (first | apply Kd.R_alloc | apply Kd.R_drewN | apply Kd.R_drew)); exact HO370.out))) (g := gb352) (o := .cells #[.int .i64 a0_0, .int .i64 a0_1] 23 (0, 0)) (bf0 BK352.out)) (g := gb354) (o := .cells #[.int .i64 a5_0, .int .i64 a5_1] 23 (0, 0)) (bf0 BK354.out)) (below_size (bw5 HB.out GE352.out GE353.out GE354.out GE359.out GE363.out))); have n5_ := Bx0 BK352 hb; have n6_ := Bx0 BK353 hb; have n7_ := Bx0 BK354 hb; have n8_ := Bx0 BK359 hb; have n9_ := Bx0 BK363 hb; have n10_ := Bs5 HB hb GE352.out GE353.out GE354.out GE359.out GE363.out; clear HO366; clear HO370; clear HO374; clear HO378; clear BK352; clear BK353; clear BK354; clear BK359; clear BK363; clear HB; have HO366 := n0_; have HO370 := n1_; have HO374 := n2_; have HO378 := n3_; have HO382 := n4_; have BK352 := n5_; have BK353 := n6_; have BK354 := n7_; have BK359 := n8_; have BK363 := n9_; have HB := n10_; clear n0_ n1_ n2_ n3_ n4_ n5_ n6_ n7_ n8_ n9_ n10_; (try clear hb); (try clear ho0); obtain ⟨hcz67_0, hcz67_1, hfz67_0, hfz67_1⟩ := cl2 BK352) | ((with_reducible refine gate_callee (f := 21) rfl ?_); refine goesL_ (some 91) rfl rfl Try.func21 (by kernel_rfl) rfl #[.agg #[.int .i64 a0_0, .int .i64 a0_1], .slice A1 l1.length c1, .slice A2 l2.length c2] rfl gS ?_; (with_reducible refine (spoorref20_Differ.calls kj6 a0_0 a0_1 _ _ l1 _ _ l2 t384 t387 _ ?side1 ?side2 ?side3 ?side4 A22.out).mono ?_); (case side1 => repeat (first | exact (Kd.C_below HR1.out HB.out) | (with_reducible refine Kd.C_alloc ?_ _) | (with_reducible refine Kd.C_drewN ?_ _) | (with_reducible refine Kd.C_drew ?_))); (case side2 => exact HC1.out); (case side3 => repeat (first | exact (Kd.C_below HR2.out HB.out) | (with_reducible refine Kd.C_alloc ?_ _) | (with_reducible refine Kd.C_drewN ?_ _) | (with_reducible refine Kd.C_drew ?_))); (case side4 => exact HC2.out); rintro e w68 ⟨v385, rfl, ho0, hb⟩; refine ⟨_, rfl, ?_⟩; have n0_ := Ax (Kd.R_elder' (by (with_reducible repeat (first | apply Kd.R_alloc | apply Kd.R_drewN | apply Kd.R_drew)); exact HO366.out) (Kd.R_base ho0) hb); have n1_ := Ax (Kd.R_elder' (by (with_reducible repeat (first | apply Kd.R_alloc | apply Kd.R_drewN | apply Kd.R_drew)); exact HO370.out) (Kd.R_base ho0) hb); have n2_ := Ax (Kd.R_below (by (with_reducible repeat (first | apply Kd.R_alloc | apply Kd.R_drewN | apply Kd.R_drew)); exact HO374.out) hb); have n3_ := Ax (Kd.R_below (by (with_reducible repeat (first | apply Kd.R_alloc | apply Kd.R_drewN | apply Kd.R_drew)); exact HO378.out) hb); have n4_ := Ax (Kd.R_elder' (by (with_reducible repeat (first | apply Kd.R_alloc | apply Kd.R_drewN | apply Kd.R_drew)); exact HO382.out) (Kd.R_base ho0) hb); have n5_ := Ax (Kd.R_lower (Kd.R_newB (Kd.R_newB (Kd.R_new' (Kd.R_new' (Kd.R_new' ho0 (Kd.R_lt (by (with_reducible repeat (first | apply Kd.R_alloc | apply Kd.R_drewN | apply Kd.R_drew)); exact HO366.out))) (Kd.R_lt (by (with_reducible repeat (first | apply Kd.R_alloc | apply Kd.R_drewN | apply Kd.R_drew)); exact HO370.out))) (Kd.R_lt (by (with_reducible repeat (first | apply Kd.R_alloc | apply Kd.R_drewN | apply Kd.R_drew)); exact HO382.out))) (g := gb352) (o := .cells #[.int .i64 a0_0, .int .i64 a0_1] 23 (0, 0)) (bf0 BK352.out)) (g := gb354) (o := .cells #[.int .i64 a5_0, .int .i64 a5_1] 23 (0, 0)) (bf0 BK354.out)) (below_size (bw5 HB.out GE352.out GE353.out GE354.out GE359.out GE363.out))); have n6_ := Bx0 BK352 hb; have n7_ := Bx0 BK353 hb; have n8_ := Bx0 BK354 hb; have n9_ := Bx0 BK359 hb; have n10_ := Bx0 BK363 hb; have n11_ := Bs5 HB hb GE352.out GE353.out GE354.out GE359.out GE363.out; clear HO366; clear HO370; clear HO374; clear HO378; clear HO382; clear BK352; clear BK353; clear BK354; clear BK359; clear BK363; clear HB; have HO366 := n0_; have HO370 := n1_; have HO374 := n2_; have HO378 := n3_; have HO382 := n4_; have HO386 := n5_; have BK352 := n6_; have BK353 := n7_; have BK354 := n8_; have BK359 := n9_; have BK363 := n10_; have HB := n11_; clear n0_ n1_ n2_ n3_ n4_ n5_ n6_ n7_ n8_ n9_ n10_ n11_; (try clear hb); (try clear ho0)) | ((with_reducible refine gate_callee (f := 10) rfl ?_); refine goesL_ (some 94) rfl rfl Try.func10 (by kernel_rfl) rfl #[] rfl gS ?_; (with_reducible refine (spoorlaw20_lives.calls kj6  true _ A23.out).mono ?_); rintro e w69 ⟨rfl, hb⟩; refine ⟨_, rfl, ?_⟩; have n0_ := Ax (Kd.R_below (by (with_reducible repeat (first | apply Kd.R_alloc | apply Kd.R_drewN | apply Kd.R_drew)); exact HO366.out) hb); have n1_ := Ax (Kd.R_below (by (with_reducible repeat (first | apply Kd.R_alloc | apply Kd.R_drewN | apply Kd.R_drew)); exact HO370.out) hb); have n2_ := Ax (Kd.R_below (by (with_reducible repeat (first | apply Kd.R_alloc | apply Kd.R_drewN | apply Kd.R_drew)); exact HO374.out) hb); have n3_ := Ax (Kd.R_below (by (with_reducible repeat (first | apply Kd.R_alloc | apply Kd.R_drewN | apply Kd.R_drew)); exact HO378.out) hb); have n4_ := Ax (Kd.R_below (by (with_reducible repeat (first | apply Kd.R_alloc | apply Kd.R_drewN | apply Kd.R_drew)); exact HO382.out) hb); have n5_ := Ax (Kd.R_below (by (with_reducible repeat (first | apply Kd.R_alloc | apply Kd.R_drewN | apply Kd.R_drew)); exact HO386.out) hb); have n6_ := Bx0 BK352 hb; have n7_ := Bx0 BK353 hb; have n8_ := Bx0 BK354 hb; have n9_ := Bx0 BK359 hb; have n10_ := Bx0 BK363 hb; have n11_ := Bs5 HB hb GE352.out GE353.out GE354.out GE359.out GE363.out; clear HO366; clear HO370; clear HO374; clear HO378; clear HO382; clear HO386; clear BK352; clear BK353; clear BK354; clear BK359; clear BK363; clear HB; have HO366 := n0_; have HO370 := n1_; have HO374 := n2_; have HO378 := n3_; have HO382 := n4_; have HO386 := n5_; have BK352 := n6_; have BK353 := n7_; have BK354 := n8_; have BK359 := n9_; have BK363 := n10_; have HB := n11_; clear n0_ n1_ n2_ n3_ n4_ n5_ n6_ n7_ n8_ n9_ n10_ n11_; (try clear hb); obtain ⟨hcz70_0, hcz70_1, hfz70_0, hfz70_1⟩ := cl2 BK359; obtain ⟨hcz71_0, hcz71_1, hfz71_0, hfz71_1⟩ := cl2 BK363; obtain ⟨Ao72, co72, eo72⟩ := Kd.R_slice HO366.out; subst eo72; obtain ⟨Ao73, co73, eo73⟩ := Kd.R_slice HO370.out; subst eo73) | (go_at_call 22; (with_reducible refine (spoorref19_Same.calls kj6 _ _ t364 _ _ t368 true _ ?side1 ?side2 ?side3 ?side4 A27.out).mono ?_); (case side1 => repeat (first | exact (Kd.R_reads' HO366.out).2.2 | (with_reducible refine Kd.C_alloc ?_ _) | (with_reducible refine Kd.C_drewN ?_ _) | (with_reducible refine Kd.C_drew ?_))); (case side2 => exact (Kd.R_reads' HO366.out).2.1); (case side3 => repeat (first | exact (Kd.R_reads' HO370.out).2.2 | (with_reducible refine Kd.C_alloc ?_ _) | (with_reducible refine Kd.C_drewN ?_ _) | (with_reducible refine Kd.C_drew ?_))); (case side4 => exact (Kd.R_reads' HO370.out).2.1); rintro e w' ⟨rfl, ⟨nd, rfl⟩⟩; obtain ⟨Ao74, co74, eo74⟩ := Kd.R_slice HO374.out; subst eo74; obtain ⟨Ao75, co75, eo75⟩ := Kd.R_slice HO378.out; subst eo75) | (go_at_call 11; (with_reducible refine (spoorref20_Same.calls kj6 _ _ t372 _ _ t376 true _ ?side1 ?side2 ?side3 ?side4 A30.out).mono ?_); (case side1 => repeat (first | exact (Kd.R_reads' HO374.out).2.2 | (with_reducible refine Kd.C_alloc ?_ _) | (with_reducible refine Kd.C_drewN ?_ _) | (with_reducible refine Kd.C_drew ?_))); (case side2 => exact (Kd.R_reads' HO374.out).2.1); (case side3 => repeat (first | exact (Kd.R_reads' HO378.out).2.2 | (with_reducible refine Kd.C_alloc ?_ _) | (with_reducible refine Kd.C_drewN ?_ _) | (with_reducible refine Kd.C_drew ?_))); (case side4 => exact (Kd.R_reads' HO378.out).2.1); rintro e w' ⟨rfl, ⟨nd, rfl⟩⟩; obtain ⟨Ao76, co76, eo76⟩ := Kd.R_slice HO382.out; subst eo76; obtain ⟨Ao77, co77, eo77⟩ := Kd.R_slice HO386.out; subst eo77) | (go_at_call 22; (with_reducible refine (spoorref19_Same.calls kj6 _ _ t380 _ _ t384 true _ ?side1 ?side2 ?side3 ?side4 A33.out).mono ?_); (case side1 => repeat (first | exact (Kd.R_reads' HO382.out).2.2 | (with_reducible refine Kd.C_alloc ?_ _) | (with_reducible refine Kd.C_drewN ?_ _) | (with_reducible refine Kd.C_drew ?_))); (case side2 => exact (Kd.R_reads' HO382.out).2.1); (case side3 => repeat (first | exact (Kd.R_reads' HO386.out).2.2 | (with_reducible refine Kd.C_alloc ?_ _) | (with_reducible refine Kd.C_drewN ?_ _) | (with_reducible refine Kd.C_drew ?_))); (case side4 => exact (Kd.R_reads' HO386.out).2.1); rintro e w' ⟨rfl, ⟨nd, rfl⟩⟩))
            go_ret
            exact ⟨eS, bw5 HB.out GE352.out GE353.out GE354.out GE359.out GE363.out⟩
           ·replace c34 := Bool.eq_false_iff.mpr c34
            subst c34
            have H1 : (none) = some r := by rw [if_neg (show ¬ (false = true) by decide)] at H; exact H
            clear H
            have H := H1
            clear H1
            exact absurd H (by simp)
          ·rw [if_neg c32] at H
           exact absurd H (by simp)
         ·replace c31 := Bool.eq_false_iff.mpr c31
          subst c31
          have H1 : (none) = some r := by rw [if_neg (show ¬ (false = true) by decide)] at H; exact H
          clear H
          have H := H1
          clear H1
          exact absurd H (by simp)
        ·rw [if_neg c29] at H
         exact absurd H (by simp)
       ·replace c28 := Bool.eq_false_iff.mpr c28
        subst c28
        have H1 : (none) = some r := by rw [if_neg (show ¬ (false = true) by decide)] at H; exact H
        clear H
        have H := H1
        clear H1
        exact absurd H (by simp)
      ·rw [if_neg c26] at H
       exact absurd H (by simp)
     ·rw [if_neg c25] at H
      exact absurd H (by simp)
    ·replace c24 := Bool.eq_false_iff.mpr c24
     subst c24
     have H1 : (none) = some r := by rw [if_neg (show ¬ (false = true) by decide)] at H; exact H
     clear H
     have H := H1
     clear H1
     exact absurd H (by simp)
end Go.Proofs.Ytghklhdooemjdaa.Q
end
section
namespace Go.Proofs.Ytghklhdooemjdaa.Open
set_option linter.unusedVariables false
open Go.RowKit Go.WideShapes Go.Proofs.YtghklhdooemjdaaW.PrintWords Go.Proofs.YtghklhdooemjdaaW.PrintLast Go.Proofs.YtghklhdooemjdaaW.PrintMore
open Go.Proofs.Ytghklhdooemjdaa.Rows (uptoBulk uptoBulkAll)
def Opens {α : Type} (P : Program) (t : TypeId) (K : Kd α) (wf : α → Prop) (mu : α → Nat) : Prop :=
  ∀ {H : Type} (enc : TypeId × Value → H) (W : World) (spare : Nat → Bool) (held : Bool) (n : Nat) (cs : List Value) (x : DataW H × List MemPlace),
    DataW.trod enc P W 0 spare held n t cs = some x → ∃ a, K.K W a cs ∧ wf a ∧ mu a ≤ uptoBulk x.1
def wfInt (k : IntKind) (n : Int) : Prop := (Lit.int k n).wf = true
def wfAll {α : Type} (wf : α → Prop) (l : List α) : Prop := ∀ a ∈ l, wf a
def mu1 {α : Type} (_ : α) : Nat := 1
def muAll {α : Type} (mu : α → Nat) : List α → Nat
  | [] => 1
  | a :: l => mu a + muAll mu l
theorem wfAll_nil {α : Type} (wf : α → Prop) : wfAll wf [] := fun _ h => by cases h
theorem opens_int {P : Program} {t : TypeId} {k : IntKind} (hu : P.underlying t = some (.int k)) : Opens P t (Kd.int k) (wfInt k) mu1 := by
  intro H enc W spare held n cs x h
  obtain ⟨a, rfl, rfl, hw⟩ := DataW.trod_int hu h
  exact ⟨a, rfl, hw, by simp [mu1, uptoBulk]⟩
theorem opens_list {α H : Type} {P : Program} {e : TypeId} {K : Kd α} {wf : α → Prop} {mu : α → Nat} (he : Opens P e K wf mu) (enc : TypeId × Value → H) (W : World) (spare : Nat → Bool) (held : Bool) (n : Nat) (rd : Nat → Option (List Value)) :
    ∀ (elems : List (DataW H × List MemPlace)) (off : Nat), (∀ i, i < elems.length → (rd (off + i)).bind (DataW.trod enc P W 0 spare held n e) = elems[i]?) →
      ∃ l : List α, l.length = elems.length ∧ (∀ i a, l[i]? = some a → ∃ cs, rd (off + i) = some cs ∧ K.K W a cs) ∧ wfAll wf l ∧ muAll mu l ≤ uptoBulkAll (elems.map (·.1)) + 1
  | [], off, _ => ⟨[], rfl, (fun i a h => by simp at h), wfAll_nil _, by simp [muAll, uptoBulkAll]⟩
  | x :: elems, off, h => by
    have h0 := h 0 (by simp)
    simp only [Nat.add_zero, List.getElem?_cons_zero] at h0
    obtain ⟨cs, hc, ht⟩ := Option.bind_eq_some_iff.1 h0
    obtain ⟨a, hK, hw, hm⟩ := he enc W spare held n cs x ht
    obtain ⟨l, hl, hr, hwf, hmu⟩ := opens_list he enc W spare held n rd elems (off + 1) (fun i hi => by
      have := h (i + 1) (by simp; omega)
      rw [List.getElem?_cons_succ] at this
      rwa [show off + 1 + i = off + (i + 1) by omega])
    refine ⟨a :: l, by simp [hl], ?_, ?_, ?_⟩
    · intro i b hb
      cases i with
      | zero =>
        obtain rfl : a = b := by simpa using hb
        exact ⟨cs, hc, hK⟩
      | succ i =>
        rw [List.getElem?_cons_succ] at hb
        obtain ⟨cs', h1, h2⟩ := hr i b hb
        exact ⟨cs', by rwa [show off + (i + 1) = off + 1 + i by omega], h2⟩
    · intro b hb
      rcases List.mem_cons.1 hb with rfl | hb
      · exact hw
      · exact hwf b hb
    · simp only [muAll, List.map_cons, uptoBulkAll]
      omega
theorem cells_some {W : World} {ad : Addr} {n : Nat} {cs : List Value} (h : W.cells? 0 ad n = some cs) : cs.length = n ∧ ∀ i u, cs[i]? = some u → W.cell? (ad.add i) = some u := by
  obtain ⟨_, hl, hc⟩ := World.cells?_some h
  refine ⟨hl, fun i u hi => ?_⟩
  rw [hc i (by rw [← hl]; exact (List.getElem?_eq_some_iff.1 hi).1)]
  exact hi
theorem opens_slice {α : Type} {P : Program} {t e : TypeId} {K : Kd α} {wf : α → Prop} {mu : α → Nat} (he : Opens P e K wf mu) (hu : P.underlying t = some (.slice e)) (hsz : P.cellsOf e = K.sz) (e' : Nat) :
    Opens P t (Kd.slice e' K) (fun l => wfAll wf l ∧ l.length ≤ maxLen) (muAll mu) := by
  intro H enc W spare held n cs x h
  rcases DataW.trod_slice hu h with ⟨rfl, rfl⟩ | ⟨a, len, cap, elems, rest, m, rfl, rfl, rfl, _, hlc, hcm, hel, hrd, _, _⟩
  · exact ⟨[], ⟨none, 0, rfl, Nat.le_refl _, rfl, Nat.zero_le _, fun h => absurd h (Nat.lt_irrefl _)⟩, ⟨wfAll_nil _, by simp⟩, by simp [muAll, uptoBulk]⟩
  · obtain ⟨l, hl, hr, hw, hm⟩ := opens_list he enc W spare held m (fun i => W.cells? 0 (a.add (i * P.cellsOf e)) (P.cellsOf e)) elems 0 (fun i hi => by
      rw [Nat.zero_add]
      exact hrd i (by omega))
    refine ⟨l, ⟨some a, cap, by rw [hl, hel], by omega, ?_⟩, ⟨hw, by omega⟩, ?_⟩
    · refine ⟨rfl, by simp only [maxLen] at hcm; omega, fun _ => ⟨a, rfl, fun j p hp => ?_⟩⟩
      obtain ⟨cs, hc, hK⟩ := hr j p hp
      rw [Nat.zero_add] at hc
      obtain ⟨h1, h2⟩ := cells_some hc
      refine ⟨cs, by rw [h1, hsz], hK, fun i u hi => ?_⟩
      have := h2 i u hi
      rwa [Addr.add_add, hsz] at this
    · simp only [uptoBulk]
      omega
theorem sized_row {H : Type} {enc : TypeId × Value → H} {P : Program} {W : World} {base : Nat} {spare : Nat → Bool} {held : Bool} {t e : TypeId} {a : Option Addr} {len cap : Nat} {d : DataW H} {ps : List MemPlace} {ts : List TypeId} {ds : List (DataW H)} {j : Nat}
    (hsz : (DataW.weightsEach P ts ds).all (· ≤ reachBytes) = true) (ht : ts[j]? = some t) (hd : ds[j]? = some d) (hu : P.underlying t = some (.slice e)) {B : Nat} (hB : P.bytesOf e = B)
    (h : DataW.Trod enc P W base spare held t (.slice a len cap) d ps) : len * B ≤ 140737488351232 := by
  obtain ⟨fuel, hf⟩ := h
  rcases DataW.trod_slice hu hf with ⟨hcs, _⟩ | ⟨a', len', cap', elems, rest, m, _, hcs, hx, _, hlc, hcm, hel, hrd, _, _⟩
  · simp [Value.cells] at hcs
    obtain ⟨rfl, rfl, rfl⟩ := hcs
    simp
  · simp [Value.cells] at hcs
    obtain ⟨rfl, rfl, rfl⟩ := hcs
    obtain ⟨hx, _⟩ := Prod.mk.inj hx
    subst hx
    have z := sized_slice hsz ht hd hu
    rw [hB] at z
    exact Nat.le_trans (Nat.mul_le_mul_right _ (by simp only [List.length_map]; omega)) z
end Go.Proofs.Ytghklhdooemjdaa.Open
end
section
namespace Go.Proofs.Ytghklhdooemjdaa.Q
set_option linter.unusedVariables false
set_option linter.unusedSimpArgs false
open Go.RowKit Go.Proofs.YtghklhdooemjdaaW.PrintWords Go.Proofs.YtghklhdooemjdaaW.PrintLast Go.Proofs.YtghklhdooemjdaaW.PrintMore Go.Proofs.Ytghklhdooemjdaa.Open
open Go.Proofs.Ytghklhdooemjdaa.Rows (uptoBulk uptoBulkAll)
def wf23 (x : S23) : Prop := (wfInt .i64) x.f0 ∧ (wfInt .i64) x.f1
def mu23 (x : S23) : Nat := mu1 x.f0 + mu1 x.f1 + 1
set_option maxRecDepth 100000 in
theorem opn23 : Opens Try.prog 23 k23 wf23 mu23 := by
  intro H enc W spare held n cs x h
  obtain ⟨xs, m, rfl, rfl, hl, hs, hf⟩ := DataW.trod_struct Try.underlying23 h
  have hc : cs.length = 2 := hl.trans (by kernel_rfl)
  have hx : xs.length = 2 := hs
  clear hl hs h
  match cs, hc, xs, hx, hf with
  | [c0, c1], _, [y0, y1], _, hf =>
    have e0 : Try.prog.cellsOf 2 = 1 := by kernel_rfl
    have e1 : Try.prog.cellsOf 2 = 1 := by kernel_rfl
    have g0 := hf 0 _ rfl
    simp only [List.getElem_toArray, List.getElem_cons_zero, List.getElem_cons_succ, e0] at g0
    obtain ⟨a0, K0, w0, m0⟩ := (opens_int Try.underlying2) enc W spare held m [c0] y0 g0
    have g1 := hf 1 _ rfl
    simp only [List.getElem_toArray, List.getElem_cons_zero, List.getElem_cons_succ, e1] at g1
    obtain ⟨a1, K1, w1, m1⟩ := (opens_int Try.underlying2) enc W spare held m [c1] y1 g1
    exact ⟨⟨a0, a1⟩, ⟨[c0], [c1], rfl, K0, K1⟩, ⟨w0, w1⟩, by simp only [mu23, List.map_cons, List.map_nil, uptoBulk, uptoBulkAll]; omega⟩
def wf35 (x : S35) : Prop := (wfInt .u8) x.f0 ∧ (wfInt .i64) x.f1
def mu35 (x : S35) : Nat := mu1 x.f0 + mu1 x.f1 + 1
set_option maxRecDepth 100000 in
theorem opn35 : Opens Try.prog 35 k35 wf35 mu35 := by
  intro H enc W spare held n cs x h
  obtain ⟨xs, m, rfl, rfl, hl, hs, hf⟩ := DataW.trod_struct Try.underlying35 h
  have hc : cs.length = 2 := hl.trans (by kernel_rfl)
  have hx : xs.length = 2 := hs
  clear hl hs h
  match cs, hc, xs, hx, hf with
  | [c0, c1], _, [y0, y1], _, hf =>
    have e0 : Try.prog.cellsOf 33 = 1 := by kernel_rfl
    have e1 : Try.prog.cellsOf 3 = 1 := by kernel_rfl
    have g0 := hf 0 _ rfl
    simp only [List.getElem_toArray, List.getElem_cons_zero, List.getElem_cons_succ, e0] at g0
    obtain ⟨a0, K0, w0, m0⟩ := (opens_int Try.underlying33) enc W spare held m [c0] y0 g0
    have g1 := hf 1 _ rfl
    simp only [List.getElem_toArray, List.getElem_cons_zero, List.getElem_cons_succ, e1] at g1
    obtain ⟨a1, K1, w1, m1⟩ := (opens_int Try.underlying3) enc W spare held m [c1] y1 g1
    exact ⟨⟨a0, a1⟩, ⟨[c0], [c1], rfl, K0, K1⟩, ⟨w0, w1⟩, by simp only [mu35, List.map_cons, List.map_nil, uptoBulk, uptoBulkAll]; omega⟩
def wf52 (x : S52) : Prop := wf23 x.f0 ∧ wf35 x.f1
def mu52 (x : S52) : Nat := mu23 x.f0 + mu35 x.f1 + 1
set_option maxRecDepth 100000 in
theorem opn52 : Opens Try.prog 52 k52 wf52 mu52 := by
  intro H enc W spare held n cs x h
  obtain ⟨xs, m, rfl, rfl, hl, hs, hf⟩ := DataW.trod_struct Try.underlying52 h
  have hc : cs.length = 4 := hl.trans (by kernel_rfl)
  have hx : xs.length = 2 := hs
  clear hl hs h
  match cs, hc, xs, hx, hf with
  | [c0, c1, c2, c3], _, [y0, y1], _, hf =>
    have e0 : Try.prog.cellsOf 23 = 2 := by kernel_rfl
    have e1 : Try.prog.cellsOf 35 = 2 := by kernel_rfl
    have g0 := hf 0 _ rfl
    simp only [List.getElem_toArray, List.getElem_cons_zero, List.getElem_cons_succ, e0] at g0
    obtain ⟨a0, K0, w0, m0⟩ := opn23 enc W spare held m [c0, c1] y0 g0
    have g1 := hf 1 _ rfl
    simp only [List.getElem_toArray, List.getElem_cons_zero, List.getElem_cons_succ, e1] at g1
    obtain ⟨a1, K1, w1, m1⟩ := opn35 enc W spare held m [c2, c3] y1 g1
    exact ⟨⟨a0, a1⟩, ⟨[c0, c1], [c2, c3], rfl, K0, K1⟩, ⟨w0, w1⟩, by simp only [mu52, List.map_cons, List.map_nil, uptoBulk, uptoBulkAll]; omega⟩
end Go.Proofs.Ytghklhdooemjdaa.Q
end
section
namespace Go.Proofs.Ytghklhdooemjdaa.Q
set_option linter.unusedVariables false
open Go.RowKit Go.Proofs.YtghklhdooemjdaaW.PrintWords Go.Proofs.YtghklhdooemjdaaW.PrintLast Go.Proofs.YtghklhdooemjdaaW.PrintMore Go.Proofs.Ytghklhdooemjdaa.Open
def spoorlaw20_LineAsks.Pure : Prop := ∀ (a0_0 : Int) (a0_1 : Int) (l1 : List (S52)) (l2 : List (S52)) (a3 : Int) (a4_0 : Int) (a4_1 : Int) (a5_0 : Int) (a5_1 : Int), wf23 (⟨a0_0, a0_1⟩ : S23) → (fun l => wfAll wf52 l ∧ l.length ≤ maxLen) l1 → (fun l => wfAll wf52 l ∧ l.length ≤ maxLen) l2 → (wfInt .i64) a3 → wf35 (⟨a4_0, a4_1⟩ : S35) → wf23 (⟨a5_0, a5_1⟩ : S23) → l1.length * 32 ≤ 140737488351232 → l2.length * 32 ≤ 140737488351232 → ∃ k, spoorlaw20_LineAsks.f k a0_0 a0_1 l1 l2 a3 a4_0 a4_1 a5_0 a5_1 = some true
end Go.Proofs.Ytghklhdooemjdaa.Q
end
section
namespace Go.Proofs.Ytghklhdooemjdaa.Base
set_option linter.unusedVariables false
open Go.RowKit Go.Proofs.YtghklhdooemjdaaW.PrintWords Go.Proofs.YtghklhdooemjdaaW.PrintLast Go.Proofs.YtghklhdooemjdaaW.PrintMore
theorem Ev.pos {α : Type} {c : Prop} [Decidable c] {f g : Nat → Option α} {r : α} (h : c) (k : Ev f r) : Ev (fun n => if c then f n else g n) r := Ev.congr (fun _ => if_pos h) k
theorem Ev.neg {α : Type} {c : Prop} [Decidable c] {f g : Nat → Option α} {r : α} (h : ¬ c) (k : Ev g r) : Ev (fun n => if c then f n else g n) r := Ev.congr (fun _ => if_neg h) k
theorem Ev.const {α : Type} {o : Option α} {r : α} (h : o = some r) : Ev (fun _ => o) r := ⟨0, fun _ _ => h⟩
theorem Ev.succ {α : Type} {g : Nat → Option α} {r : α} (h : Ev (fun k => g (k + 1)) r) : Ev g r := Ev.step (fun _ => rfl) h
theorem Ev.to {α : Type} {g : Nat → Option α} {r q : α} (h : Ev g r) (e : r = q) : Ev g q := e ▸ h
theorem w64 {n : Int} (h0 : -9223372036854775808 ≤ n) (h1 : n ≤ 9223372036854775807) : wrap64 n = n := by unfold wrap64; omega
theorem wf_i64 {n : Int} (h : (Lit.int .i64 n).wf = true) : -9223372036854775808 ≤ n ∧ n ≤ 9223372036854775807 := by
  have h1 : IntKind.i64.min ≤ n ∧ n ≤ IntKind.i64.max := by simpa [Lit.wf] using h
  have a : IntKind.i64.min = -9223372036854775808 := by decide
  have b : IntKind.i64.max = 9223372036854775807 := by decide
  omega
def Bytes (l : List Int) : Prop := ∀ x ∈ l, 0 ≤ x ∧ x < 256
theorem Bytes.nil : Bytes [] := fun _ h => by cases h
theorem Bytes.cons {x : Int} {l : List Int} (h0 : 0 ≤ x) (h1 : x < 256) (h : Bytes l) : Bytes (x :: l) := fun y hy => by
  rcases List.mem_cons.1 hy with rfl | hy
  · exact ⟨h0, h1⟩
  · exact h y hy
theorem Bytes.head {x : Int} {l : List Int} (h : Bytes (x :: l)) : 0 ≤ x ∧ x < 256 := h x (by simp)
theorem Bytes.append {a b : List Int} (ha : Bytes a) (hb : Bytes b) : Bytes (a ++ b) := fun x hx => (List.mem_append.1 hx).elim (ha x) (hb x)
theorem Bytes.left {a b : List Int} (h : Bytes (a ++ b)) : Bytes a := fun x hx => h x (by simp [hx])
theorem Bytes.right {a b : List Int} (h : Bytes (a ++ b)) : Bytes b := fun x hx => h x (by simp [hx])
theorem Bytes.drop {l : List Int} (h : Bytes l) (n : Nat) : Bytes (l.drop n) := fun x hx => h x (List.mem_of_mem_drop hx)
theorem Bytes.take {l : List Int} (h : Bytes l) (n : Nat) : Bytes (l.take n) := fun x hx => h x (List.mem_of_mem_take hx)
end Go.Proofs.Ytghklhdooemjdaa.Base
end
section
namespace Go.Proofs.Ytghklhdooemjdaa.Line
set_option linter.unusedVariables false
open Go.RowKit Go.Proofs.Ytghklhdooemjdaa.Q Go.Proofs.YtghklhdooemjdaaW.PrintWords Go.Proofs.YtghklhdooemjdaaW.PrintLast Go.Proofs.Ytghklhdooemjdaa.Base Go.Proofs.Ytghklhdooemjdaa.Open
abbrev Iv := S23
abbrev Er := S52
abbrev Vd := S35
abbrev Rn := S102
theorem dlt {α : Type} {l : List α} {i : Nat} {c : α} {m : List α} (h : l.drop i = c :: m) : i < l.length := by
  have := congrArg List.length h
  simp at this
  omega
theorem dnext {α : Type} {l : List α} {i : Nat} {x : α} {r : List α} (h : l.drop i = x :: r) : l.drop (i + 1) = r := by rw [← List.drop_drop, h]; rfl
theorem rdV {l : List Er} {i : Nat} {x : Er} {r : List Er} (h : l.drop i = x :: r) : rd_T52 l (i : Int) = x := by
  have e : l[i]? = some x := by rw [← List.head?_drop, h]; rfl
  simp [rd_T52, List.getD_eq_getElem?_getD, e]
theorem rdI {l : List Iv} {i : Nat} {x : Iv} {r : List Iv} (h : l.drop i = x :: r) : rd_T23 l (i : Int) = x := by
  have e : l[i]? = some x := by rw [← List.head?_drop, h]; rfl
  simp [rd_T23, List.getD_eq_getElem?_getD, e]
def runOf (x : Iv) : Rn := ⟨x.f0, x.f1⟩
theorem runs_l (l : List Iv) (hl : l.length ≤ 17592186044416) : ∀ (r : List Iv) (i : Nat) (a : List Rn), l.drop i = r → a.length = i → i ≤ l.length →
    Ev (fun k => ivl_runs.l0 k (a ++ List.replicate (l.length - i) z102) l (l.length : Int) (i : Int)) (a ++ r.map runOf)
  | [], i, a, hd, ha, hi => by
    have h1 : l.length ≤ i := List.drop_eq_nil_iff.1 hd
    refine Ev.succ ?_
    simp only [ivl_runs.l0]
    refine Ev.neg (by omega) (Ev.const ?_)
    rw [show l.length - i = 0 by omega]
    rfl
  | x :: r, i, a, hd, ha, hi => by
    have hlt := dlt hd
    refine Ev.succ ?_
    simp only [ivl_runs.l0, rdI hd]
    refine Ev.pos (by omega) (Ev.pos (by omega) (Ev.pos (by omega) (Ev.pos (by rw [List.length_append, List.length_replicate]; omega) ?_)))
    rw [w64 (by omega) (by omega), show ((i : Int) + 1) = ((i + 1 : Nat) : Int) by omega, Int.toNat_natCast]
    have e : (a ++ List.replicate (l.length - i) z102).set i (⟨x.f0, x.f1⟩ : Rn) = (a ++ [runOf x]) ++ List.replicate (l.length - (i + 1)) z102 := by
      rw [show l.length - i = (l.length - (i + 1)) + 1 by omega, List.replicate_succ, List.set_append_right _ _ (by omega), ha, Nat.sub_self, List.append_assoc]
      rfl
    rw [e]
    refine Ev.to (runs_l l hl r (i + 1) (a ++ [runOf x]) (dnext hd) (by simp [ha]) (by omega)) ?_
    rw [List.append_assoc]
    rfl
theorem runs_ev (l : List Iv) (hl : l.length ≤ 17592186044416) : Ev (fun k => ivl_runs.f k l) (l.map runOf) := by
  simp only [ivl_runs.f, Int.toNat_natCast]
  refine Ev.pos (by omega) (Ev.pos hl ?_)
  exact runs_l l hl l 0 [] rfl rfl (Nat.zero_le _)
theorem ivl_ev (l : List Iv) : Ev (fun k => ivl_Check.f k l) (if l.length ≤ 1024 ∧ soundL none (l.map runOf) = true then 0 else 2) := by
  simp only [ivl_Check.f]
  by_cases h : 1024 < (l.length : Int)
  · rw [if_neg (by omega)]
    exact Ev.pos h (Ev.const rfl)
  · refine Ev.neg h (Ev.bind (runs_ev l (by omega)) (Ev.const ?_))
    by_cases s : soundL none (l.map runOf) = true
    · rw [if_pos s, if_pos ⟨by omega, s⟩]
    · rw [if_neg s, if_neg (fun hh => s hh.2)]
def winP (a b : Int) : Prop := 0 ≤ a ∧ a ≤ b ∧ b ≤ 1099511627776
instance (a b : Int) : Decidable (winP a b) := by unfold winP; infer_instance
theorem win_ev (a b : Int) : Ev (fun k => line_window.f k a b) (decide (winP a b)) := by
  simp only [line_window.f]
  refine Ev.bind (ivl_ev _) (Ev.const ?_)
  have e : soundL none (List.map runOf [(⟨a, b⟩ : Iv)]) = decide (winP a b) := by
    show (if a < 0 ∨ b < a ∨ 1099511627776 < b then false else true) = _
    by_cases h : winP a b
    · rw [if_neg (by unfold winP at h; omega), decide_eq_true h]
    · rw [if_pos (by unfold winP at h; omega), decide_eq_false h]
  rw [e]
  by_cases h : winP a b
  · rw [decide_eq_true h, if_pos ⟨by simp, rfl⟩]; rfl
  · rw [decide_eq_false h, if_neg (fun hh => by cases hh.2)]; rfl
def stepB (w1 : Int) (p : Option Er) (x : Er) : Bool := rightB x.f1 && decide (x.f0.f0 ≤ x.f0.f1) && decide (x.f0.f1 ≤ w1) && (match p with
  | none => true
  | some q => decide (x.f0.f0 - 1 = q.f0.f1) && !(x.f1.f0 == q.f1.f0 && x.f1.f1 == q.f1.f1))
def chkB (w1 : Int) : Option Er → List Er → Bool
  | _, [] => true
  | p, x :: xs => stepB w1 p x && chkB w1 (some x) xs
def prevOf (l : List Er) (i : Nat) : Option Er := if i = 0 then none else l[i - 1]?
def ec (b : Bool) : Int := if b = true then 0 else 2
theorem j2_no (l m : List Er) (i n j a b c d e f : Int) : Ev (fun k => line_Check.j2 k l i m n j true a b c d e f) 2 := by
  refine Ev.succ ?_
  simp only [line_Check.j2]
  exact Ev.pos trivial (Ev.const rfl)
def bndE (x : Er) : Prop := -9223372036854775808 ≤ x.f0.f0 ∧ x.f0.f0 ≤ 9223372036854775807 ∧ -9223372036854775808 ≤ x.f0.f1 ∧ x.f0.f1 ≤ 9223372036854775807
theorem wf_era {x : Er} (h : wf52 x) : bndE x := by
  unfold bndE
  obtain ⟨⟨h1, h2⟩, _⟩ := h
  have a := wf_i64 h1
  have b := wf_i64 h2
  omega
theorem chk_l (l : List Er) (hw : ∀ x ∈ l, bndE x) (hl : l.length ≤ 1024) (w0 w1 : Int) (hw1 : w1 ≤ 1099511627776) : ∀ (r : List Er) (i : Nat), l.drop i = r → (∀ q, prevOf l i = some q → q.f0.f1 ≤ w1) → Ev (fun k => line_Check.l0 k l l (l.length : Int) (i : Int) w0 w1) (ec (chkB w1 (prevOf l i) r))
  | [], i, hd, hpv => by
    have h1 : l.length ≤ i := List.drop_eq_nil_iff.1 hd
    refine Ev.succ ?_
    simp only [line_Check.l0]
    exact Ev.neg (by omega) (Ev.const rfl)
  | x :: r, i, hd, hpv => by
    have hlt := dlt hd
    have hxb := hw x (List.mem_of_mem_drop (i := i) (by rw [hd]; simp))
    unfold bndE at hxb
    have hp : prevOf l (i + 1) = some x := by
      unfold prevOf
      rw [if_neg (by omega), Nat.add_sub_cancel, ← List.head?_drop, hd]
      rfl
    have ih : x.f0.f1 ≤ w1 → Ev (fun k => line_Check.l0 k l l (l.length : Int) ((i + 1 : Nat) : Int) w0 w1) (ec (chkB w1 (some x) r)) := fun hx1 => by
      have := chk_l l hw hl w0 w1 hw1 r (i + 1) (dnext hd) (fun q hq => by rw [hp] at hq; cases hq; exact hx1)
      rwa [hp] at this
    refine Ev.succ ?_
    simp only [line_Check.l0, rdV hd]
    refine Ev.pos (by omega) (Ev.pos (by omega) (Ev.pos (by omega) ?_))
    rw [right_some]
    simp only [Option.bind_some, chkB]
    by_cases h1 : rightB x.f1 = true
    · refine Ev.pos h1 ?_
      by_cases h2 : x.f0.f1 < x.f0.f0
      · have e : stepB w1 (prevOf l i) x = false := by unfold stepB; rw [decide_eq_false (show ¬ x.f0.f0 ≤ x.f0.f1 by omega)]; simp
        rw [e]
        exact Ev.pos h2 (j2_no ..)
      · refine Ev.neg h2 ?_
        by_cases h3 : x.f0.f1 > w1
        · have e : stepB w1 (prevOf l i) x = false := by unfold stepB; rw [decide_eq_false (show ¬ x.f0.f1 ≤ w1 by omega)]; simp
          rw [e, decide_eq_true h3]
          exact j2_no ..
        · rw [decide_eq_false h3]
          refine Ev.succ ?_
          simp only [line_Check.j2]
          refine Ev.neg (by simp) ?_
          by_cases h4 : (i : Int) > 0
          · refine Ev.pos h4 ?_
            obtain ⟨q, hq⟩ : ∃ q, l[i - 1]? = some q := ⟨_, List.getElem?_eq_getElem (by omega)⟩
            have hpq : prevOf l i = some q := by unfold prevOf; rw [if_neg (by omega)]; exact hq
            have hqb := hw q (List.mem_of_getElem? hq)
            unfold bndE at hqb
            have hrd : rd_T52 l (wrap64 ((i : Int) - 1)) = q := by
              rw [w64 (by omega) (by omega), show ((i : Int) - 1) = ((i - 1 : Nat) : Int) by omega]
              simp [rd_T52, List.getD_eq_getElem?_getD, hq]
            rw [hpq, hrd]
            refine Ev.pos (by rw [w64 (by omega) (by omega)]; omega) (Ev.pos (by rw [w64 (by omega) (by omega)]; omega) ?_)
            have hs : stepB w1 (some q) x = (decide (x.f0.f0 - 1 = q.f0.f1) && !(x.f1.f0 == q.f1.f0 && x.f1.f1 == q.f1.f1)) := by
              unfold stepB
              rw [h1, decide_eq_true (show x.f0.f0 ≤ x.f0.f1 by omega), decide_eq_true (show x.f0.f1 ≤ w1 by omega)]
              simp
            rw [hs]
            by_cases h5 : x.f0.f0 - 1 = q.f0.f1
            · refine Ev.pos (by rw [w64 (by omega) (by omega)]; exact h5) ?_
              rw [decide_eq_true h5]
              by_cases h6 : (x.f1.f0 == q.f1.f0 && x.f1.f1 == q.f1.f1) = true
              · rw [h6]
                exact Ev.pos rfl (Ev.const rfl)
              · refine Ev.neg h6 ?_
                rw [Bool.eq_false_iff.2 h6, w64 (by omega) (by omega), show ((i : Int) + 1) = ((i + 1 : Nat) : Int) by omega]
                exact ih (by omega)
            · rw [decide_eq_false h5]
              refine Ev.neg (fun hh => ?_) (Ev.const rfl)
              rcases Int.lt_or_le x.f0.f0 (-9223372036854775807) with hm | hm
              · have e1 : x.f0.f0 = -9223372036854775808 := by omega
                rw [e1] at hh
                have e2 : wrap64 (-9223372036854775808 - 1) = 9223372036854775807 := by unfold wrap64; omega
                rw [e2] at hh
                have := hpv q hpq
                omega
              · rw [w64 (by omega) (by omega)] at hh
                exact h5 hh
          · refine Ev.neg h4 ?_
            obtain rfl : i = 0 := by omega
            have hs : stepB w1 (prevOf l 0) x = true := by
              unfold stepB prevOf
              rw [h1, decide_eq_true (show x.f0.f0 ≤ x.f0.f1 by omega), decide_eq_true (show x.f0.f1 ≤ w1 by omega)]
              rfl
            rw [hs, w64 (by omega) (by omega)]
            exact ih (by omega)
    · refine Ev.neg h1 ?_
      have e : stepB w1 (prevOf l i) x = false := by unfold stepB; rw [Bool.eq_false_iff.2 h1]; simp
      rw [e]
      exact j2_no ..
def lineB (w0 w1 : Int) (l : List Er) : Bool := decide (winP w0 w1) && decide (0 < l.length) && decide (l.length ≤ 1024) && decide ((rd_T52 l 0).f0.f0 = w0) && decide ((rd_T52 l ((l.length - 1 : Nat) : Int)).f0.f1 = w1) && chkB w1 none l
theorem j0_no (l : List Er) (a b : Int) : Ev (fun k => line_Check.j0 k l true a b) 2 := by
  refine Ev.succ ?_
  simp only [line_Check.j0]
  exact Ev.pos trivial (Ev.const rfl)
theorem check_ev (l : List Er) (hw : ∀ x ∈ l, bndE x) (w0 w1 : Int) : Ev (fun k => line_Check.f k w0 w1 l) (ec (lineB w0 w1 l)) := by
  simp only [line_Check.f]
  refine Ev.bind (win_ev w0 w1) ?_
  by_cases c0 : winP w0 w1
  case neg =>
    have e : lineB w0 w1 l = false := by unfold lineB; rw [decide_eq_false c0]; simp
    rw [e, decide_eq_false c0]
    exact Ev.neg (by simp) (j0_no ..)
  rw [decide_eq_true c0]
  refine Ev.pos rfl ?_
  by_cases c1 : l.length = 0
  · have e : lineB w0 w1 l = false := by unfold lineB; rw [decide_eq_false (show ¬ 0 < l.length by omega)]; simp
    rw [e]
    exact Ev.pos (by omega) (j0_no ..)
  refine Ev.neg (by omega) ?_
  by_cases c2 : l.length ≤ 1024
  case neg =>
    have e : lineB w0 w1 l = false := by unfold lineB; rw [decide_eq_false c2]; simp
    rw [e]
    exact Ev.pos (by omega) (j0_no ..)
  refine Ev.neg (by omega) (Ev.pos (by omega) ?_)
  by_cases c3 : (rd_T52 l 0).f0.f0 = w0
  case neg =>
    have e : lineB w0 w1 l = false := by unfold lineB; rw [decide_eq_false c3]; simp
    rw [e]
    exact Ev.neg c3 (j0_no ..)
  refine Ev.pos c3 ?_
  rw [w64 (by omega) (by omega), show ((l.length : Int) - 1) = ((l.length - 1 : Nat) : Int) by omega]
  refine Ev.pos (by omega) (Ev.pos (by omega) ?_)
  by_cases c4 : (rd_T52 l ((l.length - 1 : Nat) : Int)).f0.f1 = w1
  case neg =>
    have e : lineB w0 w1 l = false := by unfold lineB; rw [decide_eq_false c4]; simp
    rw [e, bne_iff_ne.mpr c4]
    exact j0_no ..
  have e : lineB w0 w1 l = chkB w1 none l := by
    unfold lineB
    rw [decide_eq_true c0, decide_eq_true (show 0 < l.length by omega), decide_eq_true c2, decide_eq_true c3, decide_eq_true c4]
    simp
  rw [e, c4, bne_self_eq_false]
  refine Ev.succ ?_
  simp only [line_Check.j0]
  refine Ev.neg (by simp) ?_
  exact chk_l l hw c2 w0 w1 (by unfold winP at c0; omega) l 0 rfl (fun q hq => by simp [prevOf] at hq)
def cont : Int → List Er → Option Int
  | f, [] => some f
  | f, x :: xs => if x.f0.f0 = f ∧ f ≤ x.f0.f1 ∧ rightB x.f1 = true then cont (x.f0.f1 + 1) xs else none
def sameV (a b : Vd) : Prop := a.f0 = b.f0 ∧ a.f1 = b.f1
instance (a b : Vd) : Decidable (sameV a b) := by unfold sameV; infer_instance
theorem sameV_eq {a b : Vd} (h : sameV a b) : a = b := by
  obtain ⟨h1, h2⟩ := h
  cases a; cases b
  simp only at h1 h2
  rw [h1, h2]
def alt : Option Vd → List Er → Prop
  | _, [] => True
  | none, x :: xs => alt (some x.f1) xs
  | some v, x :: xs => ¬ sameV x.f1 v ∧ alt (some x.f1) xs
def val (t : Int) : List Er → Vd
  | [] => ⟨0, 0⟩
  | x :: xs => if t ≤ x.f0.f1 then x.f1 else val t xs
theorem cont_le : ∀ (l : List Er) (f a : Int), cont f l = some a → f ≤ a
  | [], f, a, h => by
    obtain rfl := Option.some.inj h
    omega
  | x :: xs, f, a, h => by
    unfold cont at h
    by_cases c : x.f0.f0 = f ∧ f ≤ x.f0.f1 ∧ rightB x.f1 = true
    · rw [if_pos c] at h
      have := cont_le xs _ a h
      omega
    · rw [if_neg c] at h
      cases h
theorem cont_snoc : ∀ (l : List Er) (f a : Int) (x : Er), cont f l = some a → cont f (l ++ [x]) = if x.f0.f0 = a ∧ a ≤ x.f0.f1 ∧ rightB x.f1 = true then some (x.f0.f1 + 1) else none
  | [], f, a, x, h => by
    obtain rfl := Option.some.inj h
    rfl
  | y :: ys, f, a, x, h => by
    unfold cont at h
    by_cases c : y.f0.f0 = f ∧ f ≤ y.f0.f1 ∧ rightB y.f1 = true
    · rw [if_pos c] at h
      rw [List.cons_append]
      unfold cont
      rw [if_pos c]
      exact cont_snoc ys _ a x h
    · rw [if_neg c] at h
      cases h
theorem cont_init : ∀ (l : List Er) (f a : Int) (x : Er), cont f (l ++ [x]) = some a → ∃ b, cont f l = some b ∧ x.f0.f0 = b ∧ b ≤ x.f0.f1 ∧ rightB x.f1 = true ∧ a = x.f0.f1 + 1
  | [], f, a, x, h => by
    simp only [List.nil_append, cont] at h
    by_cases c : x.f0.f0 = f ∧ f ≤ x.f0.f1 ∧ rightB x.f1 = true
    · rw [if_pos c] at h
      exact ⟨f, rfl, c.1, c.2.1, c.2.2, (Option.some.inj h).symm⟩
    · rw [if_neg c] at h
      cases h
  | y :: ys, f, a, x, h => by
    rw [List.cons_append] at h
    unfold cont at h
    by_cases c : y.f0.f0 = f ∧ f ≤ y.f0.f1 ∧ rightB y.f1 = true
    · rw [if_pos c] at h
      obtain ⟨b, h1, h2⟩ := cont_init ys _ a x h
      refine ⟨b, ?_, h2⟩
      unfold cont
      rw [if_pos c]
      exact h1
    · rw [if_neg c] at h
      cases h
theorem val_snoc (t : Int) : ∀ (l : List Er) (f a : Int) (x : Er), cont f l = some a → f ≤ t → val t (l ++ [x]) = if t < a then val t l else if t ≤ x.f0.f1 then x.f1 else ⟨0, 0⟩
  | [], f, a, x, h, hf => by
    obtain rfl := Option.some.inj h
    rw [if_neg (by omega)]
    rfl
  | y :: ys, f, a, x, h, hf => by
    unfold cont at h
    by_cases c : y.f0.f0 = f ∧ f ≤ y.f0.f1 ∧ rightB y.f1 = true
    · rw [if_pos c] at h
      have hle := cont_le _ _ _ h
      rw [List.cons_append]
      simp only [val]
      by_cases ct : t ≤ y.f0.f1
      · rw [if_pos ct, if_pos (by omega), if_pos ct]
      · rw [if_neg ct, if_neg ct]
        exact val_snoc t ys _ a x h (by omega)
    · rw [if_neg c] at h
      cases h
theorem alt_snoc : ∀ (l : List Er) (p : Option Vd) (x : Er), alt p (l ++ [x]) ↔ alt p l ∧ (∀ v, (l.getLast?.map (·.f1)).or p = some v → ¬ sameV x.f1 v)
  | [], none, x => by simp [alt]
  | [], some v, x => by simp [alt]
  | y :: ys, p, x => by
    have ih := alt_snoc ys (some y.f1) x
    have e : (((y :: ys).getLast?).map (·.f1)).or p = ((ys.getLast?).map (·.f1)).or (some y.f1) := by
      cases ys with
      | nil => simp
      | cons z zs => rw [List.getLast?_cons_cons]; cases h : (z :: zs).getLast? with
        | none => simp at h
        | some u => simp
    rw [e, List.cons_append]
    cases p with
    | none => simp only [alt]; exact ih
    | some v => simp only [alt]; rw [ih, and_assoc]
structure LineOk (w0 w1 : Int) (l : List Er) : Prop where
  win : winP w0 w1
  ne : l ≠ []
  len : l.length ≤ 1024
  cont : cont w0 l = some (w1 + 1)
  alt : alt none l
def afterE : Option Er → Int → Prop
  | none, _ => True
  | some q, f => f = q.f0.f1 + 1
theorem chk_iff (w1 : Int) : ∀ (l : List Er) (p : Option Er), chkB w1 p l = true ↔
    (l = [] ∨ ∃ x xs a, l = x :: xs ∧ afterE p x.f0.f0 ∧ cont x.f0.f0 l = some a ∧ alt (p.map (·.f1)) l ∧ a ≤ w1 + 1)
  | [], p => by simp [chkB]
  | x :: xs, p => by
    have ih := chk_iff w1 xs (some x)
    have e1 : cont x.f0.f0 (x :: xs) = if x.f0.f0 ≤ x.f0.f1 ∧ rightB x.f1 = true then cont (x.f0.f1 + 1) xs else none := by
      show (if x.f0.f0 = x.f0.f0 ∧ x.f0.f0 ≤ x.f0.f1 ∧ rightB x.f1 = true then cont (x.f0.f1 + 1) xs else none) = _
      simp
    simp only [chkB, Bool.and_eq_true, ih]
    constructor
    · rintro ⟨hs, hr⟩
      right
      unfold stepB at hs
      simp only [Bool.and_eq_true, decide_eq_true_eq] at hs
      obtain ⟨⟨⟨h1, h2⟩, h3⟩, h4⟩ := hs
      have hp : afterE p x.f0.f0 ∧ ∀ v, p.map (·.f1) = some v → ¬ sameV x.f1 v := by
        cases p with
        | none => exact ⟨trivial, fun v hv => by cases hv⟩
        | some q =>
          simp only [Bool.and_eq_true, decide_eq_true_eq, Bool.not_eq_true', Bool.and_eq_false_iff, beq_eq_false_iff_ne] at h4
          refine ⟨show x.f0.f0 = q.f0.f1 + 1 by omega, fun v hv => ?_⟩
          obtain rfl : q.f1 = v := Option.some.inj hv
          rintro ⟨g1, g2⟩
          rcases h4.2 with h | h
          · exact h g1
          · exact h g2
      have halt : ∀ ys, alt (some x.f1) ys → alt (p.map (·.f1)) (x :: ys) := fun ys hy => by
        cases hpm : p.map (·.f1) with
        | none => exact hy
        | some v => exact ⟨hp.2 v hpm, hy⟩
      rcases hr with rfl | ⟨y, ys, a, rfl, hy1, hy2, hy3, hy4⟩
      · exact ⟨x, [], x.f0.f1 + 1, rfl, hp.1, by rw [e1, if_pos ⟨h2, h1⟩]; rfl, halt _ trivial, by omega⟩
      · have hy1' : y.f0.f0 = x.f0.f1 + 1 := hy1
        exact ⟨x, y :: ys, a, rfl, hp.1, by rw [e1, if_pos ⟨h2, h1⟩, ← hy1']; exact hy2, halt _ hy3, hy4⟩
    · rintro (h | ⟨x', xs', a, h, hp, hc, ha, hle⟩)
      · cases h
      · obtain ⟨rfl, rfl⟩ := List.cons.inj h
        rw [e1] at hc
        by_cases c : x.f0.f0 ≤ x.f0.f1 ∧ rightB x.f1 = true
        case neg => rw [if_neg c] at hc; cases hc
        rw [if_pos c] at hc
        have h5 := cont_le _ _ _ hc
        have hsp : ∀ q, p = some q → x.f0.f0 - 1 = q.f0.f1 ∧ ¬ sameV x.f1 q.f1 := fun q hq => by
          subst hq
          have h6 : x.f0.f0 = q.f0.f1 + 1 := hp
          exact ⟨by omega, ha.1⟩
        have haxs : alt (some x.f1) xs := by
          cases p with
          | none => exact ha
          | some q => exact ha.2
        constructor
        · unfold stepB
          rw [c.2, decide_eq_true c.1, decide_eq_true (show x.f0.f1 ≤ w1 by omega)]
          cases p with
          | none => rfl
          | some q =>
            obtain ⟨h7, h8⟩ := hsp q rfl
            simp only [decide_eq_true h7, Bool.true_and, Bool.and_true, Bool.not_eq_true', Bool.and_eq_false_iff, beq_eq_false_iff_ne]
            by_cases g : x.f1.f0 = q.f1.f0
            · exact .inr (fun g2 => h8 ⟨g, g2⟩)
            · exact .inl g
        · cases xs with
          | nil => exact .inl rfl
          | cons y ys =>
            right
            have hy : y.f0.f0 = x.f0.f1 + 1 := by
              unfold cont at hc
              by_cases d : y.f0.f0 = x.f0.f1 + 1 ∧ x.f0.f1 + 1 ≤ y.f0.f1 ∧ rightB y.f1 = true
              · exact d.1
              · rw [if_neg d] at hc; cases hc
            exact ⟨y, ys, a, rfl, hy, by rw [hy]; exact hc, haxs, hle⟩
theorem cont_last : ∀ (l : List Er) (f a : Int) (x : Er), cont f l = some a → l.getLast? = some x → a = x.f0.f1 + 1 := by
  intro l f a x h hx
  obtain ⟨l', rfl⟩ := List.getLast?_eq_some_iff.1 hx
  obtain ⟨b, _, _, _, _, e⟩ := cont_init l' f a x h
  exact e
theorem rd_last (l : List Er) (h : l ≠ []) : l.getLast? = some (rd_T52 l ((l.length - 1 : Nat) : Int)) := by
  have hl : l.length - 1 < l.length := by have := List.length_pos_iff.2 h; omega
  rw [List.getLast?_eq_getElem?, List.getElem?_eq_getElem hl]
  simp [rd_T52, List.getD_eq_getElem?_getD, hl]
theorem line_iff (w0 w1 : Int) (l : List Er) : lineB w0 w1 l = true ↔ LineOk w0 w1 l := by
  unfold lineB
  simp only [Bool.and_eq_true, decide_eq_true_eq]
  constructor
  · rintro ⟨⟨⟨⟨⟨h1, h2⟩, h3⟩, h4⟩, h5⟩, h6⟩
    have hne : l ≠ [] := fun e => by subst e; cases h2
    rcases (chk_iff w1 l none).1 h6 with h | ⟨x, xs, a, rfl, _, hc, ha, _⟩
    · exact absurd h hne
    · have e4 : x.f0.f0 = w0 := h4
      rw [e4] at hc
      have := cont_last _ _ _ _ hc (rd_last _ hne)
      rw [h5] at this
      subst this
      exact ⟨h1, hne, h3, hc, ha⟩
  · rintro ⟨h1, h2, h3, h4, h5⟩
    have hlast := cont_last _ _ _ _ h4 (rd_last _ h2)
    have hlen := List.length_pos_iff.2 h2
    cases l with
    | nil => exact absurd rfl h2
    | cons x xs =>
      have e4 : x.f0.f0 = w0 := by
        unfold cont at h4
        by_cases d : x.f0.f0 = w0 ∧ w0 ≤ x.f0.f1 ∧ rightB x.f1 = true
        · exact d.1
        · rw [if_neg d] at h4; cases h4
      refine ⟨⟨⟨⟨⟨h1, hlen⟩, h3⟩, e4⟩, by omega⟩, (chk_iff w1 _ none).2 (.inr ⟨x, xs, w1 + 1, rfl, trivial, ?_, h5, Int.le_refl _⟩)⟩
      rw [e4]
      exact h4
theorem snoc_of {α : Type} {l : List α} (h : l ≠ []) : ∃ i x, l = i ++ [x] := ⟨l.dropLast, l.getLast h, (List.dropLast_concat_getLast h).symm⟩
theorem put_ok' (O O' : List Er) (w0 a z : Int) (v : Vd) (h : (∃ i l, O = i ++ [l] ∧ sameV l.f1 v ∧ O' = i ++ [⟨⟨l.f0.f0, z⟩, l.f1⟩]) ∨ ((∀ u, O.getLast?.map (·.f1) = some u → ¬ sameV v u) ∧ O' = O ++ [⟨⟨a, z⟩, v⟩]))
    (hc : cont w0 O = some a) (ha : alt none O) (hz : a ≤ z) (hv : rightB v = true) :
    cont w0 O' = some (z + 1) ∧ alt none O' ∧ O' ≠ [] ∧ ∀ t, w0 ≤ t → t ≤ z → val t O' = if t < a then val t O else v := by
  rcases h with ⟨i, l, e1, e2, e3⟩ | ⟨e1, e2⟩
  · rw [e3]
    rw [e1] at hc ha ⊢
    obtain ⟨b, h1, h2, h3, h4, h5⟩ := cont_init _ _ _ _ hc
    obtain ⟨g1, g2⟩ := (alt_snoc i none l).1 ha
    refine ⟨?_, (alt_snoc i none _).2 ⟨g1, g2⟩, by simp, fun t ht0 ht => ?_⟩
    · rw [cont_snoc _ _ _ _ h1, if_pos ⟨h2, show b ≤ z by omega, h4⟩]
    · rw [val_snoc t _ _ _ _ h1 ht0, val_snoc t _ _ _ _ h1 ht0]
      show (if t < b then val t i else if t ≤ z then l.f1 else ⟨0, 0⟩) = _
      by_cases c1 : t < a
      · rw [if_pos c1]
        by_cases c2 : t < b
        · rw [if_pos c2, if_pos c2]
        · rw [if_neg c2, if_neg c2, if_pos ht, if_pos (by omega)]
      · rw [if_neg c1, if_neg (by omega), if_pos ht]
        exact sameV_eq e2
  · rw [e2]
    refine ⟨?_, (alt_snoc _ none _).2 ⟨ha, fun u hu => e1 u (by simpa using hu)⟩, by simp, fun t ht0 ht => ?_⟩
    · rw [cont_snoc _ _ _ _ hc]
      exact if_pos ⟨rfl, hz, hv⟩
    · rw [val_snoc t _ _ _ _ hc ht0]
      by_cases c1 : t < a
      · rw [if_pos c1, if_pos c1]
      · rw [if_neg c1, if_neg c1]
        exact if_pos ht
theorem cont_bnd : ∀ (l : List Er) (f a : Int), cont f l = some a → ∀ x ∈ l, f ≤ x.f0.f0 ∧ x.f0.f0 ≤ x.f0.f1 ∧ x.f0.f1 < a
  | [], f, a, h, x, hx => by cases hx
  | y :: ys, f, a, h, x, hx => by
    unfold cont at h
    by_cases c : y.f0.f0 = f ∧ f ≤ y.f0.f1 ∧ rightB y.f1 = true
    · rw [if_pos c] at h
      have hle := cont_le _ _ _ h
      rcases List.mem_cons.1 hx with rfl | hx
      · omega
      · have := cont_bnd ys _ a h x hx
        omega
    · rw [if_neg c] at h; cases h
theorem idx_val (t : Int) : ∀ (l : List Er) (i : Nat), (∃ x ∈ l, t ≤ x.f0.f1) → ∃ n x, idxFrom t i l = ((i + n : Nat) : Int) ∧ l[n]? = some x ∧ x.f1 = val t l
  | [], i, h => by obtain ⟨x, hx, _⟩ := h; cases hx
  | y :: ys, i, h => by
    by_cases c : t ≤ y.f0.f1
    · exact ⟨0, y, by simp only [idxFrom, if_pos c, Nat.add_zero], rfl, by simp only [val, if_pos c]⟩
    · obtain ⟨x, hx, hxt⟩ := h
      have hx' : ∃ x ∈ ys, t ≤ x.f0.f1 := by
        rcases List.mem_cons.1 hx with rfl | hx
        · exact absurd hxt c
        · exact ⟨x, hx, hxt⟩
      obtain ⟨n, z, h1, h2, h3⟩ := idx_val t ys (i + 1) hx'
      exact ⟨n + 1, z, by simp only [idxFrom, if_neg c]; rw [h1]; omega, by simpa using h2, by simp only [val, if_neg c]; exact h3⟩
def atV (w0 w1 : Int) (l : List Er) (t : Int) : Int × Int × Int := if lineB w0 w1 l = true then (if t < w0 ∨ w1 < t then (0, 0, 1) else ((val t l).f0, (val t l).f1, 0)) else (0, 0, 2)
theorem at_ev (w0 w1 : Int) (l : List Er) (hb : ∀ x ∈ l, bndE x) (t : Int) : Ev (fun k => line_At.f k w0 w1 l t) (atV w0 w1 l t) := by
  simp only [line_At.f]
  refine Ev.bind (check_ev l hb w0 w1) ?_
  unfold atV
  by_cases c : lineB w0 w1 l = true
  case neg =>
    rw [if_neg c, Bool.eq_false_iff.2 c]
    exact Ev.pos (by decide) (Ev.const rfl)
  rw [if_pos c, c]
  refine Ev.neg (by decide) ?_
  by_cases d : t < w0 ∨ w1 < t
  · simp only [if_pos d]
    exact Ev.const rfl
  · simp only [if_neg d]
    have hok := (line_iff w0 w1 l).1 c
    have hlast := cont_last _ _ _ _ hok.cont (rd_last _ hok.ne)
    have hmem : rd_T52 l ((l.length - 1 : Nat) : Int) ∈ l := List.mem_of_getLast? (rd_last _ hok.ne)
    obtain ⟨n, x, h1, h2, h3⟩ := idx_val t l 0 ⟨_, hmem, by omega⟩
    rw [h1, Nat.zero_add]
    have e : rd_T52 l ((n : Nat) : Int) = x := by simp [rd_T52, List.getD_eq_getElem?_getD, h2]
    rw [e, h3]
    exact Ev.pos (by omega) (Ev.const rfl)
end Go.Proofs.Ytghklhdooemjdaa.Line
end
