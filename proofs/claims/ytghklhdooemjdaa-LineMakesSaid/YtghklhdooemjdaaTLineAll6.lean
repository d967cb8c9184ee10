/- The three laws of lines. -/
import Derived.Shelf.RegionOpen
import Derived.Outline
import Derived.Test.YtghklhdooemjdaaRows
import Derived.ChangeArms
import Derived.WideShapes
import Derived.SizedLaws
import Derived.Laws.BytesArg
import Derived.Laws.BitsLemmas
import Derived.WalkKit
import Derived.ProofKit
import Derived.OpenShut
import Derived.ShutString
import Derived.ChangeOld
import Derived.Below
import Derived.JoinedCond
import Derived.Test.YtghklhdooemjdaaTLineAll5
section
namespace Go.Proofs.Ytghklhdooemjdaa.Q
open Go.RowKit Go.Proofs.YtghklhdooemjdaaW.PrintWords Go.Proofs.YtghklhdooemjdaaW.PrintLast Go.Proofs.YtghklhdooemjdaaW.PrintMore
attribute [local go_sem] max2_int min2_int max_two min_two max_three min_three max_four min_four   -- for this text's walks alone
set_option linter.unusedVariables false
set_option linter.unusedSimpArgs false
attribute [local go_sem high] eqA35
set_option maxHeartbeats 8000000 in
set_option maxRecDepth 100000 in
theorem spoorlaw20_LineTells.calls (k : Nat) (a0_0 : Int) (a0_1 : Int) (A1 : Option Addr) (c1 : Nat) (l1 : List (S46)) (a2 : Int) (r : Bool) (w : World) (hr1 : Kd.C k46 w A1 l1.length l1) (hc1 : l1.length ≤ c1) (h : spoorlaw20_LineTells.f k a0_0 a0_1 l1 a2 = some r) :
  Calls Try.prog 5 #[.agg #[.int .i64 a0_0, .int .i64 a0_1], .slice A1 l1.length c1, .int .i64 a2] w fun e w' => e = .returned (.bool r) ∧ Below w.heap.size w w' := by
 have hu23 := Try.underlying23
 have hu35 := Try.underlying35
 have hu46 := Try.underlying46
 have HR1 := Ax hr1
 have HC1 := Ax hc1
 clear hr1 hc1
 have HB := Ax (Below.refl w.heap.size w)
 have H : ((spoorlaw20_lives.f k).bind fun t253 => (if t253 = true then ((line_Make.f k a0_0 a0_1 l1).bind fun bt254 => (if bt254.2 = 0 then ((line_At.f k a0_0 a0_1 bt254.1 a2).bind fun bt258 => ((line_Check.f k a0_0 a0_1 bt254.1).bind fun t262 => (if t262 = 0 then (if a0_0 ≤ a2 then (spoorlaw20_LineTells.j0 k l1 a2 bt258.2.2 ((bt258.2.2 == 0) != (decide (a2 ≤ a0_1))) bt258.1 bt258.2.1) else (spoorlaw20_LineTells.j0 k l1 a2 bt258.2.2 ((bt258.2.2 == 0) != false) bt258.1 bt258.2.1)) else (spoorlaw20_LineTells.j0 k l1 a2 bt258.2.2 true bt258.1 bt258.2.1)))) else (some ((bt254.1.length : Int) == 0)))) else (none))) = some r := h
 clear h
 replace H := Option.bind_eq_some_iff.mp H
 obtain ⟨t253, A40, H⟩ := H
 replace H : (if t253 = true then ((line_Make.f k a0_0 a0_1 l1).bind fun bt254 => (if bt254.2 = 0 then ((line_At.f k a0_0 a0_1 bt254.1 a2).bind fun bt258 => ((line_Check.f k a0_0 a0_1 bt254.1).bind fun t262 => (if t262 = 0 then (if a0_0 ≤ a2 then (spoorlaw20_LineTells.j0 k l1 a2 bt258.2.2 ((bt258.2.2 == 0) != (decide (a2 ≤ a0_1))) bt258.1 bt258.2.1) else (spoorlaw20_LineTells.j0 k l1 a2 bt258.2.2 ((bt258.2.2 == 0) != false) bt258.1 bt258.2.1)) else (spoorlaw20_LineTells.j0 k l1 a2 bt258.2.2 true bt258.1 bt258.2.1)))) else (some ((bt254.1.length : Int) == 0)))) else (none)) = some r := H
 have A4 := Ax A40
 clear A40
 by_cases c5 : t253 = true
 ·subst c5
  have H1 : ((line_Make.f k a0_0 a0_1 l1).bind fun bt254 => (if bt254.2 = 0 then ((line_At.f k a0_0 a0_1 bt254.1 a2).bind fun bt258 => ((line_Check.f k a0_0 a0_1 bt254.1).bind fun t262 => (if t262 = 0 then (if a0_0 ≤ a2 then (spoorlaw20_LineTells.j0 k l1 a2 bt258.2.2 ((bt258.2.2 == 0) != (decide (a2 ≤ a0_1))) bt258.1 bt258.2.1) else (spoorlaw20_LineTells.j0 k l1 a2 bt258.2.2 ((bt258.2.2 == 0) != false) bt258.1 bt258.2.1)) else (spoorlaw20_LineTells.j0 k l1 a2 bt258.2.2 true bt258.1 bt258.2.1)))) else (some ((bt254.1.length : Int) == 0)))) = some r := by rw [if_pos rfl] at H; exact H
  clear H
  have H := H1
  clear H1
  replace H := Option.bind_eq_some_iff.mp H
  obtain ⟨⟨t254, t257⟩, A60, H⟩ := H
  replace H : (if t257 = 0 then ((line_At.f k a0_0 a0_1 t254 a2).bind fun bt258 => ((line_Check.f k a0_0 a0_1 t254).bind fun t262 => (if t262 = 0 then (if a0_0 ≤ a2 then (spoorlaw20_LineTells.j0 k l1 a2 bt258.2.2 ((bt258.2.2 == 0) != (decide (a2 ≤ a0_1))) bt258.1 bt258.2.1) else (spoorlaw20_LineTells.j0 k l1 a2 bt258.2.2 ((bt258.2.2 == 0) != false) bt258.1 bt258.2.1)) else (spoorlaw20_LineTells.j0 k l1 a2 bt258.2.2 true bt258.1 bt258.2.1)))) else (some ((t254.length : Int) == 0))) = some r := H
  have A6 := Ax A60
  clear A60
  by_cases c7 : t257 = 0
  ·rw [if_pos c7] at H
   have c7b0 : (t257 == 0) = true := beq_iff_eq.mpr c7
   have c7b1 : (t257 != 0) = false := bne_eq_false_iff_eq.mpr c7
   clear c7
   replace H := Option.bind_eq_some_iff.mp H
   obtain ⟨⟨t258, t259, t260⟩, A80, H⟩ := H
   replace H : ((line_Check.f k a0_0 a0_1 t254).bind fun t262 => (if t262 = 0 then (if a0_0 ≤ a2 then (spoorlaw20_LineTells.j0 k l1 a2 t260 ((t260 == 0) != (decide (a2 ≤ a0_1))) t258 t259) else (spoorlaw20_LineTells.j0 k l1 a2 t260 ((t260 == 0) != false) t258 t259)) else (spoorlaw20_LineTells.j0 k l1 a2 t260 true t258 t259))) = some r := H
   have A8 := Ax A80
   clear A80
   have HC9 := Ax H
   clear H
   go_enter Try.func5, Try.ntmps5
   go_upto_region 7 with (first | ((with_reducible refine gate_dst (N := 3) rfl ?_); refine box_event ?hg (N := 3) ?hd (cs := #[.int .i64 a0_0, .int .i64 a0_1]) (t := 23) ?hr ?_; (case hd => rfl); (case hg => rfl); (case hr => first | (go_simp; done) | (go_simp; rfl)); intro gb252 hg w10 hbox hb; have n0_ := Bs0 HB hb; have n1_ := Ax (hbox); have n2_ := Gw0 HB hg; have n3_ := Gw0 HB hg; clear HB; have HB := n0_; have BK252 := n1_; have GW252 := n2_; have GE252 := n3_; clear n0_ n1_ n2_ n3_; clear hb hbox hg) | ((with_reducible refine gate_callee (f := 10) rfl ?_); refine goesL_ (some 14) rfl rfl Try.func10 (by kernel_rfl) rfl #[] rfl gS ?_; (with_reducible refine (spoorlaw20_lives.calls k  true _ A4.out).mono ?_); rintro e w11 ⟨rfl, hb⟩; refine ⟨_, rfl, ?_⟩; replace BK252 := Bx0 BK252 hb; replace HB := Bs1 HB hb GE252.out; (try clear hb); obtain ⟨hcz12_0, hcz12_1, hfz12_0, hfz12_1⟩ := cl2 BK252) | ((with_reducible refine gate_callee (f := 8) rfl ?_); refine goesL_ (some 19) rfl rfl Try.func8 (by kernel_rfl) rfl #[.agg #[.int .i64 a0_0, .int .i64 a0_1], .slice A1 l1.length c1] rfl gS ?_; (with_reducible refine (line_Make.calls k a0_0 a0_1 _ _ l1 t254 t257 _ ?side1 ?side2 A6.out).mono ?_); (case side1 => repeat (first | exact (Kd.C_below HR1.out HB.out) | (with_reducible refine Kd.C_alloc ?_ _) | (with_reducible refine Kd.C_drewN ?_ _) | (with_reducible refine Kd.C_drew ?_))); (case side2 => exact HC1.out); rintro e w13 ⟨v255, rfl, ho0, hb⟩; refine ⟨_, rfl, ?_⟩; have HO256 := Ax (Kd.R_lower ho0 (below_size (bw1 HB.out GE252.out))); replace BK252 := Bx0 BK252 hb; replace HB := Bs1 HB hb GE252.out; (try clear hb); (try clear ho0); obtain ⟨hcz14_0, hcz14_1, hfz14_0, hfz14_1⟩ := cl2 BK252; obtain ⟨Ao15, co15, eo15⟩ := Kd.R_slice HO256.out; subst eo15) | ((with_reducible refine gate_callee (f := 14) rfl ?_); refine goesL_ (some 31) rfl rfl Try.func14 (by kernel_rfl) rfl #[.agg #[.int .i64 a0_0, .int .i64 a0_1], .slice Ao15 t254.length co15, .int .i64 a2] rfl gS ?_; (with_reducible refine (line_At.calls k a0_0 a0_1 _ _ t254 a2 t258 t259 t260 _ ?side1 ?side2 A8.out).mono ?_); (case side1 => repeat (first | exact (Kd.R_reads' HO256.out).2.2 | (with_reducible refine Kd.C_alloc ?_ _) | (with_reducible refine Kd.C_drewN ?_ _) | (with_reducible refine Kd.C_drew ?_))); (case side2 => exact (Kd.R_reads' HO256.out).2.1); rintro e w16 ⟨rfl, hb⟩; refine ⟨_, rfl, ?_⟩; have n0_ := Ax (Kd.R_below (by (with_reducible repeat (first | apply Kd.R_alloc | apply Kd.R_drewN | apply Kd.R_drew)); exact HO256.out) hb); have n1_ := Bx0 BK252 hb; have n2_ := Bs1 HB hb GE252.out; clear HO256; clear BK252; clear HB; have HO256 := n0_; have BK252 := n1_; have HB := n2_; clear n0_ n1_ n2_; (try clear hb)) | ((with_reducible refine gate_dst (N := 9) rfl ?_); refine box_event ?hg (N := 9) ?hd (cs := #[.int .u8 0, .int .i64 0]) (t := 35) ?hr ?_; (case hd => rfl); (case hg => rfl); (case hr => first | (go_simp; done) | (go_simp; rfl)); intro gb261 hg w17 hbox hb; have n0_ := Ax (Kd.R_below (by (with_reducible repeat (first | apply Kd.R_alloc | apply Kd.R_drewN | apply Kd.R_drew)); exact HO256.out) hb); have n1_ := Bx0 BK252 hb; have n2_ := Bs1 HB hb GE252.out; have n3_ := Ax (hbox); have n4_ := Gw1 HB hg GE252.out; have n5_ := Gw1 HB hg GE252.out; have n6_ := Nl0 BK252 hg; have n7_ := Nr0 BK252 hg; clear HO256; clear BK252; clear HB; have HO256 := n0_; have BK252 := n1_; have HB := n2_; have BK261 := n3_; have GW261 := n4_; have GE261 := n5_; have NB252_261 := n6_; have NB261_252 := n7_; clear n0_ n1_ n2_ n3_ n4_ n5_ n6_ n7_; clear hb hbox hg; have hnb18 := NB261_252.out; have hnc18 := NB252_261.out; obtain ⟨hcz19_0, hcz19_1, hfz19_0, hfz19_1⟩ := cl2 BK261))
   (try simp only [Act.put, List.setIfInBounds_toArray, List.set_cons_zero, List.set_cons_succ])
   go_cut [52] (fun v52 wc => ∃ (kq : Nat) (x52_8 : Bool), v52 = .bool x52_8 ∧ Aside0 (spoorlaw20_LineTells.j0 kq l1 a2 t260 x52_8 t258 t259 = some r) ∧ Aside0 (kq ≤ k) ∧ Aside0 (wc.heap[gb252]? = some (.cells #[.int .i64 a0_0, .int .i64 a0_1] 23 (0, 0))) ∧ Aside0 (wc.heap[gb261]? = some (.cells #[.int .u8 t258, .int .i64 t259] 35 (0, 0))) ∧ Aside0 (Below w.heap.size w wc))
   case first =>
    have H := HC9.out
    clear HC9
    replace H := Option.bind_eq_some_iff.mp H
    obtain ⟨t262, A200, H⟩ := H
    replace H : (if t262 = 0 then (if a0_0 ≤ a2 then (spoorlaw20_LineTells.j0 k l1 a2 t260 ((t260 == 0) != (decide (a2 ≤ a0_1))) t258 t259) else (spoorlaw20_LineTells.j0 k l1 a2 t260 ((t260 == 0) != false) t258 t259)) else (spoorlaw20_LineTells.j0 k l1 a2 t260 true t258 t259)) = some r := H
    have A20 := Ax A200
    clear A200
    by_cases c21 : t262 = 0
    ·rw [if_pos c21] at H
     have c21b0 : (t262 == 0) = true := beq_iff_eq.mpr c21
     have c21b1 : (t262 != 0) = false := bne_eq_false_iff_eq.mpr c21
     clear c21
     (first | rw [c21b0] | (simp only [i64_w, i32_w]; rw [c21b0]) | skip)
     by_cases c22 : a0_0 ≤ a2
     ·rw [if_pos c22] at H
      have c22b0 : decide (a0_0 ≤ a2) = true := decide_eq_true c22
      clear c22
      have H' := Ax H
      clear H
      have hnb23 := NB252_261.out
      have hnc23 := NB261_252.out
      obtain ⟨hcz24_0, hcz24_1, hfz24_0, hfz24_1⟩ := cl2 BK252
      go_wp2_with (first | ((with_reducible refine gate_callee (f := 12) rfl ?_); refine goesL_ (some 36) rfl rfl Try.func12 (by kernel_rfl) rfl #[.agg #[.int .i64 a0_0, .int .i64 a0_1], .slice Ao15 t254.length co15] rfl gS ?_; (with_reducible refine (line_Check.calls k a0_0 a0_1 _ _ t254 t262 _ ?side1 ?side2 A20.out).mono ?_); (case side1 => refine (Kd.R_reads' (e := 52) (base := w.heap.size) (ok := fun k_ => True) (n := t254.length) (c := co15) ?_).2.2; exact (by (with_reducible repeat (first | apply Kd.R_alloc | apply Kd.R_drewN | apply Kd.R_drew)); exact (Kd.R_mono (Kd.R_far (p := ⟨gb261, 1, none⟩) (Kd.R_far (p := ⟨gb261, 0, none⟩) (Kd.R_types HO256.out BK261.out (by decide)) (fun _ hk => hk.2) (.int .u8 t258)) (fun _ hk => hk.2) (.int .i64 t259)) (fun _ h_ => h_.1)))); (case side2 => exact (Kd.R_reads' HO256.out).2.1); rintro e w25 ⟨rfl, hb⟩; refine ⟨_, rfl, ?_⟩; have n0_ := Ax (Kd.R_below (by (with_reducible repeat (first | apply Kd.R_alloc | apply Kd.R_drewN | apply Kd.R_drew)); exact (Kd.R_mono (Kd.R_far (p := ⟨gb261, 1, none⟩) (Kd.R_far (p := ⟨gb261, 0, none⟩) (Kd.R_types HO256.out BK261.out (by decide)) (fun _ hk => hk.2) (.int .u8 t258)) (fun _ hk => hk.2) (.int .i64 t259)) (fun _ h_ => h_.1))) hb); have n1_ := Bx2 BK252 hb NB252_261.out NB252_261.out; have n2_ := Ax (blk_below (g := gb261) (o := .cells #[.int .u8 t258, .int .i64 t259] 35 (0, 0)) (by (with_reducible repeat (first | refine blk_drewN ?_ _ | refine blk_drew ?_ | refine blk_alloc ?_ _)); refine blk_put (cs := #[.int .u8 t258, .int .i64 0]) ?_ 1 _ rfl; (with_reducible repeat (first | refine blk_drewN ?_ _ | refine blk_drew ?_ | refine blk_alloc ?_ _)); refine blk_put (cs := #[.int .u8 0, .int .i64 0]) ?_ 0 _ rfl; (with_reducible repeat (first | refine blk_drewN ?_ _ | refine blk_drew ?_ | refine blk_alloc ?_ _)); exact BK261.out) hb); have n3_ := Bs2 HB hb GE252.out GE261.out; clear HO256; clear BK252; clear BK261; clear HB; have HO256 := n0_; have BK252 := n1_; have BK261 := n2_; have HB := n3_; clear n0_ n1_ n2_ n3_; (try clear hb); obtain ⟨hcz26_0, hcz26_1, hfz26_0, hfz26_1⟩ := cl2 BK252))
      go_meet
      case rel => exact ⟨_, (((t260 == 0) != (decide (a2 ≤ a0_1)))), rS, H', ⟨by first | omega | exact Nat.le_refl _⟩, ⟨bf0 BK252.out⟩, ⟨bf0 BK261.out⟩, ⟨bw2 HB.out GE252.out GE261.out⟩⟩
     ·rw [if_neg c22] at H
      have c22b0 : decide (a0_0 ≤ a2) = false := decide_eq_false c22
      clear c22
      have H' := Ax H
      clear H
      have hnb27 := NB252_261.out
      have hnc27 := NB261_252.out
      obtain ⟨hcz28_0, hcz28_1, hfz28_0, hfz28_1⟩ := cl2 BK252
      go_wp2_with (first | ((with_reducible refine gate_callee (f := 12) rfl ?_); refine goesL_ (some 36) rfl rfl Try.func12 (by kernel_rfl) rfl #[.agg #[.int .i64 a0_0, .int .i64 a0_1], .slice Ao15 t254.length co15] rfl gS ?_; (with_reducible refine (line_Check.calls k a0_0 a0_1 _ _ t254 t262 _ ?side1 ?side2 A20.out).mono ?_); (case side1 => refine (Kd.R_reads' (e := 52) (base := w.heap.size) (ok := fun k_ => True) (n := t254.length) (c := co15) ?_).2.2; exact (by (with_reducible repeat (first | apply Kd.R_alloc | apply Kd.R_drewN | apply Kd.R_drew)); exact (Kd.R_mono (Kd.R_far (p := ⟨gb261, 1, none⟩) (Kd.R_far (p := ⟨gb261, 0, none⟩) (Kd.R_types HO256.out BK261.out (by decide)) (fun _ hk => hk.2) (.int .u8 t258)) (fun _ hk => hk.2) (.int .i64 t259)) (fun _ h_ => h_.1)))); (case side2 => exact (Kd.R_reads' HO256.out).2.1); rintro e w29 ⟨rfl, hb⟩; refine ⟨_, rfl, ?_⟩; have n0_ := Ax (Kd.R_below (by (with_reducible repeat (first | apply Kd.R_alloc | apply Kd.R_drewN | apply Kd.R_drew)); exact (Kd.R_mono (Kd.R_far (p := ⟨gb261, 1, none⟩) (Kd.R_far (p := ⟨gb261, 0, none⟩) (Kd.R_types HO256.out BK261.out (by decide)) (fun _ hk => hk.2) (.int .u8 t258)) (fun _ hk => hk.2) (.int .i64 t259)) (fun _ h_ => h_.1))) hb); have n1_ := Bx2 BK252 hb NB252_261.out NB252_261.out; have n2_ := Ax (blk_below (g := gb261) (o := .cells #[.int .u8 t258, .int .i64 t259] 35 (0, 0)) (by (with_reducible repeat (first | refine blk_drewN ?_ _ | refine blk_drew ?_ | refine blk_alloc ?_ _)); refine blk_put (cs := #[.int .u8 t258, .int .i64 0]) ?_ 1 _ rfl; (with_reducible repeat (first | refine blk_drewN ?_ _ | refine blk_drew ?_ | refine blk_alloc ?_ _)); refine blk_put (cs := #[.int .u8 0, .int .i64 0]) ?_ 0 _ rfl; (with_reducible repeat (first | refine blk_drewN ?_ _ | refine blk_drew ?_ | refine blk_alloc ?_ _)); exact BK261.out) hb); have n3_ := Bs2 HB hb GE252.out GE261.out; clear HO256; clear BK252; clear BK261; clear HB; have HO256 := n0_; have BK252 := n1_; have BK261 := n2_; have HB := n3_; clear n0_ n1_ n2_ n3_; (try clear hb); obtain ⟨hcz30_0, hcz30_1, hfz30_0, hfz30_1⟩ := cl2 BK252))
      go_meet
      case rel => exact ⟨_, (((t260 == 0) != false)), rS, H', ⟨by first | omega | exact Nat.le_refl _⟩, ⟨bf0 BK252.out⟩, ⟨bf0 BK261.out⟩, ⟨bw2 HB.out GE252.out GE261.out⟩⟩
    ·rw [if_neg c21] at H
     have c21b0 : (t262 == 0) = false := beq_eq_false_iff_ne.mpr c21
     have c21b1 : (t262 != 0) = true := bne_iff_ne.mpr c21
     (first | rw [c21b0] | (simp only [i64_w, i32_w]; rw [c21b0]) | skip)
     have H' := Ax H
     clear H
     have hnb31 := NB252_261.out
     have hnc31 := NB261_252.out
     obtain ⟨hcz32_0, hcz32_1, hfz32_0, hfz32_1⟩ := cl2 BK252
     go_wp2_with (first | ((with_reducible refine gate_callee (f := 12) rfl ?_); refine goesL_ (some 36) rfl rfl Try.func12 (by kernel_rfl) rfl #[.agg #[.int .i64 a0_0, .int .i64 a0_1], .slice Ao15 t254.length co15] rfl gS ?_; (with_reducible refine (line_Check.calls k a0_0 a0_1 _ _ t254 t262 _ ?side1 ?side2 A20.out).mono ?_); (case side1 => refine (Kd.R_reads' (e := 52) (base := w.heap.size) (ok := fun k_ => True) (n := t254.length) (c := co15) ?_).2.2; exact (by (with_reducible repeat (first | apply Kd.R_alloc | apply Kd.R_drewN | apply Kd.R_drew)); exact (Kd.R_mono (Kd.R_far (p := ⟨gb261, 1, none⟩) (Kd.R_far (p := ⟨gb261, 0, none⟩) (Kd.R_types HO256.out BK261.out (by decide)) (fun _ hk => hk.2) (.int .u8 t258)) (fun _ hk => hk.2) (.int .i64 t259)) (fun _ h_ => h_.1)))); (case side2 => exact (Kd.R_reads' HO256.out).2.1); rintro e w33 ⟨rfl, hb⟩; refine ⟨_, rfl, ?_⟩; have n0_ := Ax (Kd.R_below (by (with_reducible repeat (first | apply Kd.R_alloc | apply Kd.R_drewN | apply Kd.R_drew)); exact (Kd.R_mono (Kd.R_far (p := ⟨gb261, 1, none⟩) (Kd.R_far (p := ⟨gb261, 0, none⟩) (Kd.R_types HO256.out BK261.out (by decide)) (fun _ hk => hk.2) (.int .u8 t258)) (fun _ hk => hk.2) (.int .i64 t259)) (fun _ h_ => h_.1))) hb); have n1_ := Bx2 BK252 hb NB252_261.out NB252_261.out; have n2_ := Ax (blk_below (g := gb261) (o := .cells #[.int .u8 t258, .int .i64 t259] 35 (0, 0)) (by (with_reducible repeat (first | refine blk_drewN ?_ _ | refine blk_drew ?_ | refine blk_alloc ?_ _)); refine blk_put (cs := #[.int .u8 t258, .int .i64 0]) ?_ 1 _ rfl; (with_reducible repeat (first | refine blk_drewN ?_ _ | refine blk_drew ?_ | refine blk_alloc ?_ _)); refine blk_put (cs := #[.int .u8 0, .int .i64 0]) ?_ 0 _ rfl; (with_reducible repeat (first | refine blk_drewN ?_ _ | refine blk_drew ?_ | refine blk_alloc ?_ _)); exact BK261.out) hb); have n3_ := Bs2 HB hb GE252.out GE261.out; clear HO256; clear BK252; clear BK261; clear HB; have HO256 := n0_; have BK252 := n1_; have BK261 := n2_; have HB := n3_; clear n0_ n1_ n2_ n3_; (try clear hb)))
     go_meet
     case rel => exact ⟨_, (true), rS, H', ⟨by first | omega | exact Nat.le_refl _⟩, ⟨bf0 BK252.out⟩, ⟨bf0 BK261.out⟩, ⟨bw2 HB.out GE252.out GE261.out⟩⟩
   case rest =>
    clear HC9
    try clear c1
    try clear c2
    try clear p2
    try clear c3
    try clear c5
    try clear c7
    try clear c7b0
    try clear c7b1
    try clear c8
    try clear c10
    try clear c12
    try clear c14
    try clear c18
    try clear c21
    try clear c21b0
    try clear c21b1
    try clear c22
    try clear c22b0
    try clear c23
    try clear c27
    try clear c31
    try clear hcz12_0
    try clear hcz12_1
    try clear hcz14_0
    try clear hcz14_1
    try clear hcz19_0
    try clear hcz19_1
    try clear hcz24_0
    try clear hcz24_1
    try clear hcz26_0
    try clear hcz26_1
    try clear hcz28_0
    try clear hcz28_1
    try clear hcz30_0
    try clear hcz30_1
    try clear hcz32_0
    try clear hcz32_1
    try clear hfz12_0
    try clear hfz12_1
    try clear hfz14_0
    try clear hfz14_1
    try clear hfz19_0
    try clear hfz19_1
    try clear hfz24_0
    try clear hfz24_1
    try clear hfz26_0
    try clear hfz26_1
    try clear hfz28_0
    try clear hfz28_1
    try clear hfz30_0
    try clear hfz30_1
    try clear hfz32_0
    try clear hfz32_1
    obtain ⟨kq, x52_8, rfl, HA, HJ8, BK252, BK261, HB⟩ := hcut
    cases kq with
    | zero => exact absurd HA.out (by simp [spoorlaw20_LineTells.j0])
    | succ kj8 =>
     have H := HA.out
     clear HA
     simp only [spoorlaw20_LineTells.j0] at H
     by_cases c34 : x52_8 = true
     ·subst c34
      have H1 : (none) = some r := by rw [if_pos rfl] at H; exact H
      clear H
      have H := H1
      clear H1
      exact absurd H (by simp)
     ·replace c34 := Bool.eq_false_iff.mpr c34
      subst c34
      have H1 : (spoorlaw20_LineTells.l0 kj8 a2 t260 l1 (l1.length : Int) 0 t258 t259 0 0) = some r := by rw [if_neg (show ¬ (false = true) by decide)] at H; exact H
      clear H
      have H := H1
      clear H1
      have H' := Ax H
      clear H
      go_wp2_with (first | ((with_reducible refine gate_dst (N := 11) rfl ?_); refine box_event ?hg (N := 11) ?hd (cs := #[.int .u8 0, .int .i64 0]) (t := 35) ?hr ?_; (case hd => rfl); (case hg => rfl); (case hr => first | (go_simp; done) | (go_simp; rfl)); intro gb263 hg w35 hbox hb; have n0_ := Bx0 BK252 hb; have n1_ := Bx0 BK261 hb; have n2_ := Bs2 HB hb GE252.out GE261.out; have n3_ := Ax (hbox); have n4_ := Gw2 HB hg GE252.out GE261.out; have n5_ := Gw2 HB hg GE252.out GE261.out; have n6_ := Nl0 BK252 hg; have n7_ := Nr0 BK252 hg; have n8_ := Nl0 BK261 hg; have n9_ := Nr0 BK261 hg; clear BK252; clear BK261; clear HB; have BK252 := n0_; have BK261 := n1_; have HB := n2_; have BK263 := n3_; have GW263 := n4_; have GE263 := n5_; have NB252_263 := n6_; have NB263_252 := n7_; have NB261_263 := n8_; have NB263_261 := n9_; clear n0_ n1_ n2_ n3_ n4_ n5_ n6_ n7_ n8_ n9_; clear hb hbox hg; have hnb36 := NB263_252.out; have hnc36 := NB252_263.out; have hnb37 := NB263_261.out; have hnc37 := NB261_263.out; obtain ⟨hcz38_0, hcz38_1, hfz38_0, hfz38_1⟩ := cl2 BK263))
      go_loopg [56] kj8 (fun kq v56 w' => ∃ (x56_2 : Int) (x264000_2 : Int) (x264001_2 : Int), v56 = .int .i64 x56_2 ∧ Aside0 (spoorlaw20_LineTells.l0 kq a2 t260 l1 (l1.length : Int) x56_2 t258 t259 x264000_2 x264001_2 = some r) ∧ Aside0 (kq ≤ kj8) ∧ Aside0 (w'.heap[gb252]? = some (.cells #[.int .i64 a0_0, .int .i64 a0_1] 23 (0, 0))) ∧ Aside0 (w'.heap[gb261]? = some (.cells #[.int .u8 t258, .int .i64 t259] 35 (0, 0))) ∧ Aside0 (w'.heap[gb263]? = some (.cells #[.int .u8 x264000_2, .int .i64 x264001_2] 35 (0, 0))) ∧ Aside0 (Below w.heap.size w w'))
      case atStart => exact ⟨(0), (0), (0), rS, H', ⟨Nat.le_refl _⟩, ⟨bf2 BK252.out NB252_263.out NB252_263.out⟩, ⟨bf2 BK261.out NB261_263.out NB261_263.out⟩, ⟨by (with_reducible repeat (first | refine blk_drewN ?_ _ | refine blk_drew ?_ | refine blk_alloc ?_ _)); refine blk_put (cs := #[.int .u8 0, .int .i64 0]) ?_ 1 _ rfl; (with_reducible repeat (first | refine blk_drewN ?_ _ | refine blk_drew ?_ | refine blk_alloc ?_ _)); refine blk_put (cs := #[.int .u8 0, .int .i64 0]) ?_ 0 _ rfl; (with_reducible repeat (first | refine blk_drewN ?_ _ | refine blk_drew ?_ | refine blk_alloc ?_ _)); exact BK263.out⟩, ⟨bw3 HB.out GE252.out GE261.out GE263.out⟩⟩
      case round =>
       clear H'
       try clear c1
       try clear c2
       try clear p2
       try clear c3
       try clear c5
       try clear c7
       try clear c7b0
       try clear c7b1
       try clear c8
       try clear c10
       try clear c12
       try clear c14
       try clear c18
       try clear c21
       try clear c21b0
       try clear c21b1
       try clear c22
       try clear c22b0
       try clear c23
       try clear c27
       try clear c31
       try clear c34
       try clear c36
       try clear c37
       try clear hcz12_0
       try clear hcz12_1
       try clear hcz14_0
       try clear hcz14_1
       try clear hcz19_0
       try clear hcz19_1
       try clear hcz24_0
       try clear hcz24_1
       try clear hcz26_0
       try clear hcz26_1
       try clear hcz28_0
       try clear hcz28_1
       try clear hcz30_0
       try clear hcz30_1
       try clear hcz32_0
       try clear hcz32_1
       try clear hcz38_0
       try clear hcz38_1
       try clear hfz12_0
       try clear hfz12_1
       try clear hfz14_0
       try clear hfz14_1
       try clear hfz19_0
       try clear hfz19_1
       try clear hfz24_0
       try clear hfz24_1
       try clear hfz26_0
       try clear hfz26_1
       try clear hfz28_0
       try clear hfz28_1
       try clear hfz30_0
       try clear hfz30_1
       try clear hfz32_0
       try clear hfz32_1
       try clear hfz38_0
       try clear hfz38_1
       try clear p2
       obtain ⟨x56_2, x264000_2, x264001_2, rfl, HA, HK2, BK252, BK261, BK263, HB⟩ := hrel
       cases gk with
       | zero => exact absurd HA.out (by simp [spoorlaw20_LineTells.l0])
       | succ k2 =>
        have H := HA.out
        clear HA
        simp only [spoorlaw20_LineTells.l0] at H
        by_cases c39 : x56_2 < (l1.length : Int)
        ·rw [if_pos c39] at H
         have c39b0 : decide (x56_2 < (l1.length : Int)) = true := decide_eq_true c39
         clear c39
         by_cases c40 : 0 ≤ x56_2
         ·rw [if_pos c40] at H
          have c40b0 : decide (0 ≤ x56_2) = true := decide_eq_true c40
          clear c40
          by_cases c41 : x56_2 < (l1.length : Int)
          ·rw [if_pos c41] at H
           have c41b0 : decide (x56_2 < (l1.length : Int)) = true := decide_eq_true c41
           clear c41
           by_cases c42 : ((rd_T46 l1 x56_2).f0) ≤ a2
           ·rw [if_pos c42] at H
            have c42b0 : decide (((rd_T46 l1 x56_2).f0) ≤ a2) = true := decide_eq_true c42
            clear c42
            have H' := Ax H
            clear H
            have p264 : 0 ≤ (x56_2 : Int) := of_decide_eq_true (by first | (with_reducible assumption) | assumption)
            have q264 : x56_2 < (l1.length : Int) := of_decide_eq_true (by first | (with_reducible assumption) | assumption)
            obtain ⟨ad264, e264, hx264_0, hx264_1, hx264_2⟩ := at_T46 HR1.out x56_2 p264 q264
            cases e264
            replace hx264_0 := (HB.out.cell (World.block_lt_of_cell? w _ hx264_0)).trans hx264_0
            replace hx264_1 := (HB.out.cell (World.block_lt_of_cell? w _ hx264_1)).trans hx264_1
            replace hx264_2 := (HB.out.cell (World.block_lt_of_cell? w _ hx264_2)).trans hx264_2
            replace p264 := eq_true p264
            replace q264 := eq_true q264
            go_wp2_with (first | ((with_reducible refine gate_dst (N := 13) rfl ?_); refine box_event ?hg (N := 13) ?hd (cs := #[.int .i64 0, .int .u8 0, .int .i64 0]) (t := 46) ?hr ?_; (case hd => rfl); (case hg => rfl); (case hr => first | (go_simp; done) | (go_simp; rfl)); intro gb265 hg w43 hbox hb; have n0_ := Bx0 BK252 hb; have n1_ := Bx0 BK261 hb; have n2_ := Bx0 BK263 hb; have n3_ := Bs3 HB hb GE252.out GE261.out GE263.out; have n4_ := Ax (hbox); have n5_ := Gw3 HB hg GE252.out GE261.out GE263.out; have n6_ := Gw3 HB hg GE252.out GE261.out GE263.out; have n7_ := Nl0 BK252 hg; have n8_ := Nr0 BK252 hg; have n9_ := Nl0 BK261 hg; have n10_ := Nr0 BK261 hg; have n11_ := Nl0 BK263 hg; have n12_ := Nr0 BK263 hg; clear BK252; clear BK261; clear BK263; clear HB; have BK252 := n0_; have BK261 := n1_; have BK263 := n2_; have HB := n3_; have BK265 := n4_; have GW265 := n5_; have GE265 := n6_; have NB252_265 := n7_; have NB265_252 := n8_; have NB261_265 := n9_; have NB265_261 := n10_; have NB263_265 := n11_; have NB265_263 := n12_; clear n0_ n1_ n2_ n3_ n4_ n5_ n6_ n7_ n8_ n9_ n10_ n11_ n12_; clear hb hbox hg; have hnb44 := NB265_252.out; have hnc44 := NB252_265.out; have hnb45 := NB265_261.out; have hnc45 := NB261_265.out; have hnb46 := NB265_263.out; have hnc46 := NB263_265.out; obtain ⟨hcz47_0, hcz47_1, hcz47_2, hfz47_0, hfz47_1, hfz47_2⟩ := cl3 BK265; have hnb48 := NB263_252.out; have hnc48 := NB252_263.out; have hnb49 := NB263_261.out; have hnc49 := NB261_263.out; obtain ⟨hcz50_0, hcz50_1, hfz50_0, hfz50_1⟩ := cl2 BK263))
            go_roundg k2
            case measure => have := HJ8.out; have := HK2.out; omega
            case rel => exact ⟨(wrap64 (x56_2 + 1)), ((rd_T46 l1 x56_2).f1.f0), ((rd_T46 l1 x56_2).f1.f1), rS, H', ⟨by have := HJ8.out; have := HK2.out; omega⟩, ⟨bf5 BK252.out NB252_263.out NB252_263.out NB252_265.out NB252_265.out NB252_265.out⟩, ⟨bf5 BK261.out NB261_263.out NB261_263.out NB261_265.out NB261_265.out NB261_265.out⟩, ⟨by (with_reducible repeat (first | refine blk_drewN ?_ _ | refine blk_drew ?_ | refine blk_alloc ?_ _)); refine blk_put (cs := #[.int .u8 ((rd_T46 l1 x56_2).f1.f0), .int .i64 x264001_2]) ?_ 1 _ rfl; (with_reducible repeat (first | refine blk_drewN ?_ _ | refine blk_drew ?_ | refine blk_alloc ?_ _)); refine blk_put (cs := #[.int .u8 x264000_2, .int .i64 x264001_2]) ?_ 0 _ rfl; (with_reducible repeat (first | refine blk_drewN ?_ _ | refine blk_drew ?_ | refine blk_alloc ?_ _)); refine blk_far ?_ NB263_265.out _; (with_reducible repeat (first | refine blk_drewN ?_ _ | refine blk_drew ?_ | refine blk_alloc ?_ _)); refine blk_far ?_ NB263_265.out _; (with_reducible repeat (first | refine blk_drewN ?_ _ | refine blk_drew ?_ | refine blk_alloc ?_ _)); refine blk_far ?_ NB263_265.out _; (with_reducible repeat (first | refine blk_drewN ?_ _ | refine blk_drew ?_ | refine blk_alloc ?_ _)); exact BK263.out⟩, ⟨bw4 HB.out GE252.out GE261.out GE263.out GE265.out⟩⟩
           ·rw [if_neg c42] at H
            have c42b0 : decide (((rd_T46 l1 x56_2).f0) ≤ a2) = false := decide_eq_false c42
            clear c42
            have H' := Ax H
            clear H
            have p264 : 0 ≤ (x56_2 : Int) := of_decide_eq_true (by first | (with_reducible assumption) | assumption)
            have q264 : x56_2 < (l1.length : Int) := of_decide_eq_true (by first | (with_reducible assumption) | assumption)
            obtain ⟨ad264, e264, hx264_0, hx264_1, hx264_2⟩ := at_T46 HR1.out x56_2 p264 q264
            cases e264
            replace hx264_0 := (HB.out.cell (World.block_lt_of_cell? w _ hx264_0)).trans hx264_0
            replace hx264_1 := (HB.out.cell (World.block_lt_of_cell? w _ hx264_1)).trans hx264_1
            replace hx264_2 := (HB.out.cell (World.block_lt_of_cell? w _ hx264_2)).trans hx264_2
            replace p264 := eq_true p264
            replace q264 := eq_true q264
            go_wp2_with (first | ((with_reducible refine gate_dst (N := 13) rfl ?_); refine box_event ?hg (N := 13) ?hd (cs := #[.int .i64 0, .int .u8 0, .int .i64 0]) (t := 46) ?hr ?_; (case hd => rfl); (case hg => rfl); (case hr => first | (go_simp; done) | (go_simp; rfl)); intro gb265 hg w51 hbox hb; have n0_ := Bx0 BK252 hb; have n1_ := Bx0 BK261 hb; have n2_ := Bx0 BK263 hb; have n3_ := Bs3 HB hb GE252.out GE261.out GE263.out; have n4_ := Ax (hbox); have n5_ := Gw3 HB hg GE252.out GE261.out GE263.out; have n6_ := Gw3 HB hg GE252.out GE261.out GE263.out; have n7_ := Nl0 BK252 hg; have n8_ := Nr0 BK252 hg; have n9_ := Nl0 BK261 hg; have n10_ := Nr0 BK261 hg; have n11_ := Nl0 BK263 hg; have n12_ := Nr0 BK263 hg; clear BK252; clear BK261; clear BK263; clear HB; have BK252 := n0_; have BK261 := n1_; have BK263 := n2_; have HB := n3_; have BK265 := n4_; have GW265 := n5_; have GE265 := n6_; have NB252_265 := n7_; have NB265_252 := n8_; have NB261_265 := n9_; have NB265_261 := n10_; have NB263_265 := n11_; have NB265_263 := n12_; clear n0_ n1_ n2_ n3_ n4_ n5_ n6_ n7_ n8_ n9_ n10_ n11_ n12_; clear hb hbox hg; have hnb52 := NB265_252.out; have hnc52 := NB252_265.out; have hnb53 := NB265_261.out; have hnc53 := NB261_265.out; have hnb54 := NB265_263.out; have hnc54 := NB263_265.out; obtain ⟨hcz55_0, hcz55_1, hcz55_2, hfz55_0, hfz55_1, hfz55_2⟩ := cl3 BK265))
            go_roundg k2
            case measure => have := HJ8.out; have := HK2.out; omega
            case rel => exact ⟨(wrap64 (x56_2 + 1)), (x264000_2), (x264001_2), rS, H', ⟨by have := HJ8.out; have := HK2.out; omega⟩, ⟨bf3 BK252.out NB252_265.out NB252_265.out NB252_265.out⟩, ⟨bf3 BK261.out NB261_265.out NB261_265.out NB261_265.out⟩, ⟨bf3 BK263.out NB263_265.out NB263_265.out NB263_265.out⟩, ⟨bw4 HB.out GE252.out GE261.out GE263.out GE265.out⟩⟩
          ·rw [if_neg c41] at H
           exact absurd H (by simp)
         ·rw [if_neg c40] at H
          exact absurd H (by simp)
        ·rw [if_neg c39] at H
         have c39b0 : decide (x56_2 < (l1.length : Int)) = false := decide_eq_false c39
         clear c39
         by_cases c56 : t260 = 0
         ·rw [if_pos c56] at H
          have c56b0 : (t260 == 0) = true := beq_iff_eq.mpr c56
          have c56b1 : (t260 != 0) = false := bne_eq_false_iff_eq.mpr c56
          clear c56
          obtain rfl := Option.some.inj H
          have hnb57 := NB261_252.out
          have hnc57 := NB252_261.out
          have hnb58 := NB261_263.out
          have hnc58 := NB263_261.out
          obtain ⟨hcz59_0, hcz59_1, hfz59_0, hfz59_1⟩ := cl2 BK261
          have hnb60 := NB263_252.out
          have hnc60 := NB252_263.out
          obtain ⟨hcz61_0, hcz61_1, hfz61_0, hfz61_1⟩ := cl2 BK263
          go_wp2
          go_ret
          exact ⟨eS, bw3 HB.out GE252.out GE261.out GE263.out⟩
         ·rw [if_neg c56] at H
          have c56b0 : (t260 == 0) = false := beq_eq_false_iff_ne.mpr c56
          have c56b1 : (t260 != 0) = true := bne_iff_ne.mpr c56
          obtain rfl := Option.some.inj H
          go_wp2
          go_ret
          exact ⟨eS, bw3 HB.out GE252.out GE261.out GE263.out⟩
  ·rw [if_neg c7] at H
   have c7b0 : (t257 == 0) = false := beq_eq_false_iff_ne.mpr c7
   have c7b1 : (t257 != 0) = true := bne_iff_ne.mpr c7
   obtain rfl := Option.some.inj H
   go_enter Try.func5, Try.ntmps5
   go_wp2_with (first | ((with_reducible refine gate_dst (N := 3) rfl ?_); refine box_event ?hg (N := 3) ?hd (cs := #[.int .i64 a0_0, .int .i64 a0_1]) (t := 23) ?hr ?_; (case hd => rfl); (case hg => rfl); (case hr => first | (go_simp; done) | (go_simp; rfl)); intro gb252 hg w62 hbox hb; have n0_ := Bs0 HB hb; have n1_ := Ax (hbox); have n2_ := Gw0 HB hg; have n3_ := Gw0 HB hg; clear HB; have HB := n0_; have BK252 := n1_; have GW252 := n2_; have GE252 := n3_; clear n0_ n1_ n2_ n3_; clear hb hbox hg) | ((with_reducible refine gate_callee (f := 10) rfl ?_); refine goesL_ (some 14) rfl rfl Try.func10 (by kernel_rfl) rfl #[] rfl gS ?_; (with_reducible refine (spoorlaw20_lives.calls k  true _ A4.out).mono ?_); rintro e w63 ⟨rfl, hb⟩; refine ⟨_, rfl, ?_⟩; replace BK252 := Bx0 BK252 hb; replace HB := Bs1 HB hb GE252.out; (try clear hb); obtain ⟨hcz64_0, hcz64_1, hfz64_0, hfz64_1⟩ := cl2 BK252) | ((with_reducible refine gate_callee (f := 8) rfl ?_); refine goesL_ (some 19) rfl rfl Try.func8 (by kernel_rfl) rfl #[.agg #[.int .i64 a0_0, .int .i64 a0_1], .slice A1 l1.length c1] rfl gS ?_; (with_reducible refine (line_Make.calls k a0_0 a0_1 _ _ l1 t254 t257 _ ?side1 ?side2 A6.out).mono ?_); (case side1 => repeat (first | exact (Kd.C_below HR1.out HB.out) | (with_reducible refine Kd.C_alloc ?_ _) | (with_reducible refine Kd.C_drewN ?_ _) | (with_reducible refine Kd.C_drew ?_))); (case side2 => exact HC1.out); rintro e w65 ⟨v255, rfl, ho0, hb⟩; refine ⟨_, rfl, ?_⟩; have HO256 := Ax (Kd.R_lower ho0 (below_size (bw1 HB.out GE252.out))); replace BK252 := Bx0 BK252 hb; replace HB := Bs1 HB hb GE252.out; (try clear hb); (try clear ho0); obtain ⟨Ao66, co66, eo66⟩ := Kd.R_slice HO256.out; subst eo66))
   go_ret
   exact ⟨eS, bw1 HB.out GE252.out⟩
 ·replace c5 := Bool.eq_false_iff.mpr c5
  subst c5
  have H1 : (none) = some r := by rw [if_neg (show ¬ (false = true) by decide)] at H; exact H
  clear H
  have H := H1
  clear H1
  exact absurd H (by simp)
def inI (t : Int) (x : S23) : Bool := if x.f0 ≤ t then decide (t ≤ x.f1) else false
theorem has1_is (B : Nat) (t : Int) (x : S23) (w : World) (hB : w.heap[B]? = some (.cells #[.int .i64 t] 2 (0, 0))) :
    Calls Try.prog 41 #[.agg #[.int .i64 x.f0, .int .i64 x.f1], .pointer (some ⟨B, 0, none⟩)] w fun e w' => e = .returned (.bool (inI t x)) ∧ Below w.heap.size w w' := by
  have hc : (w.alloc (.cells #[.int .i64 x.f0, .int .i64 x.f1] 23)).cell? ⟨B, 0, none⟩ = some (.int .i64 t) := (blk_cell (blk_alloc hB _) 0).trans rfl
  unfold inI
  by_cases c : x.f0 ≤ t
  · rw [if_pos c]
    have d : decide (x.f0 ≤ t) = true := decide_eq_true c
    clear c
    go_enter Try.func41, Try.ntmps41
    go_wp2
    go_ret
    exact ⟨rfl, below_alloc (Below.refl _ _) _⟩
  · rw [if_neg c]
    have d : decide (x.f0 ≤ t) = false := decide_eq_false c
    clear c
    go_enter Try.func41, Try.ntmps41
    go_wp2
    go_ret
    exact ⟨rfl, below_alloc (Below.refl _ _) _⟩
def hasFrom (t : Int) : Nat → List S23 → Int
  | _, [] => -1
  | i, x :: xs => if inI t x = true then (i : Int) else hasFrom t (i + 1) xs
set_option maxRecDepth 100000 in
set_option maxHeartbeats 4000000 in
theorem has_idx (B : Nat) (t : Int) (A0 : Option Addr) (c0 : Nat) (l0 : List S23) (r : Int) (h : hasFrom t 0 l0 = r) (w : World) (hB : w.heap[B]? = some (.cells #[.int .i64 t] 2 (0, 0))) (hr0 : Kd.C k23 w A0 l0.length l0) (hc0 : l0.length ≤ c0) :
    Calls Try.prog 50 #[.slice A0 l0.length c0, .func (.func 41) #[] #[.pointer (some ⟨B, 0, none⟩)]] w fun e w' => e = .returned (.int .i64 r) ∧ Below w.heap.size w w' := by
  have HR0 := Aside0.mk hr0
  have HM := Aside0.mk (Kd.C_max hr0)
  have H0 := Aside0.mk h
  have HB0 := Aside0.mk hB
  clear hr0 hB h
  go_enter Try.func50, Try.ntmps50
  go_wp2
  go_loopg [8] l0.length (fun kq v8 w' => ∃ (i : Nat), v8 = .int .i64 (i : Int) ∧ Aside0 (i ≤ l0.length ∧ kq = l0.length - i) ∧ Aside0 (hasFrom t i (l0.drop i) = r) ∧ Aside0 (w'.heap[B]? = some (.cells #[.int .i64 t] 2 (0, 0))) ∧ Aside0 (Below w.heap.size w w'))
  case atStart => exact ⟨0, rfl, ⟨Nat.zero_le _, rfl⟩, H0, HB0, ⟨Below.refl _ _⟩⟩
  case round =>
    clear H0 HB0
    obtain ⟨i, rfl, HI, HA, HB, Hb⟩ := hrel
    have hm := HM.out
    by_cases hi : i < l0.length
    · have hd : decide ((i : Int) < (l0.length : Int)) = true := decide_eq_true (by omega)
      have hdn : decide (i < l0.length) = true := decide_eq_true hi
      have hrd : l0.drop i = rd_T23 l0 (i : Int) :: l0.drop (i + 1) := by
        rw [List.drop_eq_getElem_cons hi]
        simp [rd_T23, List.getD_eq_getElem?_getD, hi]
      have ha := HA.out
      rw [hrd] at ha
      have p0 : (0 : Int) ≤ (i : Int) := by omega
      have q0 : (i : Int) < (l0.length : Int) := by omega
      obtain ⟨ad, ead, hx0, hx1⟩ := at_T23 (Kd.C_below HR0.out Hb.out) (i : Int) p0 q0
      cases ead
      simp only [Int.toNat_natCast] at hx0 hx1
      generalize rd_T23 l0 (i : Int) = x at *
      simp only [hasFrom] at ha
      have HII := Aside0.mk hi
      replace p0 := eq_true p0
      replace q0 := eq_true q0
      clear hrd HA
      by_cases c1 : inI t x = true
      · rw [if_pos c1] at ha
        subst ha
        go_wp2_with (go_at_call 41; refine (has1_is B t x _ HB.out).mono ?_; rintro e w5 ⟨rfl, hb5⟩; have Hb5 := Aside0.mk (below_step Hb.out hb5); clear hb5)
        go_ret
        exact ⟨rfl, Hb5.out⟩
      · rw [if_neg c1] at ha
        have d1 : inI t x = false := Bool.eq_false_iff.2 c1
        have HA2 := Aside0.mk ha
        clear ha c1
        go_wp2_with (go_at_call 41; refine (has1_is B t x _ HB.out).mono ?_; rintro e w5 ⟨rfl, hb5⟩; have Hb5 := Aside0.mk (below_step Hb.out hb5); have HB5 := Aside0.mk (blk_below HB.out hb5); clear hb5)
        go_roundg (l0.length - (i + 1))
        case measure => have := HI.out; omega
        case rel => exact ⟨i + 1, by go_num, ⟨by omega, rfl⟩, HA2, HB5, Hb5⟩
    · have hd : decide ((i : Int) < (l0.length : Int)) = false := decide_eq_false (by omega)
      have hdn : decide (i < l0.length) = false := decide_eq_false hi
      have ha := HA.out
      rw [List.drop_eq_nil_of_le (by omega)] at ha
      simp only [hasFrom] at ha
      subst ha
      clear HA
      go_wp2
      go_ret
      exact ⟨rfl, Hb.out⟩
set_option maxRecDepth 100000 in
theorem has_in (B : Nat) (t : Int) (A0 : Option Addr) (c0 : Nat) (l0 : List S23) (w : World) (hB : w.heap[B]? = some (.cells #[.int .i64 t] 2 (0, 0))) (hr0 : Kd.C k23 w A0 l0.length l0) (hc0 : l0.length ≤ c0) :
    Calls Try.prog 40 #[.slice A0 l0.length c0, .func (.func 41) #[] #[.pointer (some ⟨B, 0, none⟩)]] w fun e w' => e = .returned (.bool (decide (0 ≤ hasFrom t 0 l0))) ∧ Below w.heap.size w w' := by
  go_enter Try.func40, Try.ntmps40
  have HB := Aside0.mk hB
  have HR := Aside0.mk hr0
  have HC := Aside0.mk hc0
  clear hB hr0 hc0
  obtain ⟨r, hr⟩ : ∃ r, hasFrom t 0 l0 = r := ⟨_, rfl⟩
  rw [hr]
  have H := Aside0.mk hr
  clear hr
  go_wp2_with (go_at_call 50; refine (has_idx B t A0 c0 l0 r H.out _ HB.out HR.out HC.out).mono ?_; rintro e w5 ⟨rfl, hb5⟩; have Hb5 := Aside0.mk hb5; clear hb5)
  go_ret
  exact ⟨rfl, Hb5.out⟩
def ivl_Has.f (k : Nat) (l0 : List (S23)) (a1 : Int) : Option (Bool × Int) := (ivl_Check.f k l0).bind fun y => if y ≠ 0 then some (false, y) else some (decide (0 ≤ hasFrom a1 0 l0), 0)
set_option maxRecDepth 100000 in
set_option maxHeartbeats 4000000 in
theorem ivl_Has.calls (k : Nat) (A0 : Option Addr) (c0 : Nat) (l0 : List (S23)) (a1 : Int) (r1 : Bool) (r2 : Int) (w : World) (hr0 : Kd.C k23 w A0 l0.length l0) (hc0 : l0.length ≤ c0) (h : ivl_Has.f k l0 a1 = some (r1, r2)) :
    Calls Try.prog 23 #[.slice A0 l0.length c0, .int .i64 a1] w fun e w' => e = .returned (.tuple #[.bool r1, .int .i64 r2]) ∧ Below w.heap.size w w' := by
  obtain ⟨y, hy, h⟩ := Option.bind_eq_some_iff.mp h
  have HY := Aside0.mk hy
  have HC0 := Aside0.mk hc0
  have HB := Aside0.mk (below_alloc (Below.refl w.heap.size w) (.cells #[.int .i64 a1] 2))
  have HR := Aside0.mk (Kd.C_below hr0 HB.out)
  have BK := Aside0.mk (heap_alloc_new w (.cells #[.int .i64 a1] 2))
  clear hy hr0 hc0
  go_enter Try.func23, Try.ntmps23
  by_cases cy : y ≠ 0
  · rw [if_pos cy] at h
    obtain ⟨e1, e2⟩ := Prod.mk.inj (Option.some.inj h)
    subst e1
    subst e2
    have d0 : (y != 0) = true := bne_iff_ne.mpr cy
    clear cy h
    go_wp2_with (go_at_call 39; refine (ivl_Check.calls k A0 c0 l0 _ _ HR.out HC0.out HY.out).mono ?_; rintro e w5 ⟨rfl, hb5⟩; have HB5 := Aside0.mk (below_step HB.out hb5); clear hb5)
    go_ret2
    exact ⟨rfl, HB5.out⟩
  · have cy0 : y = 0 := Decidable.not_not.mp cy
    subst cy0
    rw [if_neg cy] at h
    obtain ⟨e1, e2⟩ := Prod.mk.inj (Option.some.inj h)
    subst e1
    subst e2
    have d0 : ((0 : Int) != 0) = false := rfl
    clear cy h
    go_wp2_with (first
      | (go_at_call 39; refine (ivl_Check.calls k A0 c0 l0 _ _ HR.out HC0.out HY.out).mono ?_; rintro e w5 ⟨rfl, hb5⟩; have HB5 := Aside0.mk (below_step HB.out hb5); have BK5 := Aside0.mk (blk_below BK.out hb5); have HR5 := Aside0.mk (Kd.C_below HR.out hb5); clear hb5)
      | (go_at_call 40; refine (has_in w.heap.size a1 A0 c0 l0 _ BK5.out HR5.out HC0.out).mono ?_; rintro e w6 ⟨rfl, hb6⟩; have HB6 := Aside0.mk (below_step HB5.out hb6); clear hb6))
    go_ret2
    exact ⟨rfl, HB6.out⟩
def spoorlaw20_LineCut.j0 : Nat → List (S52) → List (S52) → Int → Int → Int → Int → Int → Int → Option (Bool)
 | 0, _, _, _, _, _, _, _, _ => none
 | k + 1, x1, x2, x4, x12, x267000, x267001, x274000, x274001 => (line_At.f k x267000 x267001 x2 x4).bind fun bt283 => ((line_Differ.f k x267000 x267001 x1 x2).bind fun bt287 => ((ivl_Has.f k bt287.1 x4).bind fun bt291 => ((line_Check.f k x267000 x267001 x2).bind fun t293 => (if t293 = 0 then (if bt287.2 = 11 then (if (wrap64 ((x1.length : Int) + (x2.length : Int))) > 1024 then (some true) else (if bt287.2 = 0 then (if bt291.2 = 0 then (if x12 = 0 then (if bt283.2.2 = 0 then (some (bt291.1 == (!(bt283.1 == x274000) || (!(bt283.2.1 == x274001))))) else (some (bt291.1 == false))) else (some (bt291.1 == false))) else (none)) else (none))) else (if bt287.2 = 0 then (if bt291.2 = 0 then (if x12 = 0 then (if bt283.2.2 = 0 then (some (bt291.1 == (!(bt283.1 == x274000) || (!(bt283.2.1 == x274001))))) else (some (bt291.1 == false))) else (some (bt291.1 == false))) else (none)) else (none))) else (some (bt287.2 == 2))))))
def spoorlaw20_LineCut.f (k : Nat) (a0_0 : Int) (a0_1 : Int) (l1 : List (S52)) (l2 : List (S52)) (a3_0 : Int) (a3_1 : Int) (a4 : Int) : Option (Bool) := (spoorlaw20_lives.f k).bind fun t268 => (if t268 = true then ((line_Check.f k a0_0 a0_1 l1).bind fun t269 => (if t269 = 0 then ((line_At.f k a0_0 a0_1 l1 a4).bind fun bt270 => ((line_Cut.f k a0_0 a0_1 l1 a3_0 a3_1).bind fun bt274 => (if bt274.2 = 0 then ((line_At.f k a3_0 a3_1 bt274.1 a4).bind fun bt278 => ((line_Check.f k a3_0 a3_1 bt274.1).bind fun t282 => (if t282 = 0 then (if bt278.2.2 = 0 then (if (!(bt278.1 == bt270.1) || (!(bt278.2.1 == bt270.2.1))) = true then (none) else (spoorlaw20_LineCut.j0 k l1 l2 a4 bt270.2.2 a0_0 a0_1 bt270.1 bt270.2.1)) else (if a3_0 ≤ a4 then (if a4 ≤ a3_1 then (none) else (spoorlaw20_LineCut.j0 k l1 l2 a4 bt270.2.2 a0_0 a0_1 bt270.1 bt270.2.1)) else (spoorlaw20_LineCut.j0 k l1 l2 a4 bt270.2.2 a0_0 a0_1 bt270.1 bt270.2.1))) else (none)))) else (spoorlaw20_LineCut.j0 k l1 l2 a4 bt270.2.2 a0_0 a0_1 bt270.1 bt270.2.1)))) else (some true))) else (none))
set_option maxHeartbeats 8000000 in
set_option maxRecDepth 100000 in
theorem spoorlaw20_LineCut.calls (k : Nat) (a0_0 : Int) (a0_1 : Int) (A1 : Option Addr) (c1 : Nat) (l1 : List (S52)) (A2 : Option Addr) (c2 : Nat) (l2 : List (S52)) (a3_0 : Int) (a3_1 : Int) (a4 : Int) (r : Bool) (w : World) (hr1 : Kd.C k52 w A1 l1.length l1) (hc1 : l1.length ≤ c1) (hr2 : Kd.C k52 w A2 l2.length l2) (hc2 : l2.length ≤ c2) (h : spoorlaw20_LineCut.f k a0_0 a0_1 l1 l2 a3_0 a3_1 a4 = some r) :
  Calls Try.prog 6 #[.agg #[.int .i64 a0_0, .int .i64 a0_1], .slice A1 l1.length c1, .slice A2 l2.length c2, .agg #[.int .i64 a3_0, .int .i64 a3_1], .int .i64 a4] w fun e w' => e = .returned (.bool r) ∧ Below w.heap.size w w' := by
 have hu23 := Try.underlying23
 have hu35 := Try.underlying35
 have HR1 := Ax hr1
 have HC1 := Ax hc1
 clear hr1 hc1
 have HR2 := Ax hr2
 have HC2 := Ax hc2
 clear hr2 hc2
 have HB := Ax (Below.refl w.heap.size w)
 have H : ((spoorlaw20_lives.f k).bind fun t268 => (if t268 = true then ((line_Check.f k a0_0 a0_1 l1).bind fun t269 => (if t269 = 0 then ((line_At.f k a0_0 a0_1 l1 a4).bind fun bt270 => ((line_Cut.f k a0_0 a0_1 l1 a3_0 a3_1).bind fun bt274 => (if bt274.2 = 0 then ((line_At.f k a3_0 a3_1 bt274.1 a4).bind fun bt278 => ((line_Check.f k a3_0 a3_1 bt274.1).bind fun t282 => (if t282 = 0 then (if bt278.2.2 = 0 then (if (!(bt278.1 == bt270.1) || (!(bt278.2.1 == bt270.2.1))) = true then (none) else (spoorlaw20_LineCut.j0 k l1 l2 a4 bt270.2.2 a0_0 a0_1 bt270.1 bt270.2.1)) else (if a3_0 ≤ a4 then (if a4 ≤ a3_1 then (none) else (spoorlaw20_LineCut.j0 k l1 l2 a4 bt270.2.2 a0_0 a0_1 bt270.1 bt270.2.1)) else (spoorlaw20_LineCut.j0 k l1 l2 a4 bt270.2.2 a0_0 a0_1 bt270.1 bt270.2.1))) else (none)))) else (spoorlaw20_LineCut.j0 k l1 l2 a4 bt270.2.2 a0_0 a0_1 bt270.1 bt270.2.1)))) else (some true))) else (none))) = some r := h
 clear h
 replace H := Option.bind_eq_some_iff.mp H
 obtain ⟨t268, A60, H⟩ := H
 replace H : (if t268 = true then ((line_Check.f k a0_0 a0_1 l1).bind fun t269 => (if t269 = 0 then ((line_At.f k a0_0 a0_1 l1 a4).bind fun bt270 => ((line_Cut.f k a0_0 a0_1 l1 a3_0 a3_1).bind fun bt274 => (if bt274.2 = 0 then ((line_At.f k a3_0 a3_1 bt274.1 a4).bind fun bt278 => ((line_Check.f k a3_0 a3_1 bt274.1).bind fun t282 => (if t282 = 0 then (if bt278.2.2 = 0 then (if (!(bt278.1 == bt270.1) || (!(bt278.2.1 == bt270.2.1))) = true then (none) else (spoorlaw20_LineCut.j0 k l1 l2 a4 bt270.2.2 a0_0 a0_1 bt270.1 bt270.2.1)) else (if a3_0 ≤ a4 then (if a4 ≤ a3_1 then (none) else (spoorlaw20_LineCut.j0 k l1 l2 a4 bt270.2.2 a0_0 a0_1 bt270.1 bt270.2.1)) else (spoorlaw20_LineCut.j0 k l1 l2 a4 bt270.2.2 a0_0 a0_1 bt270.1 bt270.2.1))) else (none)))) else (spoorlaw20_LineCut.j0 k l1 l2 a4 bt270.2.2 a0_0 a0_1 bt270.1 bt270.2.1)))) else (some true))) else (none)) = some r := H
 have A6 := Ax A60
 clear A60
 by_cases c7 : t268 = true
 ·subst c7
  have H1 : ((line_Check.f k a0_0 a0_1 l1).bind fun t269 => (if t269 = 0 then ((line_At.f k a0_0 a0_1 l1 a4).bind fun bt270 => ((line_Cut.f k a0_0 a0_1 l1 a3_0 a3_1).bind fun bt274 => (if bt274.2 = 0 then ((line_At.f k a3_0 a3_1 bt274.1 a4).bind fun bt278 => ((line_Check.f k a3_0 a3_1 bt274.1).bind fun t282 => (if t282 = 0 then (if bt278.2.2 = 0 then (if (!(bt278.1 == bt270.1) || (!(bt278.2.1 == bt270.2.1))) = true then (none) else (spoorlaw20_LineCut.j0 k l1 l2 a4 bt270.2.2 a0_0 a0_1 bt270.1 bt270.2.1)) else (if a3_0 ≤ a4 then (if a4 ≤ a3_1 then (none) else (spoorlaw20_LineCut.j0 k l1 l2 a4 bt270.2.2 a0_0 a0_1 bt270.1 bt270.2.1)) else (spoorlaw20_LineCut.j0 k l1 l2 a4 bt270.2.2 a0_0 a0_1 bt270.1 bt270.2.1))) else (none)))) else (spoorlaw20_LineCut.j0 k l1 l2 a4 bt270.2.2 a0_0 a0_1 bt270.1 bt270.2.1)))) else (some true))) = some r := by rw [if_pos rfl] at H; exact H
  clear H
  have H := H1
  clear H1
  replace H := Option.bind_eq_some_iff.mp H
  obtain ⟨t269, A80, H⟩ := H
  replace H : (if t269 = 0 then ((line_At.f k a0_0 a0_1 l1 a4).bind fun bt270 => ((line_Cut.f k a0_0 a0_1 l1 a3_0 a3_1).bind fun bt274 => (if bt274.2 = 0 then ((line_At.f k a3_0 a3_1 bt274.1 a4).bind fun bt278 => ((line_Check.f k a3_0 a3_1 bt274.1).bind fun t282 => (if t282 = 0 then (if bt278.2.2 = 0 then (if (!(bt278.1 == bt270.1) || (!(bt278.2.1 == bt270.2.1))) = true then (none) else (spoorlaw20_LineCut.j0 k l1 l2 a4 bt270.2.2 a0_0 a0_1 bt270.1 bt270.2.1)) else (if a3_0 ≤ a4 then (if a4 ≤ a3_1 then (none) else (spoorlaw20_LineCut.j0 k l1 l2 a4 bt270.2.2 a0_0 a0_1 bt270.1 bt270.2.1)) else (spoorlaw20_LineCut.j0 k l1 l2 a4 bt270.2.2 a0_0 a0_1 bt270.1 bt270.2.1))) else (none)))) else (spoorlaw20_LineCut.j0 k l1 l2 a4 bt270.2.2 a0_0 a0_1 bt270.1 bt270.2.1)))) else (some true)) = some r := H
  have A8 := Ax A80
  clear A80
  by_cases c9 : t269 = 0
  ·rw [if_pos c9] at H
   have c9b0 : (t269 == 0) = true := beq_iff_eq.mpr c9
   have c9b1 : (t269 != 0) = false := bne_eq_false_iff_eq.mpr c9
   clear c9
   replace H := Option.bind_eq_some_iff.mp H
   obtain ⟨⟨t270, t271, t272⟩, A100, H⟩ := H
   replace H : ((line_Cut.f k a0_0 a0_1 l1 a3_0 a3_1).bind fun bt274 => (if bt274.2 = 0 then ((line_At.f k a3_0 a3_1 bt274.1 a4).bind fun bt278 => ((line_Check.f k a3_0 a3_1 bt274.1).bind fun t282 => (if t282 = 0 then (if bt278.2.2 = 0 then (if (!(bt278.1 == t270) || (!(bt278.2.1 == t271))) = true then (none) else (spoorlaw20_LineCut.j0 k l1 l2 a4 t272 a0_0 a0_1 t270 t271)) else (if a3_0 ≤ a4 then (if a4 ≤ a3_1 then (none) else (spoorlaw20_LineCut.j0 k l1 l2 a4 t272 a0_0 a0_1 t270 t271)) else (spoorlaw20_LineCut.j0 k l1 l2 a4 t272 a0_0 a0_1 t270 t271))) else (none)))) else (spoorlaw20_LineCut.j0 k l1 l2 a4 t272 a0_0 a0_1 t270 t271))) = some r := H
   have A10 := Ax A100
   clear A100
   replace H := Option.bind_eq_some_iff.mp H
   obtain ⟨⟨t274, t277⟩, A110, H⟩ := H
   replace H : (if t277 = 0 then ((line_At.f k a3_0 a3_1 t274 a4).bind fun bt278 => ((line_Check.f k a3_0 a3_1 t274).bind fun t282 => (if t282 = 0 then (if bt278.2.2 = 0 then (if (!(bt278.1 == t270) || (!(bt278.2.1 == t271))) = true then (none) else (spoorlaw20_LineCut.j0 k l1 l2 a4 t272 a0_0 a0_1 t270 t271)) else (if a3_0 ≤ a4 then (if a4 ≤ a3_1 then (none) else (spoorlaw20_LineCut.j0 k l1 l2 a4 t272 a0_0 a0_1 t270 t271)) else (spoorlaw20_LineCut.j0 k l1 l2 a4 t272 a0_0 a0_1 t270 t271))) else (none)))) else (spoorlaw20_LineCut.j0 k l1 l2 a4 t272 a0_0 a0_1 t270 t271)) = some r := H
   have A11 := Ax A110
   clear A110
   have HC12 := Ax H
   clear H
   go_enter Try.func6, Try.ntmps6
   go_upto_if 44 with (first | ((with_reducible refine gate_dst (N := 5) rfl ?_); refine box_event ?hg (N := 5) ?hd (cs := #[.int .i64 a0_0, .int .i64 a0_1]) (t := 23) ?hr ?_; (case hd => rfl); (case hg => rfl); (case hr => first | (go_simp; done) | (go_simp; rfl)); intro gb266 hg w13 hbox hb; have n0_ := Bs0 HB hb; have n1_ := Ax (hbox); have n2_ := Gw0 HB hg; have n3_ := Gw0 HB hg; clear HB; have HB := n0_; have BK266 := n1_; have GW266 := n2_; have GE266 := n3_; clear n0_ n1_ n2_ n3_; clear hb hbox hg) | ((with_reducible refine gate_dst (N := 8) rfl ?_); refine box_event ?hg (N := 8) ?hd (cs := #[.int .i64 a3_0, .int .i64 a3_1]) (t := 23) ?hr ?_; (case hd => rfl); (case hg => rfl); (case hr => first | (go_simp; done) | (go_simp; rfl)); intro gb267 hg w14 hbox hb; have n0_ := Bx0 BK266 hb; have n1_ := Bs1 HB hb GE266.out; have n2_ := Ax (hbox); have n3_ := Gw1 HB hg GE266.out; have n4_ := Gw1 HB hg GE266.out; have n5_ := Nl0 BK266 hg; have n6_ := Nr0 BK266 hg; clear BK266; clear HB; have BK266 := n0_; have HB := n1_; have BK267 := n2_; have GW267 := n3_; have GE267 := n4_; have NB266_267 := n5_; have NB267_266 := n6_; clear n0_ n1_ n2_ n3_ n4_ n5_ n6_; clear hb hbox hg) | ((with_reducible refine gate_callee (f := 10) rfl ?_); refine goesL_ (some 23) rfl rfl Try.func10 (by kernel_rfl) rfl #[] rfl gS ?_; (with_reducible refine (spoorlaw20_lives.calls k  true _ A6.out).mono ?_); rintro e w15 ⟨rfl, hb⟩; refine ⟨_, rfl, ?_⟩; replace BK266 := Bx0 BK266 hb; replace BK267 := Bx0 BK267 hb; replace HB := Bs2 HB hb GE266.out GE267.out; (try clear hb); have hnb16 := NB266_267.out; have hnc16 := NB267_266.out; obtain ⟨hcz17_0, hcz17_1, hfz17_0, hfz17_1⟩ := cl2 BK266) | ((with_reducible refine gate_callee (f := 12) rfl ?_); refine goesL_ (some 27) rfl rfl Try.func12 (by kernel_rfl) rfl #[.agg #[.int .i64 a0_0, .int .i64 a0_1], .slice A1 l1.length c1] rfl gS ?_; (with_reducible refine (line_Check.calls k a0_0 a0_1 _ _ l1 t269 _ ?side1 ?side2 A8.out).mono ?_); (case side1 => repeat (first | exact (Kd.C_below HR1.out HB.out) | (with_reducible refine Kd.C_alloc ?_ _) | (with_reducible refine Kd.C_drewN ?_ _) | (with_reducible refine Kd.C_drew ?_))); (case side2 => exact HC1.out); rintro e w18 ⟨rfl, hb⟩; refine ⟨_, rfl, ?_⟩; replace BK266 := Bx0 BK266 hb; replace BK267 := Bx0 BK267 hb; replace HB := Bs2 HB hb GE266.out GE267.out; (try clear hb); obtain ⟨hcz19_0, hcz19_1, hfz19_0, hfz19_1⟩ := cl2 BK266) | ((with_reducible refine gate_callee (f := 14) rfl ?_); refine goesL_ (some 33) rfl rfl Try.func14 (by kernel_rfl) rfl #[.agg #[.int .i64 a0_0, .int .i64 a0_1], .slice A1 l1.length c1, .int .i64 a4] rfl gS ?_; (with_reducible refine (line_At.calls k a0_0 a0_1 _ _ l1 a4 t270 t271 t272 _ ?side1 ?side2 A10.out).mono ?_); (case side1 => repeat (first | exact (Kd.C_below HR1.out HB.out) | (with_reducible refine Kd.C_alloc ?_ _) | (with_reducible refine Kd.C_drewN ?_ _) | (with_reducible refine Kd.C_drew ?_))); (case side2 => exact HC1.out); rintro e w20 ⟨rfl, hb⟩; refine ⟨_, rfl, ?_⟩; replace BK266 := Bx0 BK266 hb; replace BK267 := Bx0 BK267 hb; replace HB := Bs2 HB hb GE266.out GE267.out; (try clear hb)) | ((with_reducible refine gate_dst (N := 11) rfl ?_); refine box_event ?hg (N := 11) ?hd (cs := #[.int .u8 0, .int .i64 0]) (t := 35) ?hr ?_; (case hd => rfl); (case hg => rfl); (case hr => first | (go_simp; done) | (go_simp; rfl)); intro gb273 hg w21 hbox hb; have n0_ := Bx0 BK266 hb; have n1_ := Bx0 BK267 hb; have n2_ := Bs2 HB hb GE266.out GE267.out; have n3_ := Ax (hbox); have n4_ := Gw2 HB hg GE266.out GE267.out; have n5_ := Gw2 HB hg GE266.out GE267.out; have n6_ := Nl0 BK266 hg; have n7_ := Nr0 BK266 hg; have n8_ := Nl0 BK267 hg; have n9_ := Nr0 BK267 hg; clear BK266; clear BK267; clear HB; have BK266 := n0_; have BK267 := n1_; have HB := n2_; have BK273 := n3_; have GW273 := n4_; have GE273 := n5_; have NB266_273 := n6_; have NB273_266 := n7_; have NB267_273 := n8_; have NB273_267 := n9_; clear n0_ n1_ n2_ n3_ n4_ n5_ n6_ n7_ n8_ n9_; clear hb hbox hg; have hnb22 := NB273_266.out; have hnc22 := NB266_273.out; have hnb23 := NB273_267.out; have hnc23 := NB267_273.out; obtain ⟨hcz24_0, hcz24_1, hfz24_0, hfz24_1⟩ := cl2 BK273; obtain ⟨hcz25_0, hcz25_1, hfz25_0, hfz25_1⟩ := cl2 BK266; obtain ⟨hcz26_0, hcz26_1, hfz26_0, hfz26_1⟩ := cl2 BK267) | ((with_reducible refine gate_callee (f := 18) rfl ?_); refine goesL_ (some 40) rfl rfl Try.func18 (by kernel_rfl) rfl #[.agg #[.int .i64 a0_0, .int .i64 a0_1], .slice A1 l1.length c1, .agg #[.int .i64 a3_0, .int .i64 a3_1]] rfl gS ?_; (with_reducible refine (line_Cut.calls k a0_0 a0_1 _ _ l1 a3_0 a3_1 t274 t277 _ ?side1 ?side2 A11.out).mono ?_); (case side1 => exact Kd.C_below HR1.out (bw3 HB.out GE266.out GE267.out GE273.out)); (case side2 => exact HC1.out); rintro e w27 ⟨v275, rfl, ho0, hb⟩; refine ⟨_, rfl, ?_⟩; have n0_ := Ax (Kd.R_lower ho0 (below_size (bw3 HB.out GE266.out GE267.out GE273.out))); have n1_ := Bx2 BK266 hb NB266_273.out NB266_273.out; have n2_ := Bx2 BK267 hb NB267_273.out NB267_273.out; have n3_ := Ax (blk_below (g := gb273) (o := .cells #[.int .u8 t270, .int .i64 t271] 35 (0, 0)) (by (with_reducible repeat (first | refine blk_drewN ?_ _ | refine blk_drew ?_ | refine blk_alloc ?_ _)); refine blk_put (cs := #[.int .u8 t270, .int .i64 0]) ?_ 1 _ rfl; (with_reducible repeat (first | refine blk_drewN ?_ _ | refine blk_drew ?_ | refine blk_alloc ?_ _)); refine blk_put (cs := #[.int .u8 0, .int .i64 0]) ?_ 0 _ rfl; (with_reducible repeat (first | refine blk_drewN ?_ _ | refine blk_drew ?_ | refine blk_alloc ?_ _)); exact BK273.out) hb); have n4_ := Bs3 HB hb GE266.out GE267.out GE273.out; clear BK266; clear BK267; clear BK273; clear HB; have HO276 := n0_; have BK266 := n1_; have BK267 := n2_; have BK273 := n3_; have HB := n4_; clear n0_ n1_ n2_ n3_ n4_; (try clear hb); (try clear ho0)))
   (try simp only [Act.put, List.setIfInBounds_toArray, List.set_cons_zero, List.set_cons_succ])
   go_cut [] (fun wc => ∃ (kq : Nat), Aside0 (spoorlaw20_LineCut.j0 kq l1 l2 a4 t272 a0_0 a0_1 t270 t271 = some r) ∧ Aside0 (kq ≤ k) ∧ Aside0 (wc.heap[gb266]? = some (.cells #[.int .i64 a0_0, .int .i64 a0_1] 23 (0, 0))) ∧ Aside0 (wc.heap[gb267]? = some (.cells #[.int .i64 a3_0, .int .i64 a3_1] 23 (0, 0))) ∧ Aside0 (wc.heap[gb273]? = some (.cells #[.int .u8 t270, .int .i64 t271] 35 (0, 0))) ∧ Aside0 (Below w.heap.size w wc))
   case first =>
    have H := HC12.out
    clear HC12
    by_cases c28 : t277 = 0
    ·rw [if_pos c28] at H
     have c28b0 : (t277 == 0) = true := beq_iff_eq.mpr c28
     have c28b1 : (t277 != 0) = false := bne_eq_false_iff_eq.mpr c28
     clear c28
     (first | rw [c28b0] | (simp only [i64_w, i32_w]; rw [c28b0]) | skip)
     replace H := Option.bind_eq_some_iff.mp H
     obtain ⟨⟨t278, t279, t280⟩, A290, H⟩ := H
     replace H : ((line_Check.f k a3_0 a3_1 t274).bind fun t282 => (if t282 = 0 then (if t280 = 0 then (if (!(t278 == t270) || (!(t279 == t271))) = true then (none) else (spoorlaw20_LineCut.j0 k l1 l2 a4 t272 a0_0 a0_1 t270 t271)) else (if a3_0 ≤ a4 then (if a4 ≤ a3_1 then (none) else (spoorlaw20_LineCut.j0 k l1 l2 a4 t272 a0_0 a0_1 t270 t271)) else (spoorlaw20_LineCut.j0 k l1 l2 a4 t272 a0_0 a0_1 t270 t271))) else (none))) = some r := H
     have A29 := Ax A290
     clear A290
     replace H := Option.bind_eq_some_iff.mp H
     obtain ⟨t282, A300, H⟩ := H
     replace H : (if t282 = 0 then (if t280 = 0 then (if (!(t278 == t270) || (!(t279 == t271))) = true then (none) else (spoorlaw20_LineCut.j0 k l1 l2 a4 t272 a0_0 a0_1 t270 t271)) else (if a3_0 ≤ a4 then (if a4 ≤ a3_1 then (none) else (spoorlaw20_LineCut.j0 k l1 l2 a4 t272 a0_0 a0_1 t270 t271)) else (spoorlaw20_LineCut.j0 k l1 l2 a4 t272 a0_0 a0_1 t270 t271))) else (none)) = some r := H
     have A30 := Ax A300
     clear A300
     by_cases c31 : t282 = 0
     ·rw [if_pos c31] at H
      have c31b0 : (t282 == 0) = true := beq_iff_eq.mpr c31
      have c31b1 : (t282 != 0) = false := bne_eq_false_iff_eq.mpr c31
      clear c31
      by_cases c32 : t280 = 0
      ·rw [if_pos c32] at H
       have c32b0 : (t280 == 0) = true := beq_iff_eq.mpr c32
       have c32b1 : (t280 != 0) = false := bne_eq_false_iff_eq.mpr c32
       clear c32
       by_cases c33 : (!(t278 == t270) || (!(t279 == t271))) = true
       ·rw [if_pos c33] at H
        exact absurd H (by simp)
       ·rw [if_neg c33] at H
        have c33b0 : (!(t278 == t270) || (!(t279 == t271))) = false := by simpa using c33
        clear c33
        have H' := Ax H
        clear H
        have hnb34 := NB267_266.out
        have hnc34 := NB266_267.out
        have hnb35 := NB267_273.out
        have hnc35 := NB273_267.out
        obtain ⟨hcz36_0, hcz36_1, hfz36_0, hfz36_1⟩ := cl2 BK267
        obtain ⟨Ao37, co37, eo37⟩ := Kd.R_slice HO276.out
        subst eo37
        go_wp2_with (first | ((with_reducible refine gate_callee (f := 14) rfl ?_); refine goesL_ (some 49) rfl rfl Try.func14 (by kernel_rfl) rfl #[.agg #[.int .i64 a3_0, .int .i64 a3_1], .slice Ao37 t274.length co37, .int .i64 a4] rfl gS ?_; (with_reducible refine (line_At.calls k a3_0 a3_1 _ _ t274 a4 t278 t279 t280 _ ?side1 ?side2 A29.out).mono ?_); (case side1 => repeat (first | exact (Kd.R_reads' HO276.out).2.2 | (with_reducible refine Kd.C_alloc ?_ _) | (with_reducible refine Kd.C_drewN ?_ _) | (with_reducible refine Kd.C_drew ?_))); (case side2 => exact (Kd.R_reads' HO276.out).2.1); rintro e w38 ⟨rfl, hb⟩; refine ⟨_, rfl, ?_⟩; have n0_ := Ax (Kd.R_below (by (with_reducible repeat (first | apply Kd.R_alloc | apply Kd.R_drewN | apply Kd.R_drew)); exact HO276.out) hb); have n1_ := Bx0 BK266 hb; have n2_ := Bx0 BK267 hb; have n3_ := Bx0 BK273 hb; have n4_ := Bs3 HB hb GE266.out GE267.out GE273.out; clear HO276; clear BK266; clear BK267; clear BK273; clear HB; have HO276 := n0_; have BK266 := n1_; have BK267 := n2_; have BK273 := n3_; have HB := n4_; clear n0_ n1_ n2_ n3_ n4_; (try clear hb)) | ((with_reducible refine gate_dst (N := 15) rfl ?_); refine box_event ?hg (N := 15) ?hd (cs := #[.int .u8 0, .int .i64 0]) (t := 35) ?hr ?_; (case hd => rfl); (case hg => rfl); (case hr => first | (go_simp; done) | (go_simp; rfl)); intro gb281 hg w39 hbox hb; have n0_ := Ax (Kd.R_below (by (with_reducible repeat (first | apply Kd.R_alloc | apply Kd.R_drewN | apply Kd.R_drew)); exact HO276.out) hb); have n1_ := Bx0 BK266 hb; have n2_ := Bx0 BK267 hb; have n3_ := Bx0 BK273 hb; have n4_ := Bs3 HB hb GE266.out GE267.out GE273.out; have n5_ := Ax (hbox); have n6_ := Gw3 HB hg GE266.out GE267.out GE273.out; have n7_ := Gw3 HB hg GE266.out GE267.out GE273.out; have n8_ := Nl0 BK266 hg; have n9_ := Nr0 BK266 hg; have n10_ := Nl0 BK267 hg; have n11_ := Nr0 BK267 hg; have n12_ := Nl0 BK273 hg; have n13_ := Nr0 BK273 hg; clear HO276; clear BK266; clear BK267; clear BK273; clear HB; have HO276 := n0_; have BK266 := n1_; have BK267 := n2_; have BK273 := n3_; have HB := n4_; have BK281 := n5_; have GW281 := n6_; have GE281 := n7_; have NB266_281 := n8_; have NB281_266 := n9_; have NB267_281 := n10_; have NB281_267 := n11_; have NB273_281 := n12_; have NB281_273 := n13_; clear n0_ n1_ n2_ n3_ n4_ n5_ n6_ n7_ n8_ n9_ n10_ n11_ n12_ n13_; clear hb hbox hg; have hnb40 := NB281_266.out; have hnc40 := NB266_281.out; have hnb41 := NB281_267.out; have hnc41 := NB267_281.out; have hnb42 := NB281_273.out; have hnc42 := NB273_281.out; obtain ⟨hcz43_0, hcz43_1, hfz43_0, hfz43_1⟩ := cl2 BK281; obtain ⟨hcz44_0, hcz44_1, hfz44_0, hfz44_1⟩ := cl2 BK267) | ((with_reducible refine gate_callee (f := 12) rfl ?_); refine goesL_ (some 54) rfl rfl Try.func12 (by kernel_rfl) rfl #[.agg #[.int .i64 a3_0, .int .i64 a3_1], .slice Ao37 t274.length co37] rfl gS ?_; (with_reducible refine (line_Check.calls k a3_0 a3_1 _ _ t274 t282 _ ?side1 ?side2 A30.out).mono ?_); (case side1 => refine (Kd.R_reads' (e := 52) (base := w.heap.size) (ok := fun k_ => True) (n := t274.length) (c := co37) ?_).2.2; exact (by (with_reducible repeat (first | apply Kd.R_alloc | apply Kd.R_drewN | apply Kd.R_drew)); exact (Kd.R_mono (Kd.R_far (p := ⟨gb281, 1, none⟩) (Kd.R_far (p := ⟨gb281, 0, none⟩) (Kd.R_types HO276.out BK281.out (by decide)) (fun _ hk => hk.2) (.int .u8 t278)) (fun _ hk => hk.2) (.int .i64 t279)) (fun _ h_ => h_.1)))); (case side2 => exact (Kd.R_reads' HO276.out).2.1); rintro e w45 ⟨rfl, hb⟩; refine ⟨_, rfl, ?_⟩; have n0_ := Ax (Kd.R_below (by (with_reducible repeat (first | apply Kd.R_alloc | apply Kd.R_drewN | apply Kd.R_drew)); exact (Kd.R_mono (Kd.R_far (p := ⟨gb281, 1, none⟩) (Kd.R_far (p := ⟨gb281, 0, none⟩) (Kd.R_types HO276.out BK281.out (by decide)) (fun _ hk => hk.2) (.int .u8 t278)) (fun _ hk => hk.2) (.int .i64 t279)) (fun _ h_ => h_.1))) hb); have n1_ := Bx2 BK266 hb NB266_281.out NB266_281.out; have n2_ := Bx2 BK267 hb NB267_281.out NB267_281.out; have n3_ := Bx2 BK273 hb NB273_281.out NB273_281.out; have n4_ := Ax (blk_below (g := gb281) (o := .cells #[.int .u8 t278, .int .i64 t279] 35 (0, 0)) (by (with_reducible repeat (first | refine blk_drewN ?_ _ | refine blk_drew ?_ | refine blk_alloc ?_ _)); refine blk_put (cs := #[.int .u8 t278, .int .i64 0]) ?_ 1 _ rfl; (with_reducible repeat (first | refine blk_drewN ?_ _ | refine blk_drew ?_ | refine blk_alloc ?_ _)); refine blk_put (cs := #[.int .u8 0, .int .i64 0]) ?_ 0 _ rfl; (with_reducible repeat (first | refine blk_drewN ?_ _ | refine blk_drew ?_ | refine blk_alloc ?_ _)); exact BK281.out) hb); have n5_ := Bs4 HB hb GE266.out GE267.out GE273.out GE281.out; clear HO276; clear BK266; clear BK267; clear BK273; clear BK281; clear HB; have HO276 := n0_; have BK266 := n1_; have BK267 := n2_; have BK273 := n3_; have BK281 := n4_; have HB := n5_; clear n0_ n1_ n2_ n3_ n4_ n5_; (try clear hb); obtain ⟨hcz46_0, hcz46_1, hfz46_0, hfz46_1⟩ := cl2 BK281; have hnb47 := NB273_266.out; have hnc47 := NB266_273.out; obtain ⟨hcz48_0, hcz48_1, hfz48_0, hfz48_1⟩ := cl2 BK273))
        go_meet
        case rel => exact ⟨_, H', ⟨by first | omega | exact Nat.le_refl _⟩, ⟨bf0 BK266.out⟩, ⟨bf0 BK267.out⟩, ⟨bf0 BK273.out⟩, ⟨bw4 HB.out GE266.out GE267.out GE273.out GE281.out⟩⟩
      ·rw [if_neg c32] at H
       have c32b0 : (t280 == 0) = false := beq_eq_false_iff_ne.mpr c32
       have c32b1 : (t280 != 0) = true := bne_iff_ne.mpr c32
       by_cases c49 : a3_0 ≤ a4
       ·rw [if_pos c49] at H
        have c49b0 : decide (a3_0 ≤ a4) = true := decide_eq_true c49
        clear c49
        by_cases c50 : a4 ≤ a3_1
        ·rw [if_pos c50] at H
         exact absurd H (by simp)
        ·rw [if_neg c50] at H
         have c50b0 : decide (a4 ≤ a3_1) = false := decide_eq_false c50
         clear c50
         have H' := Ax H
         clear H
         have hnb51 := NB267_266.out
         have hnc51 := NB266_267.out
         have hnb52 := NB267_273.out
         have hnc52 := NB273_267.out
         obtain ⟨hcz53_0, hcz53_1, hfz53_0, hfz53_1⟩ := cl2 BK267
         obtain ⟨Ao54, co54, eo54⟩ := Kd.R_slice HO276.out
         subst eo54
         go_wp2_with (first | ((with_reducible refine gate_callee (f := 14) rfl ?_); refine goesL_ (some 49) rfl rfl Try.func14 (by kernel_rfl) rfl #[.agg #[.int .i64 a3_0, .int .i64 a3_1], .slice Ao54 t274.length co54, .int .i64 a4] rfl gS ?_; (with_reducible refine (line_At.calls k a3_0 a3_1 _ _ t274 a4 t278 t279 t280 _ ?side1 ?side2 A29.out).mono ?_); (case side1 => repeat (first | exact (Kd.R_reads' HO276.out).2.2 | (with_reducible refine Kd.C_alloc ?_ _) | (with_reducible refine Kd.C_drewN ?_ _) | (with_reducible refine Kd.C_drew ?_))); (case side2 => exact (Kd.R_reads' HO276.out).2.1); rintro e w55 ⟨rfl, hb⟩; refine ⟨_, rfl, ?_⟩; have n0_ := Ax (Kd.R_below (by (with_reducible repeat (first | apply Kd.R_alloc | apply Kd.R_drewN | apply Kd.R_drew)); exact HO276.out) hb); have n1_ := Bx0 BK266 hb; have n2_ := Bx0 BK267 hb; have n3_ := Bx0 BK273 hb; have n4_ := Bs3 HB hb GE266.out GE267.out GE273.out; clear HO276; clear BK266; clear BK267; clear BK273; clear HB; have HO276 := n0_; have BK266 := n1_; have BK267 := n2_; have BK273 := n3_; have HB := n4_; clear n0_ n1_ n2_ n3_ n4_; (try clear hb)) | ((with_reducible refine gate_dst (N := 15) rfl ?_); refine box_event ?hg (N := 15) ?hd (cs := #[.int .u8 0, .int .i64 0]) (t := 35) ?hr ?_; (case hd => rfl); (case hg => rfl); (case hr => first | (go_simp; done) | (go_simp; rfl)); intro gb281 hg w56 hbox hb; have n0_ := Ax (Kd.R_below (by (with_reducible repeat (first | apply Kd.R_alloc | apply Kd.R_drewN | apply Kd.R_drew)); exact HO276.out) hb); have n1_ := Bx0 BK266 hb; have n2_ := Bx0 BK267 hb; have n3_ := Bx0 BK273 hb; have n4_ := Bs3 HB hb GE266.out GE267.out GE273.out; have n5_ := Ax (hbox); have n6_ := Gw3 HB hg GE266.out GE267.out GE273.out; have n7_ := Gw3 HB hg GE266.out GE267.out GE273.out; have n8_ := Nl0 BK266 hg; have n9_ := Nr0 BK266 hg; have n10_ := Nl0 BK267 hg; have n11_ := Nr0 BK267 hg; have n12_ := Nl0 BK273 hg; have n13_ := Nr0 BK273 hg; clear HO276; clear BK266; clear BK267; clear BK273; clear HB; have HO276 := n0_; have BK266 := n1_; have BK267 := n2_; have BK273 := n3_; have HB := n4_; have BK281 := n5_; have GW281 := n6_; have GE281 := n7_; have NB266_281 := n8_; have NB281_266 := n9_; have NB267_281 := n10_; have NB281_267 := n11_; have NB273_281 := n12_; have NB281_273 := n13_; clear n0_ n1_ n2_ n3_ n4_ n5_ n6_ n7_ n8_ n9_ n10_ n11_ n12_ n13_; clear hb hbox hg; have hnb57 := NB281_266.out; have hnc57 := NB266_281.out; have hnb58 := NB281_267.out; have hnc58 := NB267_281.out; have hnb59 := NB281_273.out; have hnc59 := NB273_281.out; obtain ⟨hcz60_0, hcz60_1, hfz60_0, hfz60_1⟩ := cl2 BK281; obtain ⟨hcz61_0, hcz61_1, hfz61_0, hfz61_1⟩ := cl2 BK267) | ((with_reducible refine gate_callee (f := 12) rfl ?_); refine goesL_ (some 54) rfl rfl Try.func12 (by kernel_rfl) rfl #[.agg #[.int .i64 a3_0, .int .i64 a3_1], .slice Ao54 t274.length co54] rfl gS ?_; (with_reducible refine (line_Check.calls k a3_0 a3_1 _ _ t274 t282 _ ?side1 ?side2 A30.out).mono ?_); (case side1 => refine (Kd.R_reads' (e := 52) (base := w.heap.size) (ok := fun k_ => True) (n := t274.length) (c := co54) ?_).2.2; exact (by (with_reducible repeat (first | apply Kd.R_alloc | apply Kd.R_drewN | apply Kd.R_drew)); exact (Kd.R_mono (Kd.R_far (p := ⟨gb281, 1, none⟩) (Kd.R_far (p := ⟨gb281, 0, none⟩) (Kd.R_types HO276.out BK281.out (by decide)) (fun _ hk => hk.2) (.int .u8 t278)) (fun _ hk => hk.2) (.int .i64 t279)) (fun _ h_ => h_.1)))); (case side2 => exact (Kd.R_reads' HO276.out).2.1); rintro e w62 ⟨rfl, hb⟩; refine ⟨_, rfl, ?_⟩; have n0_ := Ax (Kd.R_below (by (with_reducible repeat (first | apply Kd.R_alloc | apply Kd.R_drewN | apply Kd.R_drew)); exact (Kd.R_mono (Kd.R_far (p := ⟨gb281, 1, none⟩) (Kd.R_far (p := ⟨gb281, 0, none⟩) (Kd.R_types HO276.out BK281.out (by decide)) (fun _ hk => hk.2) (.int .u8 t278)) (fun _ hk => hk.2) (.int .i64 t279)) (fun _ h_ => h_.1))) hb); have n1_ := Bx2 BK266 hb NB266_281.out NB266_281.out; have n2_ := Bx2 BK267 hb NB267_281.out NB267_281.out; have n3_ := Bx2 BK273 hb NB273_281.out NB273_281.out; have n4_ := Ax (blk_below (g := gb281) (o := .cells #[.int .u8 t278, .int .i64 t279] 35 (0, 0)) (by (with_reducible repeat (first | refine blk_drewN ?_ _ | refine blk_drew ?_ | refine blk_alloc ?_ _)); refine blk_put (cs := #[.int .u8 t278, .int .i64 0]) ?_ 1 _ rfl; (with_reducible repeat (first | refine blk_drewN ?_ _ | refine blk_drew ?_ | refine blk_alloc ?_ _)); refine blk_put (cs := #[.int .u8 0, .int .i64 0]) ?_ 0 _ rfl; (with_reducible repeat (first | refine blk_drewN ?_ _ | refine blk_drew ?_ | refine blk_alloc ?_ _)); exact BK281.out) hb); have n5_ := Bs4 HB hb GE266.out GE267.out GE273.out GE281.out; clear HO276; clear BK266; clear BK267; clear BK273; clear BK281; clear HB; have HO276 := n0_; have BK266 := n1_; have BK267 := n2_; have BK273 := n3_; have BK281 := n4_; have HB := n5_; clear n0_ n1_ n2_ n3_ n4_ n5_; (try clear hb); obtain ⟨hcz63_0, hcz63_1, hfz63_0, hfz63_1⟩ := cl2 BK267))
         go_meet
         case rel => exact ⟨_, H', ⟨by first | omega | exact Nat.le_refl _⟩, ⟨bf0 BK266.out⟩, ⟨bf0 BK267.out⟩, ⟨bf0 BK273.out⟩, ⟨bw4 HB.out GE266.out GE267.out GE273.out GE281.out⟩⟩
       ·rw [if_neg c49] at H
        have c49b0 : decide (a3_0 ≤ a4) = false := decide_eq_false c49
        clear c49
        have H' := Ax H
        clear H
        have hnb64 := NB267_266.out
        have hnc64 := NB266_267.out
        have hnb65 := NB267_273.out
        have hnc65 := NB273_267.out
        obtain ⟨hcz66_0, hcz66_1, hfz66_0, hfz66_1⟩ := cl2 BK267
        obtain ⟨Ao67, co67, eo67⟩ := Kd.R_slice HO276.out
        subst eo67
        go_wp2_with (first | ((with_reducible refine gate_callee (f := 14) rfl ?_); refine goesL_ (some 49) rfl rfl Try.func14 (by kernel_rfl) rfl #[.agg #[.int .i64 a3_0, .int .i64 a3_1], .slice Ao67 t274.length co67, .int .i64 a4] rfl gS ?_; (with_reducible refine (line_At.calls k a3_0 a3_1 _ _ t274 a4 t278 t279 t280 _ ?side1 ?side2 A29.out).mono ?_); (case side1 => repeat (first | exact (Kd.R_reads' HO276.out).2.2 | (with_reducible refine Kd.C_alloc ?_ _) | (with_reducible refine Kd.C_drewN ?_ _) | (with_reducible refine Kd.C_drew ?_))); (case side2 => exact (Kd.R_reads' HO276.out).2.1); rintro e w68 ⟨rfl, hb⟩; refine ⟨_, rfl, ?_⟩; have n0_ := Ax (Kd.R_below (by (with_reducible repeat (first | apply Kd.R_alloc | apply Kd.R_drewN | apply Kd.R_drew)); exact HO276.out) hb); have n1_ := Bx0 BK266 hb; have n2_ := Bx0 BK267 hb; have n3_ := Bx0 BK273 hb; have n4_ := Bs3 HB hb GE266.out GE267.out GE273.out; clear HO276; clear BK266; clear BK267; clear BK273; clear HB; have HO276 := n0_; have BK266 := n1_; have BK267 := n2_; have BK273 := n3_; have HB := n4_; clear n0_ n1_ n2_ n3_ n4_; (try clear hb)) | ((with_reducible refine gate_dst (N := 15) rfl ?_); refine box_event ?hg (N := 15) ?hd (cs := #[.int .u8 0, .int .i64 0]) (t := 35) ?hr ?_; (case hd => rfl); (case hg => rfl); (case hr => first | (go_simp; done) | (go_simp; rfl)); intro gb281 hg w69 hbox hb; have n0_ := Ax (Kd.R_below (by (with_reducible repeat (first | apply Kd.R_alloc | apply Kd.R_drewN | apply Kd.R_drew)); exact HO276.out) hb); have n1_ := Bx0 BK266 hb; have n2_ := Bx0 BK267 hb; have n3_ := Bx0 BK273 hb; have n4_ := Bs3 HB hb GE266.out GE267.out GE273.out; have n5_ := Ax (hbox); have n6_ := Gw3 HB hg GE266.out GE267.out GE273.out; have n7_ := Gw3 HB hg GE266.out GE267.out GE273.out; have n8_ := Nl0 BK266 hg; have n9_ := Nr0 BK266 hg; have n10_ := Nl0 BK267 hg; have n11_ := Nr0 BK267 hg; have n12_ := Nl0 BK273 hg; have n13_ := Nr0 BK273 hg; clear HO276; clear BK266; clear BK267; clear BK273; clear HB; have HO276 := n0_; have BK266 := n1_; have BK267 := n2_; have BK273 := n3_; have HB := n4_; have BK281 := n5_; have GW281 := n6_; have GE281 := n7_; have NB266_281 := n8_; have NB281_266 := n9_; have NB267_281 := n10_; have NB281_267 := n11_; have NB273_281 := n12_; have NB281_273 := n13_; clear n0_ n1_ n2_ n3_ n4_ n5_ n6_ n7_ n8_ n9_ n10_ n11_ n12_ n13_; clear hb hbox hg; have hnb70 := NB281_266.out; have hnc70 := NB266_281.out; have hnb71 := NB281_267.out; have hnc71 := NB267_281.out; have hnb72 := NB281_273.out; have hnc72 := NB273_281.out; obtain ⟨hcz73_0, hcz73_1, hfz73_0, hfz73_1⟩ := cl2 BK281; obtain ⟨hcz74_0, hcz74_1, hfz74_0, hfz74_1⟩ := cl2 BK267) | ((with_reducible refine gate_callee (f := 12) rfl ?_); refine goesL_ (some 54) rfl rfl Try.func12 (by kernel_rfl) rfl #[.agg #[.int .i64 a3_0, .int .i64 a3_1], .slice Ao67 t274.length co67] rfl gS ?_; (with_reducible refine (line_Check.calls k a3_0 a3_1 _ _ t274 t282 _ ?side1 ?side2 A30.out).mono ?_); (case side1 => refine (Kd.R_reads' (e := 52) (base := w.heap.size) (ok := fun k_ => True) (n := t274.length) (c := co67) ?_).2.2; exact (by (with_reducible repeat (first | apply Kd.R_alloc | apply Kd.R_drewN | apply Kd.R_drew)); exact (Kd.R_mono (Kd.R_far (p := ⟨gb281, 1, none⟩) (Kd.R_far (p := ⟨gb281, 0, none⟩) (Kd.R_types HO276.out BK281.out (by decide)) (fun _ hk => hk.2) (.int .u8 t278)) (fun _ hk => hk.2) (.int .i64 t279)) (fun _ h_ => h_.1)))); (case side2 => exact (Kd.R_reads' HO276.out).2.1); rintro e w75 ⟨rfl, hb⟩; refine ⟨_, rfl, ?_⟩; have n0_ := Ax (Kd.R_below (by (with_reducible repeat (first | apply Kd.R_alloc | apply Kd.R_drewN | apply Kd.R_drew)); exact (Kd.R_mono (Kd.R_far (p := ⟨gb281, 1, none⟩) (Kd.R_far (p := ⟨gb281, 0, none⟩) (Kd.R_types HO276.out BK281.out (by decide)) (fun _ hk => hk.2) (.int .u8 t278)) (fun _ hk => hk.2) (.int .i64 t279)) (fun _ h_ => h_.1))) hb); have n1_ := Bx2 BK266 hb NB266_281.out NB266_281.out; have n2_ := Bx2 BK267 hb NB267_281.out NB267_281.out; have n3_ := Bx2 BK273 hb NB273_281.out NB273_281.out; have n4_ := Ax (blk_below (g := gb281) (o := .cells #[.int .u8 t278, .int .i64 t279] 35 (0, 0)) (by (with_reducible repeat (first | refine blk_drewN ?_ _ | refine blk_drew ?_ | refine blk_alloc ?_ _)); refine blk_put (cs := #[.int .u8 t278, .int .i64 0]) ?_ 1 _ rfl; (with_reducible repeat (first | refine blk_drewN ?_ _ | refine blk_drew ?_ | refine blk_alloc ?_ _)); refine blk_put (cs := #[.int .u8 0, .int .i64 0]) ?_ 0 _ rfl; (with_reducible repeat (first | refine blk_drewN ?_ _ | refine blk_drew ?_ | refine blk_alloc ?_ _)); exact BK281.out) hb); have n5_ := Bs4 HB hb GE266.out GE267.out GE273.out GE281.out; clear HO276; clear BK266; clear BK267; clear BK273; clear BK281; clear HB; have HO276 := n0_; have BK266 := n1_; have BK267 := n2_; have BK273 := n3_; have BK281 := n4_; have HB := n5_; clear n0_ n1_ n2_ n3_ n4_ n5_; (try clear hb); obtain ⟨hcz76_0, hcz76_1, hfz76_0, hfz76_1⟩ := cl2 BK267))
        go_meet
        case rel => exact ⟨_, H', ⟨by first | omega | exact Nat.le_refl _⟩, ⟨bf0 BK266.out⟩, ⟨bf0 BK267.out⟩, ⟨bf0 BK273.out⟩, ⟨bw4 HB.out GE266.out GE267.out GE273.out GE281.out⟩⟩
     ·rw [if_neg c31] at H
      exact absurd H (by simp)
    ·rw [if_neg c28] at H
     have c28b0 : (t277 == 0) = false := beq_eq_false_iff_ne.mpr c28
     have c28b1 : (t277 != 0) = true := bne_iff_ne.mpr c28
     (first | rw [c28b0] | (simp only [i64_w, i32_w]; rw [c28b0]) | skip)
     have H' := Ax H
     clear H
     go_wp2
     go_meet
     case rel => exact ⟨_, H', ⟨by first | omega | exact Nat.le_refl _⟩, ⟨bf0 BK266.out⟩, ⟨bf0 BK267.out⟩, ⟨bf0 BK273.out⟩, ⟨bw3 HB.out GE266.out GE267.out GE273.out⟩⟩
   case rest =>
    clear HC12
    try clear c1
    try clear c2
    try clear p2
    try clear c3
    try clear c4
    try clear c5
    try clear c6
    try clear c7
    try clear c9
    try clear c9b0
    try clear c9b1
    try clear c10
    try clear c12
    try clear c14
    try clear c16
    try clear c18
    try clear c22
    try clear c23
    try clear c28
    try clear c28b0
    try clear c28b1
    try clear c31
    try clear c31b0
    try clear c31b1
    try clear c32
    try clear c32b0
    try clear c32b1
    try clear c33
    try clear c33b0
    try clear c34
    try clear c35
    try clear c40
    try clear c41
    try clear c42
    try clear c47
    try clear c49
    try clear c49b0
    try clear c50
    try clear c50b0
    try clear c51
    try clear c52
    try clear c57
    try clear c58
    try clear c59
    try clear c64
    try clear c65
    try clear c70
    try clear c71
    try clear c72
    try clear hcz17_0
    try clear hcz17_1
    try clear hcz19_0
    try clear hcz19_1
    try clear hcz24_0
    try clear hcz24_1
    try clear hcz25_0
    try clear hcz25_1
    try clear hcz26_0
    try clear hcz26_1
    try clear hcz36_0
    try clear hcz36_1
    try clear hcz43_0
    try clear hcz43_1
    try clear hcz44_0
    try clear hcz44_1
    try clear hcz46_0
    try clear hcz46_1
    try clear hcz48_0
    try clear hcz48_1
    try clear hcz53_0
    try clear hcz53_1
    try clear hcz60_0
    try clear hcz60_1
    try clear hcz61_0
    try clear hcz61_1
    try clear hcz63_0
    try clear hcz63_1
    try clear hcz66_0
    try clear hcz66_1
    try clear hcz73_0
    try clear hcz73_1
    try clear hcz74_0
    try clear hcz74_1
    try clear hcz76_0
    try clear hcz76_1
    try clear hfz17_0
    try clear hfz17_1
    try clear hfz19_0
    try clear hfz19_1
    try clear hfz24_0
    try clear hfz24_1
    try clear hfz25_0
    try clear hfz25_1
    try clear hfz26_0
    try clear hfz26_1
    try clear hfz36_0
    try clear hfz36_1
    try clear hfz43_0
    try clear hfz43_1
    try clear hfz44_0
    try clear hfz44_1
    try clear hfz46_0
    try clear hfz46_1
    try clear hfz48_0
    try clear hfz48_1
    try clear hfz53_0
    try clear hfz53_1
    try clear hfz60_0
    try clear hfz60_1
    try clear hfz61_0
    try clear hfz61_1
    try clear hfz63_0
    try clear hfz63_1
    try clear hfz66_0
    try clear hfz66_1
    try clear hfz73_0
    try clear hfz73_1
    try clear hfz74_0
    try clear hfz74_1
    try clear hfz76_0
    try clear hfz76_1
    obtain ⟨kq, HA, HJ11, BK266, BK267, BK273, HB⟩ := hcut
    cases kq with
    | zero => exact absurd HA.out (by simp [spoorlaw20_LineCut.j0])
    | succ kj11 =>
     have H := HA.out
     clear HA
     simp only [spoorlaw20_LineCut.j0] at H
     replace H := Option.bind_eq_some_iff.mp H
     obtain ⟨⟨t283, t284, t285⟩, A770, H⟩ := H
     replace H : ((line_Differ.f kj11 a0_0 a0_1 l1 l2).bind fun bt287 => ((ivl_Has.f kj11 bt287.1 a4).bind fun bt291 => ((line_Check.f kj11 a0_0 a0_1 l2).bind fun t293 => (if t293 = 0 then (if bt287.2 = 11 then (if (wrap64 ((l1.length : Int) + (l2.length : Int))) > 1024 then (some true) else (if bt287.2 = 0 then (if bt291.2 = 0 then (if t272 = 0 then (if t285 = 0 then (some (bt291.1 == (!(t283 == t270) || (!(t284 == t271))))) else (some (bt291.1 == false))) else (some (bt291.1 == false))) else (none)) else (none))) else (if bt287.2 = 0 then (if bt291.2 = 0 then (if t272 = 0 then (if t285 = 0 then (some (bt291.1 == (!(t283 == t270) || (!(t284 == t271))))) else (some (bt291.1 == false))) else (some (bt291.1 == false))) else (none)) else (none))) else (some (bt287.2 == 2)))))) = some r := H
     have A77 := Ax A770
     clear A770
     replace H := Option.bind_eq_some_iff.mp H
     obtain ⟨⟨t287, t290⟩, A780, H⟩ := H
     replace H : ((ivl_Has.f kj11 t287 a4).bind fun bt291 => ((line_Check.f kj11 a0_0 a0_1 l2).bind fun t293 => (if t293 = 0 then (if t290 = 11 then (if (wrap64 ((l1.length : Int) + (l2.length : Int))) > 1024 then (some true) else (if t290 = 0 then (if bt291.2 = 0 then (if t272 = 0 then (if t285 = 0 then (some (bt291.1 == (!(t283 == t270) || (!(t284 == t271))))) else (some (bt291.1 == false))) else (some (bt291.1 == false))) else (none)) else (none))) else (if t290 = 0 then (if bt291.2 = 0 then (if t272 = 0 then (if t285 = 0 then (some (bt291.1 == (!(t283 == t270) || (!(t284 == t271))))) else (some (bt291.1 == false))) else (some (bt291.1 == false))) else (none)) else (none))) else (some (t290 == 2))))) = some r := H
     have A78 := Ax A780
     clear A780
     replace H := Option.bind_eq_some_iff.mp H
     obtain ⟨⟨t291, t292⟩, A790, H⟩ := H
     replace H : ((line_Check.f kj11 a0_0 a0_1 l2).bind fun t293 => (if t293 = 0 then (if t290 = 11 then (if (wrap64 ((l1.length : Int) + (l2.length : Int))) > 1024 then (some true) else (if t290 = 0 then (if t292 = 0 then (if t272 = 0 then (if t285 = 0 then (some (t291 == (!(t283 == t270) || (!(t284 == t271))))) else (some (t291 == false))) else (some (t291 == false))) else (none)) else (none))) else (if t290 = 0 then (if t292 = 0 then (if t272 = 0 then (if t285 = 0 then (some (t291 == (!(t283 == t270) || (!(t284 == t271))))) else (some (t291 == false))) else (some (t291 == false))) else (none)) else (none))) else (some (t290 == 2)))) = some r := H
     have A79 := Ax A790
     clear A790
     replace H := Option.bind_eq_some_iff.mp H
     obtain ⟨t293, A800, H⟩ := H
     replace H : (if t293 = 0 then (if t290 = 11 then (if (wrap64 ((l1.length : Int) + (l2.length : Int))) > 1024 then (some true) else (if t290 = 0 then (if t292 = 0 then (if t272 = 0 then (if t285 = 0 then (some (t291 == (!(t283 == t270) || (!(t284 == t271))))) else (some (t291 == false))) else (some (t291 == false))) else (none)) else (none))) else (if t290 = 0 then (if t292 = 0 then (if t272 = 0 then (if t285 = 0 then (some (t291 == (!(t283 == t270) || (!(t284 == t271))))) else (some (t291 == false))) else (some (t291 == false))) else (none)) else (none))) else (some (t290 == 2))) = some r := H
     have A80 := Ax A800
     clear A800
     by_cases c81 : t293 = 0
     ·rw [if_pos c81] at H
      have c81b0 : (t293 == 0) = true := beq_iff_eq.mpr c81
      have c81b1 : (t293 != 0) = false := bne_eq_false_iff_eq.mpr c81
      clear c81
      by_cases c82 : t290 = 11
      ·rw [if_pos c82] at H
       have c82b0 : (t290 == 11) = true := beq_iff_eq.mpr c82
       have c82b1 : (t290 != 11) = false := bne_eq_false_iff_eq.mpr c82
       clear c82
       by_cases c83 : (wrap64 ((l1.length : Int) + (l2.length : Int))) > 1024
       ·rw [if_pos c83] at H
        have c83b0 : decide (1024 < (wrap64 ((l1.length : Int) + (l2.length : Int)))) = true := decide_eq_true c83
        clear c83
        obtain rfl := Option.some.inj H
        have hnb84 := NB266_267.out
        have hnc84 := NB267_266.out
        have hnb85 := NB266_273.out
        have hnc85 := NB273_266.out
        obtain ⟨hcz86_0, hcz86_1, hfz86_0, hfz86_1⟩ := cl2 BK266
        go_wp2_with (first | ((with_reducible refine gate_callee (f := 14) rfl ?_); refine goesL_ (some 85) rfl rfl Try.func14 (by kernel_rfl) rfl #[.agg #[.int .i64 a0_0, .int .i64 a0_1], .slice A2 l2.length c2, .int .i64 a4] rfl gS ?_; (with_reducible refine (line_At.calls kj11 a0_0 a0_1 _ _ l2 a4 t283 t284 t285 _ ?side1 ?side2 A77.out).mono ?_); (case side1 => repeat (first | exact (Kd.C_below HR2.out HB.out) | (with_reducible refine Kd.C_alloc ?_ _) | (with_reducible refine Kd.C_drewN ?_ _) | (with_reducible refine Kd.C_drew ?_))); (case side2 => exact HC2.out); rintro e w87 ⟨rfl, hb⟩; refine ⟨_, rfl, ?_⟩; replace BK266 := Bx0 BK266 hb; replace BK267 := Bx0 BK267 hb; replace BK273 := Bx0 BK273 hb; replace HB := Bs3 HB hb GE266.out GE267.out GE273.out; (try clear hb)) | ((with_reducible refine gate_dst (N := 17) rfl ?_); refine box_event ?hg (N := 17) ?hd (cs := #[.int .u8 0, .int .i64 0]) (t := 35) ?hr ?_; (case hd => rfl); (case hg => rfl); (case hr => first | (go_simp; done) | (go_simp; rfl)); intro gb286 hg w88 hbox hb; have n0_ := Bx0 BK266 hb; have n1_ := Bx0 BK267 hb; have n2_ := Bx0 BK273 hb; have n3_ := Bs3 HB hb GE266.out GE267.out GE273.out; have n4_ := Ax (hbox); have n5_ := Gw3 HB hg GE266.out GE267.out GE273.out; have n6_ := Gw3 HB hg GE266.out GE267.out GE273.out; have n7_ := Nl0 BK266 hg; have n8_ := Nr0 BK266 hg; have n9_ := Nl0 BK267 hg; have n10_ := Nr0 BK267 hg; have n11_ := Nl0 BK273 hg; have n12_ := Nr0 BK273 hg; clear BK266; clear BK267; clear BK273; clear HB; have BK266 := n0_; have BK267 := n1_; have BK273 := n2_; have HB := n3_; have BK286 := n4_; have GW286 := n5_; have GE286 := n6_; have NB266_286 := n7_; have NB286_266 := n8_; have NB267_286 := n9_; have NB286_267 := n10_; have NB273_286 := n11_; have NB286_273 := n12_; clear n0_ n1_ n2_ n3_ n4_ n5_ n6_ n7_ n8_ n9_ n10_ n11_ n12_; clear hb hbox hg; have hnb89 := NB286_266.out; have hnc89 := NB266_286.out; have hnb90 := NB286_267.out; have hnc90 := NB267_286.out; have hnb91 := NB286_273.out; have hnc91 := NB273_286.out; obtain ⟨hcz92_0, hcz92_1, hfz92_0, hfz92_1⟩ := cl2 BK286; obtain ⟨hcz93_0, hcz93_1, hfz93_0, hfz93_1⟩ := cl2 BK266) | ((with_reducible refine gate_callee (f := 20) rfl ?_); refine goesL_ (some 92) rfl rfl Try.func20 (by kernel_rfl) rfl #[.agg #[.int .i64 a0_0, .int .i64 a0_1], .slice A1 l1.length c1, .slice A2 l2.length c2] rfl gS ?_; (with_reducible refine (line_Differ.calls kj11 a0_0 a0_1 _ _ l1 _ _ l2 t287 t290 _ ?side1 ?side2 ?side3 ?side4 A78.out).mono ?_); (case side1 => exact Kd.C_below HR1.out (bw4 HB.out GE266.out GE267.out GE273.out GE286.out)); (case side2 => exact HC1.out); (case side3 => exact Kd.C_below HR2.out (bw4 HB.out GE266.out GE267.out GE273.out GE286.out)); (case side4 => exact HC2.out); rintro e w94 ⟨v288, rfl, ho0, hb⟩; refine ⟨_, rfl, ?_⟩; have n0_ := Ax (Kd.R_lower (Kd.R_newB (Kd.R_newB ho0 (g := gb266) (o := .cells #[.int .i64 a0_0, .int .i64 a0_1] 23 (0, 0)) (bf2 BK266.out NB266_286.out NB266_286.out)) (g := gb267) (o := .cells #[.int .i64 a3_0, .int .i64 a3_1] 23 (0, 0)) (bf2 BK267.out NB267_286.out NB267_286.out)) (below_size (bw4 HB.out GE266.out GE267.out GE273.out GE286.out))); have n1_ := Bx2 BK266 hb NB266_286.out NB266_286.out; have n2_ := Bx2 BK267 hb NB267_286.out NB267_286.out; have n3_ := Bx2 BK273 hb NB273_286.out NB273_286.out; have n4_ := Ax (blk_below (g := gb286) (o := .cells #[.int .u8 t283, .int .i64 t284] 35 (0, 0)) (by (with_reducible repeat (first | refine blk_drewN ?_ _ | refine blk_drew ?_ | refine blk_alloc ?_ _)); refine blk_put (cs := #[.int .u8 t283, .int .i64 0]) ?_ 1 _ rfl; (with_reducible repeat (first | refine blk_drewN ?_ _ | refine blk_drew ?_ | refine blk_alloc ?_ _)); refine blk_put (cs := #[.int .u8 0, .int .i64 0]) ?_ 0 _ rfl; (with_reducible repeat (first | refine blk_drewN ?_ _ | refine blk_drew ?_ | refine blk_alloc ?_ _)); exact BK286.out) hb); have n5_ := Bs4 HB hb GE266.out GE267.out GE273.out GE286.out; clear BK266; clear BK267; clear BK273; clear BK286; clear HB; have HO289 := n0_; have BK266 := n1_; have BK267 := n2_; have BK273 := n3_; have BK286 := n4_; have HB := n5_; clear n0_ n1_ n2_ n3_ n4_ n5_; (try clear hb); (try clear ho0); obtain ⟨Ao95, co95, eo95⟩ := Kd.R_slice HO289.out; subst eo95) | ((with_reducible refine gate_callee (f := 23) rfl ?_); refine goesL_ (some 98) rfl rfl Try.func23 (by kernel_rfl) rfl #[.slice Ao95 t287.length co95, .int .i64 a4] rfl gS ?_; (with_reducible refine (ivl_Has.calls kj11 _ _ t287 a4 t291 t292 _ ?side1 ?side2 A79.out).mono ?_); (case side1 => repeat (first | exact (Kd.R_reads' HO289.out).2.2 | (with_reducible refine Kd.C_alloc ?_ _) | (with_reducible refine Kd.C_drewN ?_ _) | (with_reducible refine Kd.C_drew ?_))); (case side2 => exact (Kd.R_reads' HO289.out).2.1); rintro e w96 ⟨rfl, hb⟩; refine ⟨_, rfl, ?_⟩; have n0_ := Ax (Kd.R_below (by (with_reducible repeat (first | apply Kd.R_alloc | apply Kd.R_drewN | apply Kd.R_drew)); exact HO289.out) hb); have n1_ := Bx0 BK266 hb; have n2_ := Bx0 BK267 hb; have n3_ := Bx0 BK273 hb; have n4_ := Bx0 BK286 hb; have n5_ := Bs4 HB hb GE266.out GE267.out GE273.out GE286.out; clear HO289; clear BK266; clear BK267; clear BK273; clear BK286; clear HB; have HO289 := n0_; have BK266 := n1_; have BK267 := n2_; have BK273 := n3_; have BK286 := n4_; have HB := n5_; clear n0_ n1_ n2_ n3_ n4_ n5_; (try clear hb); obtain ⟨hcz97_0, hcz97_1, hfz97_0, hfz97_1⟩ := cl2 BK266) | ((with_reducible refine gate_callee (f := 12) rfl ?_); refine goesL_ (some 103) rfl rfl Try.func12 (by kernel_rfl) rfl #[.agg #[.int .i64 a0_0, .int .i64 a0_1], .slice A2 l2.length c2] rfl gS ?_; (with_reducible refine (line_Check.calls kj11 a0_0 a0_1 _ _ l2 t293 _ ?side1 ?side2 A80.out).mono ?_); (case side1 => repeat (first | exact (Kd.C_below HR2.out HB.out) | (with_reducible refine Kd.C_alloc ?_ _) | (with_reducible refine Kd.C_drewN ?_ _) | (with_reducible refine Kd.C_drew ?_))); (case side2 => exact HC2.out); rintro e w98 ⟨rfl, hb⟩; refine ⟨_, rfl, ?_⟩; have n0_ := Ax (Kd.R_below (by (with_reducible repeat (first | apply Kd.R_alloc | apply Kd.R_drewN | apply Kd.R_drew)); exact HO289.out) hb); have n1_ := Bx0 BK266 hb; have n2_ := Bx0 BK267 hb; have n3_ := Bx0 BK273 hb; have n4_ := Bx0 BK286 hb; have n5_ := Bs4 HB hb GE266.out GE267.out GE273.out GE286.out; clear HO289; clear BK266; clear BK267; clear BK273; clear BK286; clear HB; have HO289 := n0_; have BK266 := n1_; have BK267 := n2_; have BK273 := n3_; have BK286 := n4_; have HB := n5_; clear n0_ n1_ n2_ n3_ n4_ n5_; (try clear hb)))
        go_ret
        exact ⟨eS, bw4 HB.out GE266.out GE267.out GE273.out GE286.out⟩
       ·rw [if_neg c83] at H
        have c83b0 : decide (1024 < (wrap64 ((l1.length : Int) + (l2.length : Int)))) = false := decide_eq_false c83
        clear c83
        by_cases c99 : t290 = 0
        ·rw [if_pos c99] at H
         have c99b0 : (t290 == 0) = true := beq_iff_eq.mpr c99
         have c99b1 : (t290 != 0) = false := bne_eq_false_iff_eq.mpr c99
         clear c99
         by_cases c100 : t292 = 0
         ·rw [if_pos c100] at H
          have c100b0 : (t292 == 0) = true := beq_iff_eq.mpr c100
          have c100b1 : (t292 != 0) = false := bne_eq_false_iff_eq.mpr c100
          clear c100
          by_cases c101 : t272 = 0
          ·rw [if_pos c101] at H
           have c101b0 : (t272 == 0) = true := beq_iff_eq.mpr c101
           have c101b1 : (t272 != 0) = false := bne_eq_false_iff_eq.mpr c101
           clear c101
           by_cases c102 : t285 = 0
           ·rw [if_pos c102] at H
            have c102b0 : (t285 == 0) = true := beq_iff_eq.mpr c102
            have c102b1 : (t285 != 0) = false := bne_eq_false_iff_eq.mpr c102
            clear c102
            obtain rfl := Option.some.inj H
            have hnb103 := NB266_267.out
            have hnc103 := NB267_266.out
            have hnb104 := NB266_273.out
            have hnc104 := NB273_266.out
            obtain ⟨hcz105_0, hcz105_1, hfz105_0, hfz105_1⟩ := cl2 BK266
            go_wp2_with (first | ((with_reducible refine gate_callee (f := 14) rfl ?_); refine goesL_ (some 85) rfl rfl Try.func14 (by kernel_rfl) rfl #[.agg #[.int .i64 a0_0, .int .i64 a0_1], .slice A2 l2.length c2, .int .i64 a4] rfl gS ?_; (with_reducible refine (line_At.calls kj11 a0_0 a0_1 _ _ l2 a4 t283 t284 t285 _ ?side1 ?side2 A77.out).mono ?_); (case side1 => repeat (first | exact (Kd.C_below HR2.out HB.out) | (with_reducible refine Kd.C_alloc ?_ _) | (with_reducible refine Kd.C_drewN ?_ _) | (with_reducible refine Kd.C_drew ?_))); (case side2 => exact HC2.out); rintro e w106 ⟨rfl, hb⟩; refine ⟨_, rfl, ?_⟩; replace BK266 := Bx0 BK266 hb; replace BK267 := Bx0 BK267 hb; replace BK273 := Bx0 BK273 hb; replace HB := Bs3 HB hb GE266.out GE267.out GE273.out; (try clear hb)) | ((with_reducible refine gate_dst (N := 17) rfl ?_); refine box_event ?hg (N := 17) ?hd (cs := #[.int .u8 0, .int .i64 0]) (t := 35) ?hr ?_; (case hd => rfl); (case hg => rfl); (case hr => first | (go_simp; done) | (go_simp; rfl)); intro gb286 hg w107 hbox hb; have n0_ := Bx0 BK266 hb; have n1_ := Bx0 BK267 hb; have n2_ := Bx0 BK273 hb; have n3_ := Bs3 HB hb GE266.out GE267.out GE273.out; have n4_ := Ax (hbox); have n5_ := Gw3 HB hg GE266.out GE267.out GE273.out; have n6_ := Gw3 HB hg GE266.out GE267.out GE273.out; have n7_ := Nl0 BK266 hg; have n8_ := Nr0 BK266 hg; have n9_ := Nl0 BK267 hg; have n10_ := Nr0 BK267 hg; have n11_ := Nl0 BK273 hg; have n12_ := Nr0 BK273 hg; clear BK266; clear BK267; clear BK273; clear HB; have BK266 := n0_; have BK267 := n1_; have BK273 := n2_; have HB := n3_; have BK286 := n4_; have GW286 := n5_; have GE286 := n6_; have NB266_286 := n7_; have NB286_266 := n8_; have NB267_286 := n9_; have NB286_267 := n10_; have NB273_286 := n11_; have NB286_273 := n12_; clear n0_ n1_ n2_ n3_ n4_ n5_ n6_ n7_ n8_ n9_ n10_ n11_ n12_; clear hb hbox hg; have hnb108 := NB286_266.out; have hnc108 := NB266_286.out; have hnb109 := NB286_267.out; have hnc109 := NB267_286.out; have hnb110 := NB286_273.out; have hnc110 := NB273_286.out; obtain ⟨hcz111_0, hcz111_1, hfz111_0, hfz111_1⟩ := cl2 BK286; obtain ⟨hcz112_0, hcz112_1, hfz112_0, hfz112_1⟩ := cl2 BK266) | ((with_reducible refine gate_callee (f := 20) rfl ?_); refine goesL_ (some 92) rfl rfl Try.func20 (by kernel_rfl) rfl #[.agg #[.int .i64 a0_0, .int .i64 a0_1], .slice A1 l1.length c1, .slice A2 l2.length c2] rfl gS ?_; (with_reducible refine (line_Differ.calls kj11 a0_0 a0_1 _ _ l1 _ _ l2 t287 t290 _ ?side1 ?side2 ?side3 ?side4 A78.out).mono ?_); (case side1 => exact Kd.C_below HR1.out (bw4 HB.out GE266.out GE267.out GE273.out GE286.out)); (case side2 => exact HC1.out); (case side3 => exact Kd.C_below HR2.out (bw4 HB.out GE266.out GE267.out GE273.out GE286.out)); (case side4 => exact HC2.out); rintro e w113 ⟨v288, rfl, ho0, hb⟩; refine ⟨_, rfl, ?_⟩; have n0_ := Ax (Kd.R_lower (Kd.R_newB (Kd.R_newB ho0 (g := gb266) (o := .cells #[.int .i64 a0_0, .int .i64 a0_1] 23 (0, 0)) (bf2 BK266.out NB266_286.out NB266_286.out)) (g := gb267) (o := .cells #[.int .i64 a3_0, .int .i64 a3_1] 23 (0, 0)) (bf2 BK267.out NB267_286.out NB267_286.out)) (below_size (bw4 HB.out GE266.out GE267.out GE273.out GE286.out))); have n1_ := Bx2 BK266 hb NB266_286.out NB266_286.out; have n2_ := Bx2 BK267 hb NB267_286.out NB267_286.out; have n3_ := Bx2 BK273 hb NB273_286.out NB273_286.out; have n4_ := Ax (blk_below (g := gb286) (o := .cells #[.int .u8 t283, .int .i64 t284] 35 (0, 0)) (by (with_reducible repeat (first | refine blk_drewN ?_ _ | refine blk_drew ?_ | refine blk_alloc ?_ _)); refine blk_put (cs := #[.int .u8 t283, .int .i64 0]) ?_ 1 _ rfl; (with_reducible repeat (first | refine blk_drewN ?_ _ | refine blk_drew ?_ | refine blk_alloc ?_ _)); refine blk_put (cs := #[.int .u8 0, .int .i64 0]) ?_ 0 _ rfl; (with_reducible repeat (first | refine blk_drewN ?_ _ | refine blk_drew ?_ | refine blk_alloc ?_ _)); exact BK286.out) hb); have n5_ := Bs4 HB hb GE266.out GE267.out GE273.out GE286.out; clear BK266; clear BK267; clear BK273; clear BK286; clear HB; have HO289 := n0_; have BK266 := n1_; have BK267 := n2_; have BK273 := n3_; have BK286 := n4_; have HB := n5_; clear n0_ n1_ n2_ n3_ n4_ n5_; (try clear hb); (try clear ho0); obtain ⟨Ao114, co114, eo114⟩ := Kd.R_slice HO289.out; subst eo114) | ((with_reducible refine gate_callee (f := 23) rfl ?_); refine goesL_ (some 98) rfl rfl Try.func23 (by kernel_rfl) rfl #[.slice Ao114 t287.length co114, .int .i64 a4] rfl gS ?_; (with_reducible refine (ivl_Has.calls kj11 _ _ t287 a4 t291 t292 _ ?side1 ?side2 A79.out).mono ?_); (case side1 => repeat (first | exact (Kd.R_reads' HO289.out).2.2 | (with_reducible refine Kd.C_alloc ?_ _) | (with_reducible refine Kd.C_drewN ?_ _) | (with_reducible refine Kd.C_drew ?_))); (case side2 => exact (Kd.R_reads' HO289.out).2.1); rintro e w115 ⟨rfl, hb⟩; refine ⟨_, rfl, ?_⟩; have n0_ := Ax (Kd.R_below (by (with_reducible repeat (first | apply Kd.R_alloc | apply Kd.R_drewN | apply Kd.R_drew)); exact HO289.out) hb); have n1_ := Bx0 BK266 hb; have n2_ := Bx0 BK267 hb; have n3_ := Bx0 BK273 hb; have n4_ := Bx0 BK286 hb; have n5_ := Bs4 HB hb GE266.out GE267.out GE273.out GE286.out; clear HO289; clear BK266; clear BK267; clear BK273; clear BK286; clear HB; have HO289 := n0_; have BK266 := n1_; have BK267 := n2_; have BK273 := n3_; have BK286 := n4_; have HB := n5_; clear n0_ n1_ n2_ n3_ n4_ n5_; (try clear hb); obtain ⟨hcz116_0, hcz116_1, hfz116_0, hfz116_1⟩ := cl2 BK266) | ((with_reducible refine gate_callee (f := 12) rfl ?_); refine goesL_ (some 103) rfl rfl Try.func12 (by kernel_rfl) rfl #[.agg #[.int .i64 a0_0, .int .i64 a0_1], .slice A2 l2.length c2] rfl gS ?_; (with_reducible refine (line_Check.calls kj11 a0_0 a0_1 _ _ l2 t293 _ ?side1 ?side2 A80.out).mono ?_); (case side1 => repeat (first | exact (Kd.C_below HR2.out HB.out) | (with_reducible refine Kd.C_alloc ?_ _) | (with_reducible refine Kd.C_drewN ?_ _) | (with_reducible refine Kd.C_drew ?_))); (case side2 => exact HC2.out); rintro e w117 ⟨rfl, hb⟩; refine ⟨_, rfl, ?_⟩; have n0_ := Ax (Kd.R_below (by (with_reducible repeat (first | apply Kd.R_alloc | apply Kd.R_drewN | apply Kd.R_drew)); exact HO289.out) hb); have n1_ := Bx0 BK266 hb; have n2_ := Bx0 BK267 hb; have n3_ := Bx0 BK273 hb; have n4_ := Bx0 BK286 hb; have n5_ := Bs4 HB hb GE266.out GE267.out GE273.out GE286.out; clear HO289; clear BK266; clear BK267; clear BK273; clear BK286; clear HB; have HO289 := n0_; have BK266 := n1_; have BK267 := n2_; have BK273 := n3_; have BK286 := n4_; have HB := n5_; clear n0_ n1_ n2_ n3_ n4_ n5_; (try clear hb); obtain ⟨hcz118_0, hcz118_1, hfz118_0, hfz118_1⟩ := cl2 BK286; have hnb119 := NB273_267.out; have hnc119 := NB267_273.out; obtain ⟨hcz120_0, hcz120_1, hfz120_0, hfz120_1⟩ := cl2 BK273))
            go_ret
            exact ⟨eS, bw4 HB.out GE266.out GE267.out GE273.out GE286.out⟩
           ·rw [if_neg c102] at H
            have c102b0 : (t285 == 0) = false := beq_eq_false_iff_ne.mpr c102
            have c102b1 : (t285 != 0) = true := bne_iff_ne.mpr c102
            obtain rfl := Option.some.inj H
            have hnb121 := NB266_267.out
            have hnc121 := NB267_266.out
            have hnb122 := NB266_273.out
            have hnc122 := NB273_266.out
            obtain ⟨hcz123_0, hcz123_1, hfz123_0, hfz123_1⟩ := cl2 BK266
            go_wp2_with (first | ((with_reducible refine gate_callee (f := 14) rfl ?_); refine goesL_ (some 85) rfl rfl Try.func14 (by kernel_rfl) rfl #[.agg #[.int .i64 a0_0, .int .i64 a0_1], .slice A2 l2.length c2, .int .i64 a4] rfl gS ?_; (with_reducible refine (line_At.calls kj11 a0_0 a0_1 _ _ l2 a4 t283 t284 t285 _ ?side1 ?side2 A77.out).mono ?_); (case side1 => repeat (first | exact (Kd.C_below HR2.out HB.out) | (with_reducible refine Kd.C_alloc ?_ _) | (with_reducible refine Kd.C_drewN ?_ _) | (with_reducible refine Kd.C_drew ?_))); (case side2 => exact HC2.out); rintro e w124 ⟨rfl, hb⟩; refine ⟨_, rfl, ?_⟩; replace BK266 := Bx0 BK266 hb; replace BK267 := Bx0 BK267 hb; replace BK273 := Bx0 BK273 hb; replace HB := Bs3 HB hb GE266.out GE267.out GE273.out; (try clear hb)) | ((with_reducible refine gate_dst (N := 17) rfl ?_); refine box_event ?hg (N := 17) ?hd (cs := #[.int .u8 0, .int .i64 0]) (t := 35) ?hr ?_; (case hd => rfl); (case hg => rfl); (case hr => first | (go_simp; done) | (go_simp; rfl)); intro gb286 hg w125 hbox hb; have n0_ := Bx0 BK266 hb; have n1_ := Bx0 BK267 hb; have n2_ := Bx0 BK273 hb; have n3_ := Bs3 HB hb GE266.out GE267.out GE273.out; have n4_ := Ax (hbox); have n5_ := Gw3 HB hg GE266.out GE267.out GE273.out; have n6_ := Gw3 HB hg GE266.out GE267.out GE273.out; have n7_ := Nl0 BK266 hg; have n8_ := Nr0 BK266 hg; have n9_ := Nl0 BK267 hg; have n10_ := Nr0 BK267 hg; have n11_ := Nl0 BK273 hg; have n12_ := Nr0 BK273 hg; clear BK266; clear BK267; clear BK273; clear HB; have BK266 := n0_; have BK267 := n1_; have BK273 := n2_; have HB := n3_; have BK286 := n4_; have GW286 := n5_; have GE286 := n6_; have NB266_286 := n7_; have NB286_266 := n8_; have NB267_286 := n9_; have NB286_267 := n10_; have NB273_286 := n11_; have NB286_273 := n12_; clear n0_ n1_ n2_ n3_ n4_ n5_ n6_ n7_ n8_ n9_ n10_ n11_ n12_; clear hb hbox hg; have hnb126 := NB286_266.out; have hnc126 := NB266_286.out; have hnb127 := NB286_267.out; have hnc127 := NB267_286.out; have hnb128 := NB286_273.out; have hnc128 := NB273_286.out; obtain ⟨hcz129_0, hcz129_1, hfz129_0, hfz129_1⟩ := cl2 BK286; obtain ⟨hcz130_0, hcz130_1, hfz130_0, hfz130_1⟩ := cl2 BK266) | ((with_reducible refine gate_callee (f := 20) rfl ?_); refine goesL_ (some 92) rfl rfl Try.func20 (by kernel_rfl) rfl #[.agg #[.int .i64 a0_0, .int .i64 a0_1], .slice A1 l1.length c1, .slice A2 l2.length c2] rfl gS ?_; (with_reducible refine (line_Differ.calls kj11 a0_0 a0_1 _ _ l1 _ _ l2 t287 t290 _ ?side1 ?side2 ?side3 ?side4 A78.out).mono ?_); (case side1 => exact Kd.C_below HR1.out (bw4 HB.out GE266.out GE267.out GE273.out GE286.out)); (case side2 => exact HC1.out); (case side3 => exact Kd.C_below HR2.out (bw4 HB.out GE266.out GE267.out GE273.out GE286.out)); (case side4 => exact HC2.out); rintro e w131 ⟨v288, rfl, ho0, hb⟩; refine ⟨_, rfl, ?_⟩; have n0_ := Ax (Kd.R_lower (Kd.R_newB (Kd.R_newB ho0 (g := gb266) (o := .cells #[.int .i64 a0_0, .int .i64 a0_1] 23 (0, 0)) (bf2 BK266.out NB266_286.out NB266_286.out)) (g := gb267) (o := .cells #[.int .i64 a3_0, .int .i64 a3_1] 23 (0, 0)) (bf2 BK267.out NB267_286.out NB267_286.out)) (below_size (bw4 HB.out GE266.out GE267.out GE273.out GE286.out))); have n1_ := Bx2 BK266 hb NB266_286.out NB266_286.out; have n2_ := Bx2 BK267 hb NB267_286.out NB267_286.out; have n3_ := Bx2 BK273 hb NB273_286.out NB273_286.out; have n4_ := Ax (blk_below (g := gb286) (o := .cells #[.int .u8 t283, .int .i64 t284] 35 (0, 0)) (by (with_reducible repeat (first | refine blk_drewN ?_ _ | refine blk_drew ?_ | refine blk_alloc ?_ _)); refine blk_put (cs := #[.int .u8 t283, .int .i64 0]) ?_ 1 _ rfl; (with_reducible repeat (first | refine blk_drewN ?_ _ | refine blk_drew ?_ | refine blk_alloc ?_ _)); refine blk_put (cs := #[.int .u8 0, .int .i64 0]) ?_ 0 _ rfl; (with_reducible repeat (first | refine blk_drewN ?_ _ | refine blk_drew ?_ | refine blk_alloc ?_ _)); exact BK286.out) hb); have n5_ := Bs4 HB hb GE266.out GE267.out GE273.out GE286.out; clear BK266; clear BK267; clear BK273; clear BK286; clear HB; have HO289 := n0_; have BK266 := n1_; have BK267 := n2_; have BK273 := n3_; have BK286 := n4_; have HB := n5_; clear n0_ n1_ n2_ n3_ n4_ n5_; (try clear hb); (try clear ho0); obtain ⟨Ao132, co132, eo132⟩ := Kd.R_slice HO289.out; subst eo132) | ((with_reducible refine gate_callee (f := 23) rfl ?_); refine goesL_ (some 98) rfl rfl Try.func23 (by kernel_rfl) rfl #[.slice Ao132 t287.length co132, .int .i64 a4] rfl gS ?_; (with_reducible refine (ivl_Has.calls kj11 _ _ t287 a4 t291 t292 _ ?side1 ?side2 A79.out).mono ?_); (case side1 => repeat (first | exact (Kd.R_reads' HO289.out).2.2 | (with_reducible refine Kd.C_alloc ?_ _) | (with_reducible refine Kd.C_drewN ?_ _) | (with_reducible refine Kd.C_drew ?_))); (case side2 => exact (Kd.R_reads' HO289.out).2.1); rintro e w133 ⟨rfl, hb⟩; refine ⟨_, rfl, ?_⟩; have n0_ := Ax (Kd.R_below (by (with_reducible repeat (first | apply Kd.R_alloc | apply Kd.R_drewN | apply Kd.R_drew)); exact HO289.out) hb); have n1_ := Bx0 BK266 hb; have n2_ := Bx0 BK267 hb; have n3_ := Bx0 BK273 hb; have n4_ := Bx0 BK286 hb; have n5_ := Bs4 HB hb GE266.out GE267.out GE273.out GE286.out; clear HO289; clear BK266; clear BK267; clear BK273; clear BK286; clear HB; have HO289 := n0_; have BK266 := n1_; have BK267 := n2_; have BK273 := n3_; have BK286 := n4_; have HB := n5_; clear n0_ n1_ n2_ n3_ n4_ n5_; (try clear hb); obtain ⟨hcz134_0, hcz134_1, hfz134_0, hfz134_1⟩ := cl2 BK266) | ((with_reducible refine gate_callee (f := 12) rfl ?_); refine goesL_ (some 103) rfl rfl Try.func12 (by kernel_rfl) rfl #[.agg #[.int .i64 a0_0, .int .i64 a0_1], .slice A2 l2.length c2] rfl gS ?_; (with_reducible refine (line_Check.calls kj11 a0_0 a0_1 _ _ l2 t293 _ ?side1 ?side2 A80.out).mono ?_); (case side1 => repeat (first | exact (Kd.C_below HR2.out HB.out) | (with_reducible refine Kd.C_alloc ?_ _) | (with_reducible refine Kd.C_drewN ?_ _) | (with_reducible refine Kd.C_drew ?_))); (case side2 => exact HC2.out); rintro e w135 ⟨rfl, hb⟩; refine ⟨_, rfl, ?_⟩; have n0_ := Ax (Kd.R_below (by (with_reducible repeat (first | apply Kd.R_alloc | apply Kd.R_drewN | apply Kd.R_drew)); exact HO289.out) hb); have n1_ := Bx0 BK266 hb; have n2_ := Bx0 BK267 hb; have n3_ := Bx0 BK273 hb; have n4_ := Bx0 BK286 hb; have n5_ := Bs4 HB hb GE266.out GE267.out GE273.out GE286.out; clear HO289; clear BK266; clear BK267; clear BK273; clear BK286; clear HB; have HO289 := n0_; have BK266 := n1_; have BK267 := n2_; have BK273 := n3_; have BK286 := n4_; have HB := n5_; clear n0_ n1_ n2_ n3_ n4_ n5_; (try clear hb)))
            go_ret
            exact ⟨eS, bw4 HB.out GE266.out GE267.out GE273.out GE286.out⟩
          ·rw [if_neg c101] at H
           have c101b0 : (t272 == 0) = false := beq_eq_false_iff_ne.mpr c101
           have c101b1 : (t272 != 0) = true := bne_iff_ne.mpr c101
           obtain rfl := Option.some.inj H
           have hnb136 := NB266_267.out
           have hnc136 := NB267_266.out
           have hnb137 := NB266_273.out
           have hnc137 := NB273_266.out
           obtain ⟨hcz138_0, hcz138_1, hfz138_0, hfz138_1⟩ := cl2 BK266
           go_wp2_with (first | ((with_reducible refine gate_callee (f := 14) rfl ?_); refine goesL_ (some 85) rfl rfl Try.func14 (by kernel_rfl) rfl #[.agg #[.int .i64 a0_0, .int .i64 a0_1], .slice A2 l2.length c2, .int .i64 a4] rfl gS ?_; (with_reducible refine (line_At.calls kj11 a0_0 a0_1 _ _ l2 a4 t283 t284 t285 _ ?side1 ?side2 A77.out).mono ?_); (case side1 => repeat (first | exact (Kd.C_below HR2.out HB.out) | (with_reducible refine Kd.C_alloc ?_ _) | (with_reducible refine Kd.C_drewN ?_ _) | (with_reducible refine Kd.C_drew ?_))); (case side2 => exact HC2.out); rintro e w139 ⟨rfl, hb⟩; refine ⟨_, rfl, ?_⟩; replace BK266 := Bx0 BK266 hb; replace BK267 := Bx0 BK267 hb; replace BK273 := Bx0 BK273 hb; replace HB := Bs3 HB hb GE266.out GE267.out GE273.out; (try clear hb)) | ((with_reducible refine gate_dst (N := 17) rfl ?_); refine box_event ?hg (N := 17) ?hd (cs := #[.int .u8 0, .int .i64 0]) (t := 35) ?hr ?_; (case hd => rfl); (case hg => rfl); (case hr => first | (go_simp; done) | (go_simp; rfl)); intro gb286 hg w140 hbox hb; have n0_ := Bx0 BK266 hb; have n1_ := Bx0 BK267 hb; have n2_ := Bx0 BK273 hb; have n3_ := Bs3 HB hb GE266.out GE267.out GE273.out; have n4_ := Ax (hbox); have n5_ := Gw3 HB hg GE266.out GE267.out GE273.out; have n6_ := Gw3 HB hg GE266.out GE267.out GE273.out; have n7_ := Nl0 BK266 hg; have n8_ := Nr0 BK266 hg; have n9_ := Nl0 BK267 hg; have n10_ := Nr0 BK267 hg; have n11_ := Nl0 BK273 hg; have n12_ := Nr0 BK273 hg; clear BK266; clear BK267; clear BK273; clear HB; have BK266 := n0_; have BK267 := n1_; have BK273 := n2_; have HB := n3_; have BK286 := n4_; have GW286 := n5_; have GE286 := n6_; have NB266_286 := n7_; have NB286_266 := n8_; have NB267_286 := n9_; have NB286_267 := n10_; have NB273_286 := n11_; have NB286_273 := n12_; clear n0_ n1_ n2_ n3_ n4_ n5_ n6_ n7_ n8_ n9_ n10_ n11_ n12_; clear hb hbox hg; have hnb141 := NB286_266.out; have hnc141 := NB266_286.out; have hnb142 := NB286_267.out; have hnc142 := NB267_286.out; have hnb143 := NB286_273.out; have hnc143 := NB273_286.out; obtain ⟨hcz144_0, hcz144_1, hfz144_0, hfz144_1⟩ := cl2 BK286; obtain ⟨hcz145_0, hcz145_1, hfz145_0, hfz145_1⟩ := cl2 BK266) | ((with_reducible refine gate_callee (f := 20) rfl ?_); refine goesL_ (some 92) rfl rfl Try.func20 (by kernel_rfl) rfl #[.agg #[.int .i64 a0_0, .int .i64 a0_1], .slice A1 l1.length c1, .slice A2 l2.length c2] rfl gS ?_; (with_reducible refine (line_Differ.calls kj11 a0_0 a0_1 _ _ l1 _ _ l2 t287 t290 _ ?side1 ?side2 ?side3 ?side4 A78.out).mono ?_); (case side1 => exact Kd.C_below HR1.out (bw4 HB.out GE266.out GE267.out GE273.out GE286.out)); (case side2 => exact HC1.out); (case side3 => exact Kd.C_below HR2.out (bw4 HB.out GE266.out GE267.out GE273.out GE286.out)); (case side4 => exact HC2.out); rintro e w146 ⟨v288, rfl, ho0, hb⟩; refine ⟨_, rfl, ?_⟩; have n0_ := Ax (Kd.R_lower (Kd.R_newB (Kd.R_newB ho0 (g := gb266) (o := .cells #[.int .i64 a0_0, .int .i64 a0_1] 23 (0, 0)) (bf2 BK266.out NB266_286.out NB266_286.out)) (g := gb267) (o := .cells #[.int .i64 a3_0, .int .i64 a3_1] 23 (0, 0)) (bf2 BK267.out NB267_286.out NB267_286.out)) (below_size (bw4 HB.out GE266.out GE267.out GE273.out GE286.out))); have n1_ := Bx2 BK266 hb NB266_286.out NB266_286.out; have n2_ := Bx2 BK267 hb NB267_286.out NB267_286.out; have n3_ := Bx2 BK273 hb NB273_286.out NB273_286.out; have n4_ := Ax (blk_below (g := gb286) (o := .cells #[.int .u8 t283, .int .i64 t284] 35 (0, 0)) (by (with_reducible repeat (first | refine blk_drewN ?_ _ | refine blk_drew ?_ | refine blk_alloc ?_ _)); refine blk_put (cs := #[.int .u8 t283, .int .i64 0]) ?_ 1 _ rfl; (with_reducible repeat (first | refine blk_drewN ?_ _ | refine blk_drew ?_ | refine blk_alloc ?_ _)); refine blk_put (cs := #[.int .u8 0, .int .i64 0]) ?_ 0 _ rfl; (with_reducible repeat (first | refine blk_drewN ?_ _ | refine blk_drew ?_ | refine blk_alloc ?_ _)); exact BK286.out) hb); have n5_ := Bs4 HB hb GE266.out GE267.out GE273.out GE286.out; clear BK266; clear BK267; clear BK273; clear BK286; clear HB; have HO289 := n0_; have BK266 := n1_; have BK267 := n2_; have BK273 := n3_; have BK286 := n4_; have HB := n5_; clear n0_ n1_ n2_ n3_ n4_ n5_; (try clear hb); (try clear ho0); obtain ⟨Ao147, co147, eo147⟩ := Kd.R_slice HO289.out; subst eo147) | ((with_reducible refine gate_callee (f := 23) rfl ?_); refine goesL_ (some 98) rfl rfl Try.func23 (by kernel_rfl) rfl #[.slice Ao147 t287.length co147, .int .i64 a4] rfl gS ?_; (with_reducible refine (ivl_Has.calls kj11 _ _ t287 a4 t291 t292 _ ?side1 ?side2 A79.out).mono ?_); (case side1 => repeat (first | exact (Kd.R_reads' HO289.out).2.2 | (with_reducible refine Kd.C_alloc ?_ _) | (with_reducible refine Kd.C_drewN ?_ _) | (with_reducible refine Kd.C_drew ?_))); (case side2 => exact (Kd.R_reads' HO289.out).2.1); rintro e w148 ⟨rfl, hb⟩; refine ⟨_, rfl, ?_⟩; have n0_ := Ax (Kd.R_below (by (with_reducible repeat (first | apply Kd.R_alloc | apply Kd.R_drewN | apply Kd.R_drew)); exact HO289.out) hb); have n1_ := Bx0 BK266 hb; have n2_ := Bx0 BK267 hb; have n3_ := Bx0 BK273 hb; have n4_ := Bx0 BK286 hb; have n5_ := Bs4 HB hb GE266.out GE267.out GE273.out GE286.out; clear HO289; clear BK266; clear BK267; clear BK273; clear BK286; clear HB; have HO289 := n0_; have BK266 := n1_; have BK267 := n2_; have BK273 := n3_; have BK286 := n4_; have HB := n5_; clear n0_ n1_ n2_ n3_ n4_ n5_; (try clear hb); obtain ⟨hcz149_0, hcz149_1, hfz149_0, hfz149_1⟩ := cl2 BK266) | ((with_reducible refine gate_callee (f := 12) rfl ?_); refine goesL_ (some 103) rfl rfl Try.func12 (by kernel_rfl) rfl #[.agg #[.int .i64 a0_0, .int .i64 a0_1], .slice A2 l2.length c2] rfl gS ?_; (with_reducible refine (line_Check.calls kj11 a0_0 a0_1 _ _ l2 t293 _ ?side1 ?side2 A80.out).mono ?_); (case side1 => repeat (first | exact (Kd.C_below HR2.out HB.out) | (with_reducible refine Kd.C_alloc ?_ _) | (with_reducible refine Kd.C_drewN ?_ _) | (with_reducible refine Kd.C_drew ?_))); (case side2 => exact HC2.out); rintro e w150 ⟨rfl, hb⟩; refine ⟨_, rfl, ?_⟩; have n0_ := Ax (Kd.R_below (by (with_reducible repeat (first | apply Kd.R_alloc | apply Kd.R_drewN | apply Kd.R_drew)); exact HO289.out) hb); have n1_ := Bx0 BK266 hb; have n2_ := Bx0 BK267 hb; have n3_ := Bx0 BK273 hb; have n4_ := Bx0 BK286 hb; have n5_ := Bs4 HB hb GE266.out GE267.out GE273.out GE286.out; clear HO289; clear BK266; clear BK267; clear BK273; clear BK286; clear HB; have HO289 := n0_; have BK266 := n1_; have BK267 := n2_; have BK273 := n3_; have BK286 := n4_; have HB := n5_; clear n0_ n1_ n2_ n3_ n4_ n5_; (try clear hb)))
           go_ret
           exact ⟨eS, bw4 HB.out GE266.out GE267.out GE273.out GE286.out⟩
         ·rw [if_neg c100] at H
          exact absurd H (by simp)
        ·rw [if_neg c99] at H
         exact absurd H (by simp)
      ·rw [if_neg c82] at H
       have c82b0 : (t290 == 11) = false := beq_eq_false_iff_ne.mpr c82
       have c82b1 : (t290 != 11) = true := bne_iff_ne.mpr c82
       by_cases c151 : t290 = 0
       ·rw [if_pos c151] at H
        have c151b0 : (t290 == 0) = true := beq_iff_eq.mpr c151
        have c151b1 : (t290 != 0) = false := bne_eq_false_iff_eq.mpr c151
        clear c151
        by_cases c152 : t292 = 0
        ·rw [if_pos c152] at H
         have c152b0 : (t292 == 0) = true := beq_iff_eq.mpr c152
         have c152b1 : (t292 != 0) = false := bne_eq_false_iff_eq.mpr c152
         clear c152
         by_cases c153 : t272 = 0
         ·rw [if_pos c153] at H
          have c153b0 : (t272 == 0) = true := beq_iff_eq.mpr c153
          have c153b1 : (t272 != 0) = false := bne_eq_false_iff_eq.mpr c153
          clear c153
          by_cases c154 : t285 = 0
          ·rw [if_pos c154] at H
           have c154b0 : (t285 == 0) = true := beq_iff_eq.mpr c154
           have c154b1 : (t285 != 0) = false := bne_eq_false_iff_eq.mpr c154
           clear c154
           obtain rfl := Option.some.inj H
           have hnb155 := NB266_267.out
           have hnc155 := NB267_266.out
           have hnb156 := NB266_273.out
           have hnc156 := NB273_266.out
           obtain ⟨hcz157_0, hcz157_1, hfz157_0, hfz157_1⟩ := cl2 BK266
           go_wp2_with (first | ((with_reducible refine gate_callee (f := 14) rfl ?_); refine goesL_ (some 85) rfl rfl Try.func14 (by kernel_rfl) rfl #[.agg #[.int .i64 a0_0, .int .i64 a0_1], .slice A2 l2.length c2, .int .i64 a4] rfl gS ?_; (with_reducible refine (line_At.calls kj11 a0_0 a0_1 _ _ l2 a4 t283 t284 t285 _ ?side1 ?side2 A77.out).mono ?_); (case side1 => repeat (first | exact (Kd.C_below HR2.out HB.out) | (with_reducible refine Kd.C_alloc ?_ _) | (with_reducible refine Kd.C_drewN ?_ _) | (with_reducible refine Kd.C_drew ?_))); (case side2 => exact HC2.out); rintro e w158 ⟨rfl, hb⟩; refine ⟨_, rfl, ?_⟩; replace BK266 := Bx0 BK266 hb; replace BK267 := Bx0 BK267 hb; replace BK273 := Bx0 BK273 hb; replace HB := Bs3 HB hb GE266.out GE267.out GE273.out; (try clear hb)) | ((with_reducible refine gate_dst (N := 17) rfl ?_); refine box_event ?hg (N := 17) ?hd (cs := #[.int .u8 0, .int .i64 0]) (t := 35) ?hr ?_; (case hd => rfl); (case hg => rfl); (case hr => first | (go_simp; done) | (go_simp; rfl)); intro gb286 hg w159 hbox hb; have n0_ := Bx0 BK266 hb; have n1_ := Bx0 BK267 hb; have n2_ := Bx0 BK273 hb; have n3_ := Bs3 HB hb GE266.out GE267.out GE273.out; have n4_ := Ax (hbox); have n5_ := Gw3 HB hg GE266.out GE267.out GE273.out; have n6_ := Gw3 HB hg GE266.out GE267.out GE273.out; have n7_ := Nl0 BK266 hg; have n8_ := Nr0 BK266 hg; have n9_ := Nl0 BK267 hg; have n10_ := Nr0 BK267 hg; have n11_ := Nl0 BK273 hg; have n12_ := Nr0 BK273 hg; clear BK266; clear BK267; clear BK273; clear HB; have BK266 := n0_; have BK267 := n1_; have BK273 := n2_; have HB := n3_; have BK286 := n4_; have GW286 := n5_; have GE286 := n6_; have NB266_286 := n7_; have NB286_266 := n8_; have NB267_286 := n9_; have NB286_267 := n10_; have NB273_286 := n11_; have NB286_273 := n12_; clear n0_ n1_ n2_ n3_ n4_ n5_ n6_ n7_ n8_ n9_ n10_ n11_ n12_; clear hb hbox hg; have hnb160 := NB286_266.out; have hnc160 := NB266_286.out; have hnb161 := NB286_267.out; have hnc161 := NB267_286.out; have hnb162 := NB286_273.out; have hnc162 := NB273_286.out; obtain ⟨hcz163_0, hcz163_1, hfz163_0, hfz163_1⟩ := cl2 BK286; obtain ⟨hcz164_0, hcz164_1, hfz164_0, hfz164_1⟩ := cl2 BK266) | ((with_reducible refine gate_callee (f := 20) rfl ?_); refine goesL_ (some 92) rfl rfl Try.func20 (by kernel_rfl) rfl #[.agg #[.int .i64 a0_0, .int .i64 a0_1], .slice A1 l1.length c1, .slice A2 l2.length c2] rfl gS ?_; (with_reducible refine (line_Differ.calls kj11 a0_0 a0_1 _ _ l1 _ _ l2 t287 t290 _ ?side1 ?side2 ?side3 ?side4 A78.out).mono ?_); (case side1 => exact Kd.C_below HR1.out (bw4 HB.out GE266.out GE267.out GE273.out GE286.out)); (case side2 => exact HC1.out); (case side3 => exact Kd.C_below HR2.out (bw4 HB.out GE266.out GE267.out GE273.out GE286.out)); (case side4 => exact HC2.out); rintro e w165 ⟨v288, rfl, ho0, hb⟩; refine ⟨_, rfl, ?_⟩; have n0_ := Ax (Kd.R_lower (Kd.R_newB (Kd.R_newB ho0 (g := gb266) (o := .cells #[.int .i64 a0_0, .int .i64 a0_1] 23 (0, 0)) (bf2 BK266.out NB266_286.out NB266_286.out)) (g := gb267) (o := .cells #[.int .i64 a3_0, .int .i64 a3_1] 23 (0, 0)) (bf2 BK267.out NB267_286.out NB267_286.out)) (below_size (bw4 HB.out GE266.out GE267.out GE273.out GE286.out))); have n1_ := Bx2 BK266 hb NB266_286.out NB266_286.out; have n2_ := Bx2 BK267 hb NB267_286.out NB267_286.out; have n3_ := Bx2 BK273 hb NB273_286.out NB273_286.out; have n4_ := Ax (blk_below (g := gb286) (o := .cells #[.int .u8 t283, .int .i64 t284] 35 (0, 0)) (by (with_reducible repeat (first | refine blk_drewN ?_ _ | refine blk_drew ?_ | refine blk_alloc ?_ _)); refine blk_put (cs := #[.int .u8 t283, .int .i64 0]) ?_ 1 _ rfl; (with_reducible repeat (first | refine blk_drewN ?_ _ | refine blk_drew ?_ | refine blk_alloc ?_ _)); refine blk_put (cs := #[.int .u8 0, .int .i64 0]) ?_ 0 _ rfl; (with_reducible repeat (first | refine blk_drewN ?_ _ | refine blk_drew ?_ | refine blk_alloc ?_ _)); exact BK286.out) hb); have n5_ := Bs4 HB hb GE266.out GE267.out GE273.out GE286.out; clear BK266; clear BK267; clear BK273; clear BK286; clear HB; have HO289 := n0_; have BK266 := n1_; have BK267 := n2_; have BK273 := n3_; have BK286 := n4_; have HB := n5_; clear n0_ n1_ n2_ n3_ n4_ n5_; (try clear hb); (try clear ho0); obtain ⟨Ao166, co166, eo166⟩ := Kd.R_slice HO289.out; subst eo166) | ((with_reducible refine gate_callee (f := 23) rfl ?_); refine goesL_ (some 98) rfl rfl Try.func23 (by kernel_rfl) rfl #[.slice Ao166 t287.length co166, .int .i64 a4] rfl gS ?_; (with_reducible refine (ivl_Has.calls kj11 _ _ t287 a4 t291 t292 _ ?side1 ?side2 A79.out).mono ?_); (case side1 => repeat (first | exact (Kd.R_reads' HO289.out).2.2 | (with_reducible refine Kd.C_alloc ?_ _) | (with_reducible refine Kd.C_drewN ?_ _) | (with_reducible refine Kd.C_drew ?_))); (case side2 => exact (Kd.R_reads' HO289.out).2.1); rintro e w167 ⟨rfl, hb⟩; refine ⟨_, rfl, ?_⟩; have n0_ := Ax (Kd.R_below (by (with_reducible repeat (first | apply Kd.R_alloc | apply Kd.R_drewN | apply Kd.R_drew)); exact HO289.out) hb); have n1_ := Bx0 BK266 hb; have n2_ := Bx0 BK267 hb; have n3_ := Bx0 BK273 hb; have n4_ := Bx0 BK286 hb; have n5_ := Bs4 HB hb GE266.out GE267.out GE273.out GE286.out; clear HO289; clear BK266; clear BK267; clear BK273; clear BK286; clear HB; have HO289 := n0_; have BK266 := n1_; have BK267 := n2_; have BK273 := n3_; have BK286 := n4_; have HB := n5_; clear n0_ n1_ n2_ n3_ n4_ n5_; (try clear hb); obtain ⟨hcz168_0, hcz168_1, hfz168_0, hfz168_1⟩ := cl2 BK266) | ((with_reducible refine gate_callee (f := 12) rfl ?_); refine goesL_ (some 103) rfl rfl Try.func12 (by kernel_rfl) rfl #[.agg #[.int .i64 a0_0, .int .i64 a0_1], .slice A2 l2.length c2] rfl gS ?_; (with_reducible refine (line_Check.calls kj11 a0_0 a0_1 _ _ l2 t293 _ ?side1 ?side2 A80.out).mono ?_); (case side1 => repeat (first | exact (Kd.C_below HR2.out HB.out) | (with_reducible refine Kd.C_alloc ?_ _) | (with_reducible refine Kd.C_drewN ?_ _) | (with_reducible refine Kd.C_drew ?_))); (case side2 => exact HC2.out); rintro e w169 ⟨rfl, hb⟩; refine ⟨_, rfl, ?_⟩; have n0_ := Ax (Kd.R_below (by (with_reducible repeat (first | apply Kd.R_alloc | apply Kd.R_drewN | apply Kd.R_drew)); exact HO289.out) hb); have n1_ := Bx0 BK266 hb; have n2_ := Bx0 BK267 hb; have n3_ := Bx0 BK273 hb; have n4_ := Bx0 BK286 hb; have n5_ := Bs4 HB hb GE266.out GE267.out GE273.out GE286.out; clear HO289; clear BK266; clear BK267; clear BK273; clear BK286; clear HB; have HO289 := n0_; have BK266 := n1_; have BK267 := n2_; have BK273 := n3_; have BK286 := n4_; have HB := n5_; clear n0_ n1_ n2_ n3_ n4_ n5_; (try clear hb); obtain ⟨hcz170_0, hcz170_1, hfz170_0, hfz170_1⟩ := cl2 BK286; have hnb171 := NB273_267.out; have hnc171 := NB267_273.out; obtain ⟨hcz172_0, hcz172_1, hfz172_0, hfz172_1⟩ := cl2 BK273))
           go_ret
           exact ⟨eS, bw4 HB.out GE266.out GE267.out GE273.out GE286.out⟩
          ·rw [if_neg c154] at H
           have c154b0 : (t285 == 0) = false := beq_eq_false_iff_ne.mpr c154
           have c154b1 : (t285 != 0) = true := bne_iff_ne.mpr c154
           obtain rfl := Option.some.inj H
           have hnb173 := NB266_267.out
           have hnc173 := NB267_266.out
           have hnb174 := NB266_273.out
           have hnc174 := NB273_266.out
           obtain ⟨hcz175_0, hcz175_1, hfz175_0, hfz175_1⟩ := cl2 BK266
           go_wp2_with (first | ((with_reducible refine gate_callee (f := 14) rfl ?_); refine goesL_ (some 85) rfl rfl Try.func14 (by kernel_rfl) rfl #[.agg #[.int .i64 a0_0, .int .i64 a0_1], .slice A2 l2.length c2, .int .i64 a4] rfl gS ?_; (with_reducible refine (line_At.calls kj11 a0_0 a0_1 _ _ l2 a4 t283 t284 t285 _ ?side1 ?side2 A77.out).mono ?_); (case side1 => repeat (first | exact (Kd.C_below HR2.out HB.out) | (with_reducible refine Kd.C_alloc ?_ _) | (with_reducible refine Kd.C_drewN ?_ _) | (with_reducible refine Kd.C_drew ?_))); (case side2 => exact HC2.out); rintro e w176 ⟨rfl, hb⟩; refine ⟨_, rfl, ?_⟩; replace BK266 := Bx0 BK266 hb; replace BK267 := Bx0 BK267 hb; replace BK273 := Bx0 BK273 hb; replace HB := Bs3 HB hb GE266.out GE267.out GE273.out; (try clear hb)) | ((with_reducible refine gate_dst (N := 17) rfl ?_); refine box_event ?hg (N := 17) ?hd (cs := #[.int .u8 0, .int .i64 0]) (t := 35) ?hr ?_; (case hd => rfl); (case hg => rfl); (case hr => first | (go_simp; done) | (go_simp; rfl)); intro gb286 hg w177 hbox hb; have n0_ := Bx0 BK266 hb; have n1_ := Bx0 BK267 hb; have n2_ := Bx0 BK273 hb; have n3_ := Bs3 HB hb GE266.out GE267.out GE273.out; have n4_ := Ax (hbox); have n5_ := Gw3 HB hg GE266.out GE267.out GE273.out; have n6_ := Gw3 HB hg GE266.out GE267.out GE273.out; have n7_ := Nl0 BK266 hg; have n8_ := Nr0 BK266 hg; have n9_ := Nl0 BK267 hg; have n10_ := Nr0 BK267 hg; have n11_ := Nl0 BK273 hg; have n12_ := Nr0 BK273 hg; clear BK266; clear BK267; clear BK273; clear HB; have BK266 := n0_; have BK267 := n1_; have BK273 := n2_; have HB := n3_; have BK286 := n4_; have GW286 := n5_; have GE286 := n6_; have NB266_286 := n7_; have NB286_266 := n8_; have NB267_286 := n9_; have NB286_267 := n10_; have NB273_286 := n11_; have NB286_273 := n12_; clear n0_ n1_ n2_ n3_ n4_ n5_ n6_ n7_ n8_ n9_ n10_ n11_ n12_; clear hb hbox hg; have hnb178 := NB286_266.out; have hnc178 := NB266_286.out; have hnb179 := NB286_267.out; have hnc179 := NB267_286.out; have hnb180 := NB286_273.out; have hnc180 := NB273_286.out; obtain ⟨hcz181_0, hcz181_1, hfz181_0, hfz181_1⟩ := cl2 BK286; obtain ⟨hcz182_0, hcz182_1, hfz182_0, hfz182_1⟩ := cl2 BK266) | ((with_reducible refine gate_callee (f := 20) rfl ?_); refine goesL_ (some 92) rfl rfl Try.func20 (by kernel_rfl) rfl #[.agg #[.int .i64 a0_0, .int .i64 a0_1], .slice A1 l1.length c1, .slice A2 l2.length c2] rfl gS ?_; (with_reducible refine (line_Differ.calls kj11 a0_0 a0_1 _ _ l1 _ _ l2 t287 t290 _ ?side1 ?side2 ?side3 ?side4 A78.out).mono ?_); (case side1 => exact Kd.C_below HR1.out (bw4 HB.out GE266.out GE267.out GE273.out GE286.out)); (case side2 => exact HC1.out); (case side3 => exact Kd.C_below HR2.out (bw4 HB.out GE266.out GE267.out GE273.out GE286.out)); (case side4 => exact HC2.out); rintro e w183 ⟨v288, rfl, ho0, hb⟩; refine ⟨_, rfl, ?_⟩; have n0_ := Ax (Kd.R_lower (Kd.R_newB (Kd.R_newB ho0 (g := gb266) (o := .cells #[.int .i64 a0_0, .int .i64 a0_1] 23 (0, 0)) (bf2 BK266.out NB266_286.out NB266_286.out)) (g := gb267) (o := .cells #[.int .i64 a3_0, .int .i64 a3_1] 23 (0, 0)) (bf2 BK267.out NB267_286.out NB267_286.out)) (below_size (bw4 HB.out GE266.out GE267.out GE273.out GE286.out))); have n1_ := Bx2 BK266 hb NB266_286.out NB266_286.out; have n2_ := Bx2 BK267 hb NB267_286.out NB267_286.out; have n3_ := Bx2 BK273 hb NB273_286.out NB273_286.out; have n4_ := Ax (blk_below (g := gb286) (o := .cells #[.int .u8 t283, .int .i64 t284] 35 (0, 0)) (by (with_reducible repeat (first | refine blk_drewN ?_ _ | refine blk_drew ?_ | refine blk_alloc ?_ _)); refine blk_put (cs := #[.int .u8 t283, .int .i64 0]) ?_ 1 _ rfl; (with_reducible repeat (first | refine blk_drewN ?_ _ | refine blk_drew ?_ | refine blk_alloc ?_ _)); refine blk_put (cs := #[.int .u8 0, .int .i64 0]) ?_ 0 _ rfl; (with_reducible repeat (first | refine blk_drewN ?_ _ | refine blk_drew ?_ | refine blk_alloc ?_ _)); exact BK286.out) hb); have n5_ := Bs4 HB hb GE266.out GE267.out GE273.out GE286.out; clear BK266; clear BK267; clear BK273; clear BK286; clear HB; have HO289 := n0_; have BK266 := n1_; have BK267 := n2_; have BK273 := n3_; have BK286 := n4_; have HB := n5_; clear n0_ n1_ n2_ n3_ n4_ n5_; (try clear hb); (try clear ho0); obtain ⟨Ao184, co184, eo184⟩ := Kd.R_slice HO289.out; subst eo184) | ((with_reducible refine gate_callee (f := 23) rfl ?_); refine goesL_ (some 98) rfl rfl Try.func23 (by kernel_rfl) rfl #[.slice Ao184 t287.length co184, .int .i64 a4] rfl gS ?_; (with_reducible refine (ivl_Has.calls kj11 _ _ t287 a4 t291 t292 _ ?side1 ?side2 A79.out).mono ?_); (case side1 => repeat (first | exact (Kd.R_reads' HO289.out).2.2 | (with_reducible refine Kd.C_alloc ?_ _) | (with_reducible refine Kd.C_drewN ?_ _) | (with_reducible refine Kd.C_drew ?_))); (case side2 => exact (Kd.R_reads' HO289.out).2.1); rintro e w185 ⟨rfl, hb⟩; refine ⟨_, rfl, ?_⟩; have n0_ := Ax (Kd.R_below (by (with_reducible repeat (first | apply Kd.R_alloc | apply Kd.R_drewN | apply Kd.R_drew)); exact HO289.out) hb); have n1_ := Bx0 BK266 hb; have n2_ := Bx0 BK267 hb; have n3_ := Bx0 BK273 hb; have n4_ := Bx0 BK286 hb; have n5_ := Bs4 HB hb GE266.out GE267.out GE273.out GE286.out; clear HO289; clear BK266; clear BK267; clear BK273; clear BK286; clear HB; have HO289 := n0_; have BK266 := n1_; have BK267 := n2_; have BK273 := n3_; have BK286 := n4_; have HB := n5_; clear n0_ n1_ n2_ n3_ n4_ n5_; (try clear hb); obtain ⟨hcz186_0, hcz186_1, hfz186_0, hfz186_1⟩ := cl2 BK266) | ((with_reducible refine gate_callee (f := 12) rfl ?_); refine goesL_ (some 103) rfl rfl Try.func12 (by kernel_rfl) rfl #[.agg #[.int .i64 a0_0, .int .i64 a0_1], .slice A2 l2.length c2] rfl gS ?_; (with_reducible refine (line_Check.calls kj11 a0_0 a0_1 _ _ l2 t293 _ ?side1 ?side2 A80.out).mono ?_); (case side1 => repeat (first | exact (Kd.C_below HR2.out HB.out) | (with_reducible refine Kd.C_alloc ?_ _) | (with_reducible refine Kd.C_drewN ?_ _) | (with_reducible refine Kd.C_drew ?_))); (case side2 => exact HC2.out); rintro e w187 ⟨rfl, hb⟩; refine ⟨_, rfl, ?_⟩; have n0_ := Ax (Kd.R_below (by (with_reducible repeat (first | apply Kd.R_alloc | apply Kd.R_drewN | apply Kd.R_drew)); exact HO289.out) hb); have n1_ := Bx0 BK266 hb; have n2_ := Bx0 BK267 hb; have n3_ := Bx0 BK273 hb; have n4_ := Bx0 BK286 hb; have n5_ := Bs4 HB hb GE266.out GE267.out GE273.out GE286.out; clear HO289; clear BK266; clear BK267; clear BK273; clear BK286; clear HB; have HO289 := n0_; have BK266 := n1_; have BK267 := n2_; have BK273 := n3_; have BK286 := n4_; have HB := n5_; clear n0_ n1_ n2_ n3_ n4_ n5_; (try clear hb)))
           go_ret
           exact ⟨eS, bw4 HB.out GE266.out GE267.out GE273.out GE286.out⟩
         ·rw [if_neg c153] at H
          have c153b0 : (t272 == 0) = false := beq_eq_false_iff_ne.mpr c153
          have c153b1 : (t272 != 0) = true := bne_iff_ne.mpr c153
          obtain rfl := Option.some.inj H
          have hnb188 := NB266_267.out
          have hnc188 := NB267_266.out
          have hnb189 := NB266_273.out
          have hnc189 := NB273_266.out
          obtain ⟨hcz190_0, hcz190_1, hfz190_0, hfz190_1⟩ := cl2 BK266
          go_wp2_with (first | ((with_reducible refine gate_callee (f := 14) rfl ?_); refine goesL_ (some 85) rfl rfl Try.func14 (by kernel_rfl) rfl #[.agg #[.int .i64 a0_0, .int .i64 a0_1], .slice A2 l2.length c2, .int .i64 a4] rfl gS ?_; (with_reducible refine (line_At.calls kj11 a0_0 a0_1 _ _ l2 a4 t283 t284 t285 _ ?side1 ?side2 A77.out).mono ?_); (case side1 => repeat (first | exact (Kd.C_below HR2.out HB.out) | (with_reducible refine Kd.C_alloc ?_ _) | (with_reducible refine Kd.C_drewN ?_ _) | (with_reducible refine Kd.C_drew ?_))); (case side2 => exact HC2.out); rintro e w191 ⟨rfl, hb⟩; refine ⟨_, rfl, ?_⟩; replace BK266 := Bx0 BK266 hb; replace BK267 := Bx0 BK267 hb; replace BK273 := Bx0 BK273 hb; replace HB := Bs3 HB hb GE266.out GE267.out GE273.out; (try clear hb)) | ((with_reducible refine gate_dst (N := 17) rfl ?_); refine box_event ?hg (N := 17) ?hd (cs := #[.int .u8 0, .int .i64 0]) (t := 35) ?hr ?_; (case hd => rfl); (case hg => rfl); (case hr => first | (go_simp; done) | (go_simp; rfl)); intro gb286 hg w192 hbox hb; have n0_ := Bx0 BK266 hb; have n1_ := Bx0 BK267 hb; have n2_ := Bx0 BK273 hb; have n3_ := Bs3 HB hb GE266.out GE267.out GE273.out; have n4_ := Ax (hbox); have n5_ := Gw3 HB hg GE266.out GE267.out GE273.out; have n6_ := Gw3 HB hg GE266.out GE267.out GE273.out; have n7_ := Nl0 BK266 hg; have n8_ := Nr0 BK266 hg; have n9_ := Nl0 BK267 hg; have n10_ := Nr0 BK267 hg; have n11_ := Nl0 BK273 hg; have n12_ := Nr0 BK273 hg; clear BK266; clear BK267; clear BK273; clear HB; have BK266 := n0_; have BK267 := n1_; have BK273 := n2_; have HB := n3_; have BK286 := n4_; have GW286 := n5_; have GE286 := n6_; have NB266_286 := n7_; have NB286_266 := n8_; have NB267_286 := n9_; have NB286_267 := n10_; have NB273_286 := n11_; have NB286_273 := n12_; clear n0_ n1_ n2_ n3_ n4_ n5_ n6_ n7_ n8_ n9_ n10_ n11_ n12_; clear hb hbox hg; have hnb193 := NB286_266.out; have hnc193 := NB266_286.out; have hnb194 := NB286_267.out; have hnc194 := NB267_286.out; have hnb195 := NB286_273.out; have hnc195 := NB273_286.out; obtain ⟨hcz196_0, hcz196_1, hfz196_0, hfz196_1⟩ := cl2 BK286; obtain ⟨hcz197_0, hcz197_1, hfz197_0, hfz197_1⟩ := cl2 BK266) | ((with_reducible refine gate_callee (f := 20) rfl ?_); refine goesL_ (some 92) rfl rfl Try.func20 (by kernel_rfl) rfl #[.agg #[.int .i64 a0_0, .int .i64 a0_1], .slice A1 l1.length c1, .slice A2 l2.length c2] rfl gS ?_; (with_reducible refine (line_Differ.calls kj11 a0_0 a0_1 _ _ l1 _ _ l2 t287 t290 _ ?side1 ?side2 ?side3 ?side4 A78.out).mono ?_); (case side1 => exact Kd.C_below HR1.out (bw4 HB.out GE266.out GE267.out GE273.out GE286.out)); (case side2 => exact HC1.out); (case side3 => exact Kd.C_below HR2.out (bw4 HB.out GE266.out GE267.out GE273.out GE286.out)); (case side4 => exact HC2.out); rintro e w198 ⟨v288, rfl, ho0, hb⟩; refine ⟨_, rfl, ?_⟩; have n0_ := Ax (Kd.R_lower (Kd.R_newB (Kd.R_newB ho0 (g := gb266) (o := .cells #[.int .i64 a0_0, .int .i64 a0_1] 23 (0, 0)) (bf2 BK266.out NB266_286.out NB266_286.out)) (g := gb267) (o := .cells #[.int .i64 a3_0, .int .i64 a3_1] 23 (0, 0)) (bf2 BK267.out NB267_286.out NB267_286.out)) (below_size (bw4 HB.out GE266.out GE267.out GE273.out GE286.out))); have n1_ := Bx2 BK266 hb NB266_286.out NB266_286.out; have n2_ := Bx2 BK267 hb NB267_286.out NB267_286.out; have n3_ := Bx2 BK273 hb NB273_286.out NB273_286.out; have n4_ := Ax (blk_below (g := gb286) (o := .cells #[.int .u8 t283, .int .i64 t284] 35 (0, 0)) (by (with_reducible repeat (first | refine blk_drewN ?_ _ | refine blk_drew ?_ | refine blk_alloc ?_ _)); refine blk_put (cs := #[.int .u8 t283, .int .i64 0]) ?_ 1 _ rfl; (with_reducible repeat (first | refine blk_drewN ?_ _ | refine blk_drew ?_ | refine blk_alloc ?_ _)); refine blk_put (cs := #[.int .u8 0, .int .i64 0]) ?_ 0 _ rfl; (with_reducible repeat (first | refine blk_drewN ?_ _ | refine blk_drew ?_ | refine blk_alloc ?_ _)); exact BK286.out) hb); have n5_ := Bs4 HB hb GE266.out GE267.out GE273.out GE286.out; clear BK266; clear BK267; clear BK273; clear BK286; clear HB; have HO289 := n0_; have BK266 := n1_; have BK267 := n2_; have BK273 := n3_; have BK286 := n4_; have HB := n5_; clear n0_ n1_ n2_ n3_ n4_ n5_; (try clear hb); (try clear ho0); obtain ⟨Ao199, co199, eo199⟩ := Kd.R_slice HO289.out; subst eo199) | ((with_reducible refine gate_callee (f := 23) rfl ?_); refine goesL_ (some 98) rfl rfl Try.func23 (by kernel_rfl) rfl #[.slice Ao199 t287.length co199, .int .i64 a4] rfl gS ?_; (with_reducible refine (ivl_Has.calls kj11 _ _ t287 a4 t291 t292 _ ?side1 ?side2 A79.out).mono ?_); (case side1 => repeat (first | exact (Kd.R_reads' HO289.out).2.2 | (with_reducible refine Kd.C_alloc ?_ _) | (with_reducible refine Kd.C_drewN ?_ _) | (with_reducible refine Kd.C_drew ?_))); (case side2 => exact (Kd.R_reads' HO289.out).2.1); rintro e w200 ⟨rfl, hb⟩; refine ⟨_, rfl, ?_⟩; have n0_ := Ax (Kd.R_below (by (with_reducible repeat (first | apply Kd.R_alloc | apply Kd.R_drewN | apply Kd.R_drew)); exact HO289.out) hb); have n1_ := Bx0 BK266 hb; have n2_ := Bx0 BK267 hb; have n3_ := Bx0 BK273 hb; have n4_ := Bx0 BK286 hb; have n5_ := Bs4 HB hb GE266.out GE267.out GE273.out GE286.out; clear HO289; clear BK266; clear BK267; clear BK273; clear BK286; clear HB; have HO289 := n0_; have BK266 := n1_; have BK267 := n2_; have BK273 := n3_; have BK286 := n4_; have HB := n5_; clear n0_ n1_ n2_ n3_ n4_ n5_; (try clear hb); obtain ⟨hcz201_0, hcz201_1, hfz201_0, hfz201_1⟩ := cl2 BK266) | ((with_reducible refine gate_callee (f := 12) rfl ?_); refine goesL_ (some 103) rfl rfl Try.func12 (by kernel_rfl) rfl #[.agg #[.int .i64 a0_0, .int .i64 a0_1], .slice A2 l2.length c2] rfl gS ?_; (with_reducible refine (line_Check.calls kj11 a0_0 a0_1 _ _ l2 t293 _ ?side1 ?side2 A80.out).mono ?_); (case side1 => repeat (first | exact (Kd.C_below HR2.out HB.out) | (with_reducible refine Kd.C_alloc ?_ _) | (with_reducible refine Kd.C_drewN ?_ _) | (with_reducible refine Kd.C_drew ?_))); (case side2 => exact HC2.out); rintro e w202 ⟨rfl, hb⟩; refine ⟨_, rfl, ?_⟩; have n0_ := Ax (Kd.R_below (by (with_reducible repeat (first | apply Kd.R_alloc | apply Kd.R_drewN | apply Kd.R_drew)); exact HO289.out) hb); have n1_ := Bx0 BK266 hb; have n2_ := Bx0 BK267 hb; have n3_ := Bx0 BK273 hb; have n4_ := Bx0 BK286 hb; have n5_ := Bs4 HB hb GE266.out GE267.out GE273.out GE286.out; clear HO289; clear BK266; clear BK267; clear BK273; clear BK286; clear HB; have HO289 := n0_; have BK266 := n1_; have BK267 := n2_; have BK273 := n3_; have BK286 := n4_; have HB := n5_; clear n0_ n1_ n2_ n3_ n4_ n5_; (try clear hb)))
          go_ret
          exact ⟨eS, bw4 HB.out GE266.out GE267.out GE273.out GE286.out⟩
        ·rw [if_neg c152] at H
         exact absurd H (by simp)
       ·rw [if_neg c151] at H
        exact absurd H (by simp)
     ·rw [if_neg c81] at H
      have c81b0 : (t293 == 0) = false := beq_eq_false_iff_ne.mpr c81
      have c81b1 : (t293 != 0) = true := bne_iff_ne.mpr c81
      obtain rfl := Option.some.inj H
      have hnb203 := NB266_267.out
      have hnc203 := NB267_266.out
      have hnb204 := NB266_273.out
      have hnc204 := NB273_266.out
      obtain ⟨hcz205_0, hcz205_1, hfz205_0, hfz205_1⟩ := cl2 BK266
      go_wp2_with (first | ((with_reducible refine gate_callee (f := 14) rfl ?_); refine goesL_ (some 85) rfl rfl Try.func14 (by kernel_rfl) rfl #[.agg #[.int .i64 a0_0, .int .i64 a0_1], .slice A2 l2.length c2, .int .i64 a4] rfl gS ?_; (with_reducible refine (line_At.calls kj11 a0_0 a0_1 _ _ l2 a4 t283 t284 t285 _ ?side1 ?side2 A77.out).mono ?_); (case side1 => repeat (first | exact (Kd.C_below HR2.out HB.out) | (with_reducible refine Kd.C_alloc ?_ _) | (with_reducible refine Kd.C_drewN ?_ _) | (with_reducible refine Kd.C_drew ?_))); (case side2 => exact HC2.out); rintro e w206 ⟨rfl, hb⟩; refine ⟨_, rfl, ?_⟩; replace BK266 := Bx0 BK266 hb; replace BK267 := Bx0 BK267 hb; replace BK273 := Bx0 BK273 hb; replace HB := Bs3 HB hb GE266.out GE267.out GE273.out; (try clear hb)) | ((with_reducible refine gate_dst (N := 17) rfl ?_); refine box_event ?hg (N := 17) ?hd (cs := #[.int .u8 0, .int .i64 0]) (t := 35) ?hr ?_; (case hd => rfl); (case hg => rfl); (case hr => first | (go_simp; done) | (go_simp; rfl)); intro gb286 hg w207 hbox hb; have n0_ := Bx0 BK266 hb; have n1_ := Bx0 BK267 hb; have n2_ := Bx0 BK273 hb; have n3_ := Bs3 HB hb GE266.out GE267.out GE273.out; have n4_ := Ax (hbox); have n5_ := Gw3 HB hg GE266.out GE267.out GE273.out; have n6_ := Gw3 HB hg GE266.out GE267.out GE273.out; have n7_ := Nl0 BK266 hg; have n8_ := Nr0 BK266 hg; have n9_ := Nl0 BK267 hg; have n10_ := Nr0 BK267 hg; have n11_ := Nl0 BK273 hg; have n12_ := Nr0 BK273 hg; clear BK266; clear BK267; clear BK273; clear HB; have BK266 := n0_; have BK267 := n1_; have BK273 := n2_; have HB := n3_; have BK286 := n4_; have GW286 := n5_; have GE286 := n6_; have NB266_286 := n7_; have NB286_266 := n8_; have NB267_286 := n9_; have NB286_267 := n10_; have NB273_286 := n11_; have NB286_273 := n12_; clear n0_ n1_ n2_ n3_ n4_ n5_ n6_ n7_ n8_ n9_ n10_ n11_ n12_; clear hb hbox hg; have hnb208 := NB286_266.out; have hnc208 := NB266_286.out; have hnb209 := NB286_267.out; have hnc209 := NB267_286.out; have hnb210 := NB286_273.out; have hnc210 := NB273_286.out; obtain ⟨hcz211_0, hcz211_1, hfz211_0, hfz211_1⟩ := cl2 BK286; obtain ⟨hcz212_0, hcz212_1, hfz212_0, hfz212_1⟩ := cl2 BK266) | ((with_reducible refine gate_callee (f := 20) rfl ?_); refine goesL_ (some 92) rfl rfl Try.func20 (by kernel_rfl) rfl #[.agg #[.int .i64 a0_0, .int .i64 a0_1], .slice A1 l1.length c1, .slice A2 l2.length c2] rfl gS ?_; (with_reducible refine (line_Differ.calls kj11 a0_0 a0_1 _ _ l1 _ _ l2 t287 t290 _ ?side1 ?side2 ?side3 ?side4 A78.out).mono ?_); (case side1 => exact Kd.C_below HR1.out (bw4 HB.out GE266.out GE267.out GE273.out GE286.out)); (case side2 => exact HC1.out); (case side3 => exact Kd.C_below HR2.out (bw4 HB.out GE266.out GE267.out GE273.out GE286.out)); (case side4 => exact HC2.out); rintro e w213 ⟨v288, rfl, ho0, hb⟩; refine ⟨_, rfl, ?_⟩; have n0_ := Ax (Kd.R_lower (Kd.R_newB (Kd.R_newB ho0 (g := gb266) (o := .cells #[.int .i64 a0_0, .int .i64 a0_1] 23 (0, 0)) (bf2 BK266.out NB266_286.out NB266_286.out)) (g := gb267) (o := .cells #[.int .i64 a3_0, .int .i64 a3_1] 23 (0, 0)) (bf2 BK267.out NB267_286.out NB267_286.out)) (below_size (bw4 HB.out GE266.out GE267.out GE273.out GE286.out))); have n1_ := Bx2 BK266 hb NB266_286.out NB266_286.out; have n2_ := Bx2 BK267 hb NB267_286.out NB267_286.out; have n3_ := Bx2 BK273 hb NB273_286.out NB273_286.out; have n4_ := Ax (blk_below (g := gb286) (o := .cells #[.int .u8 t283, .int .i64 t284] 35 (0, 0)) (by (with_reducible repeat (first | refine blk_drewN ?_ _ | refine blk_drew ?_ | refine blk_alloc ?_ _)); refine blk_put (cs := #[.int .u8 t283, .int .i64 0]) ?_ 1 _ rfl; (with_reducible repeat (first | refine blk_drewN ?_ _ | refine blk_drew ?_ | refine blk_alloc ?_ _)); refine blk_put (cs := #[.int .u8 0, .int .i64 0]) ?_ 0 _ rfl; (with_reducible repeat (first | refine blk_drewN ?_ _ | refine blk_drew ?_ | refine blk_alloc ?_ _)); exact BK286.out) hb); have n5_ := Bs4 HB hb GE266.out GE267.out GE273.out GE286.out; clear BK266; clear BK267; clear BK273; clear BK286; clear HB; have HO289 := n0_; have BK266 := n1_; have BK267 := n2_; have BK273 := n3_; have BK286 := n4_; have HB := n5_; clear n0_ n1_ n2_ n3_ n4_ n5_; (try clear hb); (try clear ho0); obtain ⟨Ao214, co214, eo214⟩ := Kd.R_slice HO289.out; subst eo214) | ((with_reducible refine gate_callee (f := 23) rfl ?_); refine goesL_ (some 98) rfl rfl Try.func23 (by kernel_rfl) rfl #[.slice Ao214 t287.length co214, .int .i64 a4] rfl gS ?_; (with_reducible refine (ivl_Has.calls kj11 _ _ t287 a4 t291 t292 _ ?side1 ?side2 A79.out).mono ?_); (case side1 => repeat (first | exact (Kd.R_reads' HO289.out).2.2 | (with_reducible refine Kd.C_alloc ?_ _) | (with_reducible refine Kd.C_drewN ?_ _) | (with_reducible refine Kd.C_drew ?_))); (case side2 => exact (Kd.R_reads' HO289.out).2.1); rintro e w215 ⟨rfl, hb⟩; refine ⟨_, rfl, ?_⟩; have n0_ := Ax (Kd.R_below (by (with_reducible repeat (first | apply Kd.R_alloc | apply Kd.R_drewN | apply Kd.R_drew)); exact HO289.out) hb); have n1_ := Bx0 BK266 hb; have n2_ := Bx0 BK267 hb; have n3_ := Bx0 BK273 hb; have n4_ := Bx0 BK286 hb; have n5_ := Bs4 HB hb GE266.out GE267.out GE273.out GE286.out; clear HO289; clear BK266; clear BK267; clear BK273; clear BK286; clear HB; have HO289 := n0_; have BK266 := n1_; have BK267 := n2_; have BK273 := n3_; have BK286 := n4_; have HB := n5_; clear n0_ n1_ n2_ n3_ n4_ n5_; (try clear hb); obtain ⟨hcz216_0, hcz216_1, hfz216_0, hfz216_1⟩ := cl2 BK266) | ((with_reducible refine gate_callee (f := 12) rfl ?_); refine goesL_ (some 103) rfl rfl Try.func12 (by kernel_rfl) rfl #[.agg #[.int .i64 a0_0, .int .i64 a0_1], .slice A2 l2.length c2] rfl gS ?_; (with_reducible refine (line_Check.calls kj11 a0_0 a0_1 _ _ l2 t293 _ ?side1 ?side2 A80.out).mono ?_); (case side1 => repeat (first | exact (Kd.C_below HR2.out HB.out) | (with_reducible refine Kd.C_alloc ?_ _) | (with_reducible refine Kd.C_drewN ?_ _) | (with_reducible refine Kd.C_drew ?_))); (case side2 => exact HC2.out); rintro e w217 ⟨rfl, hb⟩; refine ⟨_, rfl, ?_⟩; have n0_ := Ax (Kd.R_below (by (with_reducible repeat (first | apply Kd.R_alloc | apply Kd.R_drewN | apply Kd.R_drew)); exact HO289.out) hb); have n1_ := Bx0 BK266 hb; have n2_ := Bx0 BK267 hb; have n3_ := Bx0 BK273 hb; have n4_ := Bx0 BK286 hb; have n5_ := Bs4 HB hb GE266.out GE267.out GE273.out GE286.out; clear HO289; clear BK266; clear BK267; clear BK273; clear BK286; clear HB; have HO289 := n0_; have BK266 := n1_; have BK267 := n2_; have BK273 := n3_; have BK286 := n4_; have HB := n5_; clear n0_ n1_ n2_ n3_ n4_ n5_; (try clear hb)))
      go_ret
      exact ⟨eS, bw4 HB.out GE266.out GE267.out GE273.out GE286.out⟩
  ·rw [if_neg c9] at H
   have c9b0 : (t269 == 0) = false := beq_eq_false_iff_ne.mpr c9
   have c9b1 : (t269 != 0) = true := bne_iff_ne.mpr c9
   obtain rfl := Option.some.inj H
   go_enter Try.func6, Try.ntmps6
   go_wp2_with (first | ((with_reducible refine gate_dst (N := 5) rfl ?_); refine box_event ?hg (N := 5) ?hd (cs := #[.int .i64 a0_0, .int .i64 a0_1]) (t := 23) ?hr ?_; (case hd => rfl); (case hg => rfl); (case hr => first | (go_simp; done) | (go_simp; rfl)); intro gb266 hg w218 hbox hb; have n0_ := Bs0 HB hb; have n1_ := Ax (hbox); have n2_ := Gw0 HB hg; have n3_ := Gw0 HB hg; clear HB; have HB := n0_; have BK266 := n1_; have GW266 := n2_; have GE266 := n3_; clear n0_ n1_ n2_ n3_; clear hb hbox hg) | ((with_reducible refine gate_dst (N := 8) rfl ?_); refine box_event ?hg (N := 8) ?hd (cs := #[.int .i64 a3_0, .int .i64 a3_1]) (t := 23) ?hr ?_; (case hd => rfl); (case hg => rfl); (case hr => first | (go_simp; done) | (go_simp; rfl)); intro gb267 hg w219 hbox hb; have n0_ := Bx0 BK266 hb; have n1_ := Bs1 HB hb GE266.out; have n2_ := Ax (hbox); have n3_ := Gw1 HB hg GE266.out; have n4_ := Gw1 HB hg GE266.out; have n5_ := Nl0 BK266 hg; have n6_ := Nr0 BK266 hg; clear BK266; clear HB; have BK266 := n0_; have HB := n1_; have BK267 := n2_; have GW267 := n3_; have GE267 := n4_; have NB266_267 := n5_; have NB267_266 := n6_; clear n0_ n1_ n2_ n3_ n4_ n5_ n6_; clear hb hbox hg) | ((with_reducible refine gate_callee (f := 10) rfl ?_); refine goesL_ (some 23) rfl rfl Try.func10 (by kernel_rfl) rfl #[] rfl gS ?_; (with_reducible refine (spoorlaw20_lives.calls k  true _ A6.out).mono ?_); rintro e w220 ⟨rfl, hb⟩; refine ⟨_, rfl, ?_⟩; replace BK266 := Bx0 BK266 hb; replace BK267 := Bx0 BK267 hb; replace HB := Bs2 HB hb GE266.out GE267.out; (try clear hb); have hnb221 := NB266_267.out; have hnc221 := NB267_266.out; obtain ⟨hcz222_0, hcz222_1, hfz222_0, hfz222_1⟩ := cl2 BK266) | ((with_reducible refine gate_callee (f := 12) rfl ?_); refine goesL_ (some 27) rfl rfl Try.func12 (by kernel_rfl) rfl #[.agg #[.int .i64 a0_0, .int .i64 a0_1], .slice A1 l1.length c1] rfl gS ?_; (with_reducible refine (line_Check.calls k a0_0 a0_1 _ _ l1 t269 _ ?side1 ?side2 A8.out).mono ?_); (case side1 => repeat (first | exact (Kd.C_below HR1.out HB.out) | (with_reducible refine Kd.C_alloc ?_ _) | (with_reducible refine Kd.C_drewN ?_ _) | (with_reducible refine Kd.C_drew ?_))); (case side2 => exact HC1.out); rintro e w223 ⟨rfl, hb⟩; refine ⟨_, rfl, ?_⟩; replace BK266 := Bx0 BK266 hb; replace BK267 := Bx0 BK267 hb; replace HB := Bs2 HB hb GE266.out GE267.out; (try clear hb)))
   go_ret
   exact ⟨eS, bw2 HB.out GE266.out GE267.out⟩
 ·replace c7 := Bool.eq_false_iff.mpr c7
  subst c7
  have H1 : (none) = some r := by rw [if_neg (show ¬ (false = true) by decide)] at H; exact H
  clear H
  have H := H1
  clear H1
  exact absurd H (by simp)
end Go.Proofs.Ytghklhdooemjdaa.Q
end
section
namespace Go.Proofs.Ytghklhdooemjdaa.Open
set_option linter.unusedVariables false
open Go.RowKit Go.WideShapes Go.Proofs.YtghklhdooemjdaaW.PrintWords Go.Proofs.YtghklhdooemjdaaW.PrintLast Go.Proofs.YtghklhdooemjdaaW.PrintMore
open Go.Proofs.Ytghklhdooemjdaa.Rows (uptoBulk uptoBulkAll)
def Opens {α : Type} (P : Program) (t : TypeId) (K : Kd α) (wf : α → Prop) (mu : α → Nat) : Prop :=
  ∀ {H : Type} (enc : TypeId × Value → H) (W : World) (spare : Nat → Bool) (held : Bool) (n : Nat) (cs : List Value) (x : DataW H × List MemPlace),
    DataW.trod enc P W 0 spare held n t cs = some x → ∃ a, K.K W a cs ∧ wf a ∧ mu a ≤ uptoBulk x.1
def wfInt (k : IntKind) (n : Int) : Prop := (Lit.int k n).wf = true
def wfAll {α : Type} (wf : α → Prop) (l : List α) : Prop := ∀ a ∈ l, wf a
def mu1 {α : Type} (_ : α) : Nat := 1
def muAll {α : Type} (mu : α → Nat) : List α → Nat
  | [] => 1
  | a :: l => mu a + muAll mu l
theorem wfAll_nil {α : Type} (wf : α → Prop) : wfAll wf [] := fun _ h => by cases h
theorem opens_int {P : Program} {t : TypeId} {k : IntKind} (hu : P.underlying t = some (.int k)) : Opens P t (Kd.int k) (wfInt k) mu1 := by
  intro H enc W spare held n cs x h
  obtain ⟨a, rfl, rfl, hw⟩ := DataW.trod_int hu h
  exact ⟨a, rfl, hw, by simp [mu1, uptoBulk]⟩
theorem opens_list {α H : Type} {P : Program} {e : TypeId} {K : Kd α} {wf : α → Prop} {mu : α → Nat} (he : Opens P e K wf mu) (enc : TypeId × Value → H) (W : World) (spare : Nat → Bool) (held : Bool) (n : Nat) (rd : Nat → Option (List Value)) :
    ∀ (elems : List (DataW H × List MemPlace)) (off : Nat), (∀ i, i < elems.length → (rd (off + i)).bind (DataW.trod enc P W 0 spare held n e) = elems[i]?) →
      ∃ l : List α, l.length = elems.length ∧ (∀ i a, l[i]? = some a → ∃ cs, rd (off + i) = some cs ∧ K.K W a cs) ∧ wfAll wf l ∧ muAll mu l ≤ uptoBulkAll (elems.map (·.1)) + 1
  | [], off, _ => ⟨[], rfl, (fun i a h => by simp at h), wfAll_nil _, by simp [muAll, uptoBulkAll]⟩
  | x :: elems, off, h => by
    have h0 := h 0 (by simp)
    simp only [Nat.add_zero, List.getElem?_cons_zero] at h0
    obtain ⟨cs, hc, ht⟩ := Option.bind_eq_some_iff.1 h0
    obtain ⟨a, hK, hw, hm⟩ := he enc W spare held n cs x ht
    obtain ⟨l, hl, hr, hwf, hmu⟩ := opens_list he enc W spare held n rd elems (off + 1) (fun i hi => by
      have := h (i + 1) (by simp; omega)
      rw [List.getElem?_cons_succ] at this
      rwa [show off + 1 + i = off + (i + 1) by omega])
    refine ⟨a :: l, by simp [hl], ?_, ?_, ?_⟩
    · intro i b hb
      cases i with
      | zero =>
        obtain rfl : a = b := by simpa using hb
        exact ⟨cs, hc, hK⟩
      | succ i =>
        rw [List.getElem?_cons_succ] at hb
        obtain ⟨cs', h1, h2⟩ := hr i b hb
        exact ⟨cs', by rwa [show off + (i + 1) = off + 1 + i by omega], h2⟩
    · intro b hb
      rcases List.mem_cons.1 hb with rfl | hb
      · exact hw
      · exact hwf b hb
    · simp only [muAll, List.map_cons, uptoBulkAll]
      omega
theorem cells_some {W : World} {ad : Addr} {n : Nat} {cs : List Value} (h : W.cells? 0 ad n = some cs) : cs.length = n ∧ ∀ i u, cs[i]? = some u → W.cell? (ad.add i) = some u := by
  obtain ⟨_, hl, hc⟩ := World.cells?_some h
  refine ⟨hl, fun i u hi => ?_⟩
  rw [hc i (by rw [← hl]; exact (List.getElem?_eq_some_iff.1 hi).1)]
  exact hi
theorem opens_slice {α : Type} {P : Program} {t e : TypeId} {K : Kd α} {wf : α → Prop} {mu : α → Nat} (he : Opens P e K wf mu) (hu : P.underlying t = some (.slice e)) (hsz : P.cellsOf e = K.sz) (e' : Nat) :
    Opens P t (Kd.slice e' K) (fun l => wfAll wf l ∧ l.length ≤ maxLen) (muAll mu) := by
  intro H enc W spare held n cs x h
  rcases DataW.trod_slice hu h with ⟨rfl, rfl⟩ | ⟨a, len, cap, elems, rest, m, rfl, rfl, rfl, _, hlc, hcm, hel, hrd, _, _⟩
  · exact ⟨[], ⟨none, 0, rfl, Nat.le_refl _, rfl, Nat.zero_le _, fun h => absurd h (Nat.lt_irrefl _)⟩, ⟨wfAll_nil _, by simp⟩, by simp [muAll, uptoBulk]⟩
  · obtain ⟨l, hl, hr, hw, hm⟩ := opens_list he enc W spare held m (fun i => W.cells? 0 (a.add (i * P.cellsOf e)) (P.cellsOf e)) elems 0 (fun i hi => by
      rw [Nat.zero_add]
      exact hrd i (by omega))
    refine ⟨l, ⟨some a, cap, by rw [hl, hel], by omega, ?_⟩, ⟨hw, by omega⟩, ?_⟩
    · refine ⟨rfl, by simp only [maxLen] at hcm; omega, fun _ => ⟨a, rfl, fun j p hp => ?_⟩⟩
      obtain ⟨cs, hc, hK⟩ := hr j p hp
      rw [Nat.zero_add] at hc
      obtain ⟨h1, h2⟩ := cells_some hc
      refine ⟨cs, by rw [h1, hsz], hK, fun i u hi => ?_⟩
      have := h2 i u hi
      rwa [Addr.add_add, hsz] at this
    · simp only [uptoBulk]
      omega
theorem sized_row {H : Type} {enc : TypeId × Value → H} {P : Program} {W : World} {base : Nat} {spare : Nat → Bool} {held : Bool} {t e : TypeId} {a : Option Addr} {len cap : Nat} {d : DataW H} {ps : List MemPlace} {ts : List TypeId} {ds : List (DataW H)} {j : Nat}
    (hsz : (DataW.weightsEach P ts ds).all (· ≤ reachBytes) = true) (ht : ts[j]? = some t) (hd : ds[j]? = some d) (hu : P.underlying t = some (.slice e)) {B : Nat} (hB : P.bytesOf e = B)
    (h : DataW.Trod enc P W base spare held t (.slice a len cap) d ps) : len * B ≤ 140737488351232 := by
  obtain ⟨fuel, hf⟩ := h
  rcases DataW.trod_slice hu hf with ⟨hcs, _⟩ | ⟨a', len', cap', elems, rest, m, _, hcs, hx, _, hlc, hcm, hel, hrd, _, _⟩
  · simp [Value.cells] at hcs
    obtain ⟨rfl, rfl, rfl⟩ := hcs
    simp
  · simp [Value.cells] at hcs
    obtain ⟨rfl, rfl, rfl⟩ := hcs
    obtain ⟨hx, _⟩ := Prod.mk.inj hx
    subst hx
    have z := sized_slice hsz ht hd hu
    rw [hB] at z
    exact Nat.le_trans (Nat.mul_le_mul_right _ (by simp only [List.length_map]; omega)) z
end Go.Proofs.Ytghklhdooemjdaa.Open
end
section
namespace Go.Proofs.Ytghklhdooemjdaa.Q
set_option linter.unusedVariables false
set_option linter.unusedSimpArgs false
open Go.RowKit Go.Proofs.YtghklhdooemjdaaW.PrintWords Go.Proofs.YtghklhdooemjdaaW.PrintLast Go.Proofs.YtghklhdooemjdaaW.PrintMore Go.Proofs.Ytghklhdooemjdaa.Open
open Go.Proofs.Ytghklhdooemjdaa.Rows (uptoBulk uptoBulkAll)
def wf23 (x : S23) : Prop := (wfInt .i64) x.f0 ∧ (wfInt .i64) x.f1
def mu23 (x : S23) : Nat := mu1 x.f0 + mu1 x.f1 + 1
set_option maxRecDepth 100000 in
theorem opn23 : Opens Try.prog 23 k23 wf23 mu23 := by
  intro H enc W spare held n cs x h
  obtain ⟨xs, m, rfl, rfl, hl, hs, hf⟩ := DataW.trod_struct Try.underlying23 h
  have hc : cs.length = 2 := hl.trans (by kernel_rfl)
  have hx : xs.length = 2 := hs
  clear hl hs h
  match cs, hc, xs, hx, hf with
  | [c0, c1], _, [y0, y1], _, hf =>
    have e0 : Try.prog.cellsOf 2 = 1 := by kernel_rfl
    have e1 : Try.prog.cellsOf 2 = 1 := by kernel_rfl
    have g0 := hf 0 _ rfl
    simp only [List.getElem_toArray, List.getElem_cons_zero, List.getElem_cons_succ, e0] at g0
    obtain ⟨a0, K0, w0, m0⟩ := (opens_int Try.underlying2) enc W spare held m [c0] y0 g0
    have g1 := hf 1 _ rfl
    simp only [List.getElem_toArray, List.getElem_cons_zero, List.getElem_cons_succ, e1] at g1
    obtain ⟨a1, K1, w1, m1⟩ := (opens_int Try.underlying2) enc W spare held m [c1] y1 g1
    exact ⟨⟨a0, a1⟩, ⟨[c0], [c1], rfl, K0, K1⟩, ⟨w0, w1⟩, by simp only [mu23, List.map_cons, List.map_nil, uptoBulk, uptoBulkAll]; omega⟩
def wf35 (x : S35) : Prop := (wfInt .u8) x.f0 ∧ (wfInt .i64) x.f1
def mu35 (x : S35) : Nat := mu1 x.f0 + mu1 x.f1 + 1
set_option maxRecDepth 100000 in
theorem opn35 : Opens Try.prog 35 k35 wf35 mu35 := by
  intro H enc W spare held n cs x h
  obtain ⟨xs, m, rfl, rfl, hl, hs, hf⟩ := DataW.trod_struct Try.underlying35 h
  have hc : cs.length = 2 := hl.trans (by kernel_rfl)
  have hx : xs.length = 2 := hs
  clear hl hs h
  match cs, hc, xs, hx, hf with
  | [c0, c1], _, [y0, y1], _, hf =>
    have e0 : Try.prog.cellsOf 33 = 1 := by kernel_rfl
    have e1 : Try.prog.cellsOf 3 = 1 := by kernel_rfl
    have g0 := hf 0 _ rfl
    simp only [List.getElem_toArray, List.getElem_cons_zero, List.getElem_cons_succ, e0] at g0
    obtain ⟨a0, K0, w0, m0⟩ := (opens_int Try.underlying33) enc W spare held m [c0] y0 g0
    have g1 := hf 1 _ rfl
    simp only [List.getElem_toArray, List.getElem_cons_zero, List.getElem_cons_succ, e1] at g1
    obtain ⟨a1, K1, w1, m1⟩ := (opens_int Try.underlying3) enc W spare held m [c1] y1 g1
    exact ⟨⟨a0, a1⟩, ⟨[c0], [c1], rfl, K0, K1⟩, ⟨w0, w1⟩, by simp only [mu35, List.map_cons, List.map_nil, uptoBulk, uptoBulkAll]; omega⟩
def wf46 (x : S46) : Prop := (wfInt .i64) x.f0 ∧ wf35 x.f1
def mu46 (x : S46) : Nat := mu1 x.f0 + mu35 x.f1 + 1
set_option maxRecDepth 100000 in
theorem opn46 : Opens Try.prog 46 k46 wf46 mu46 := by
  intro H enc W spare held n cs x h
  obtain ⟨xs, m, rfl, rfl, hl, hs, hf⟩ := DataW.trod_struct Try.underlying46 h
  have hc : cs.length = 3 := hl.trans (by kernel_rfl)
  have hx : xs.length = 2 := hs
  clear hl hs h
  match cs, hc, xs, hx, hf with
  | [c0, c1, c2], _, [y0, y1], _, hf =>
    have e0 : Try.prog.cellsOf 2 = 1 := by kernel_rfl
    have e1 : Try.prog.cellsOf 35 = 2 := by kernel_rfl
    have g0 := hf 0 _ rfl
    simp only [List.getElem_toArray, List.getElem_cons_zero, List.getElem_cons_succ, e0] at g0
    obtain ⟨a0, K0, w0, m0⟩ := (opens_int Try.underlying2) enc W spare held m [c0] y0 g0
    have g1 := hf 1 _ rfl
    simp only [List.getElem_toArray, List.getElem_cons_zero, List.getElem_cons_succ, e1] at g1
    obtain ⟨a1, K1, w1, m1⟩ := opn35 enc W spare held m [c1, c2] y1 g1
    exact ⟨⟨a0, a1⟩, ⟨[c0], [c1, c2], rfl, K0, K1⟩, ⟨w0, w1⟩, by simp only [mu46, List.map_cons, List.map_nil, uptoBulk, uptoBulkAll]; omega⟩
def wf52 (x : S52) : Prop := wf23 x.f0 ∧ wf35 x.f1
def mu52 (x : S52) : Nat := mu23 x.f0 + mu35 x.f1 + 1
set_option maxRecDepth 100000 in
theorem opn52 : Opens Try.prog 52 k52 wf52 mu52 := by
  intro H enc W spare held n cs x h
  obtain ⟨xs, m, rfl, rfl, hl, hs, hf⟩ := DataW.trod_struct Try.underlying52 h
  have hc : cs.length = 4 := hl.trans (by kernel_rfl)
  have hx : xs.length = 2 := hs
  clear hl hs h
  match cs, hc, xs, hx, hf with
  | [c0, c1, c2, c3], _, [y0, y1], _, hf =>
    have e0 : Try.prog.cellsOf 23 = 2 := by kernel_rfl
    have e1 : Try.prog.cellsOf 35 = 2 := by kernel_rfl
    have g0 := hf 0 _ rfl
    simp only [List.getElem_toArray, List.getElem_cons_zero, List.getElem_cons_succ, e0] at g0
    obtain ⟨a0, K0, w0, m0⟩ := opn23 enc W spare held m [c0, c1] y0 g0
    have g1 := hf 1 _ rfl
    simp only [List.getElem_toArray, List.getElem_cons_zero, List.getElem_cons_succ, e1] at g1
    obtain ⟨a1, K1, w1, m1⟩ := opn35 enc W spare held m [c2, c3] y1 g1
    exact ⟨⟨a0, a1⟩, ⟨[c0, c1], [c2, c3], rfl, K0, K1⟩, ⟨w0, w1⟩, by simp only [mu52, List.map_cons, List.map_nil, uptoBulk, uptoBulkAll]; omega⟩
end Go.Proofs.Ytghklhdooemjdaa.Q
end
section
namespace Go.Proofs.Ytghklhdooemjdaa.Q
set_option linter.unusedVariables false
open Go.RowKit Go.Proofs.YtghklhdooemjdaaW.PrintWords Go.Proofs.YtghklhdooemjdaaW.PrintLast Go.Proofs.YtghklhdooemjdaaW.PrintMore Go.Proofs.Ytghklhdooemjdaa.Open
def spoorlaw20_LineTells.Pure : Prop := ∀ (a0_0 : Int) (a0_1 : Int) (l1 : List (S46)) (a2 : Int), wf23 (⟨a0_0, a0_1⟩ : S23) → (fun l => wfAll wf46 l ∧ l.length ≤ maxLen) l1 → (wfInt .i64) a2 → l1.length * 24 ≤ 140737488351232 → ∃ k, spoorlaw20_LineTells.f k a0_0 a0_1 l1 a2 = some true
end Go.Proofs.Ytghklhdooemjdaa.Q
end
section
namespace Go.Proofs.Ytghklhdooemjdaa.Base
set_option linter.unusedVariables false
open Go.RowKit Go.Proofs.YtghklhdooemjdaaW.PrintWords Go.Proofs.YtghklhdooemjdaaW.PrintLast Go.Proofs.YtghklhdooemjdaaW.PrintMore
theorem Ev.pos {α : Type} {c : Prop} [Decidable c] {f g : Nat → Option α} {r : α} (h : c) (k : Ev f r) : Ev (fun n => if c then f n else g n) r := Ev.congr (fun _ => if_pos h) k
theorem Ev.neg {α : Type} {c : Prop} [Decidable c] {f g : Nat → Option α} {r : α} (h : ¬ c) (k : Ev g r) : Ev (fun n => if c then f n else g n) r := Ev.congr (fun _ => if_neg h) k
theorem Ev.const {α : Type} {o : Option α} {r : α} (h : o = some r) : Ev (fun _ => o) r := ⟨0, fun _ _ => h⟩
theorem Ev.succ {α : Type} {g : Nat → Option α} {r : α} (h : Ev (fun k => g (k + 1)) r) : Ev g r := Ev.step (fun _ => rfl) h
theorem Ev.to {α : Type} {g : Nat → Option α} {r q : α} (h : Ev g r) (e : r = q) : Ev g q := e ▸ h
theorem w64 {n : Int} (h0 : -9223372036854775808 ≤ n) (h1 : n ≤ 9223372036854775807) : wrap64 n = n := by unfold wrap64; omega
theorem wf_i64 {n : Int} (h : (Lit.int .i64 n).wf = true) : -9223372036854775808 ≤ n ∧ n ≤ 9223372036854775807 := by
  have h1 : IntKind.i64.min ≤ n ∧ n ≤ IntKind.i64.max := by simpa [Lit.wf] using h
  have a : IntKind.i64.min = -9223372036854775808 := by decide
  have b : IntKind.i64.max = 9223372036854775807 := by decide
  omega
def Bytes (l : List Int) : Prop := ∀ x ∈ l, 0 ≤ x ∧ x < 256
theorem Bytes.nil : Bytes [] := fun _ h => by cases h
theorem Bytes.cons {x : Int} {l : List Int} (h0 : 0 ≤ x) (h1 : x < 256) (h : Bytes l) : Bytes (x :: l) := fun y hy => by
  rcases List.mem_cons.1 hy with rfl | hy
  · exact ⟨h0, h1⟩
  · exact h y hy
theorem Bytes.head {x : Int} {l : List Int} (h : Bytes (x :: l)) : 0 ≤ x ∧ x < 256 := h x (by simp)
theorem Bytes.append {a b : List Int} (ha : Bytes a) (hb : Bytes b) : Bytes (a ++ b) := fun x hx => (List.mem_append.1 hx).elim (ha x) (hb x)
theorem Bytes.left {a b : List Int} (h : Bytes (a ++ b)) : Bytes a := fun x hx => h x (by simp [hx])
theorem Bytes.right {a b : List Int} (h : Bytes (a ++ b)) : Bytes b := fun x hx => h x (by simp [hx])
theorem Bytes.drop {l : List Int} (h : Bytes l) (n : Nat) : Bytes (l.drop n) := fun x hx => h x (List.mem_of_mem_drop hx)
theorem Bytes.take {l : List Int} (h : Bytes l) (n : Nat) : Bytes (l.take n) := fun x hx => h x (List.mem_of_mem_take hx)
end Go.Proofs.Ytghklhdooemjdaa.Base
end
section
namespace Go.Proofs.Ytghklhdooemjdaa.Line
set_option linter.unusedVariables false
open Go.RowKit Go.Proofs.Ytghklhdooemjdaa.Q Go.Proofs.YtghklhdooemjdaaW.PrintWords Go.Proofs.YtghklhdooemjdaaW.PrintLast Go.Proofs.Ytghklhdooemjdaa.Base Go.Proofs.Ytghklhdooemjdaa.Open
abbrev Iv := S23
abbrev Er := S52
abbrev Vd := S35
abbrev Mk := S46
abbrev Rn := S102
theorem dlt {α : Type} {l : List α} {i : Nat} {c : α} {m : List α} (h : l.drop i = c :: m) : i < l.length := by
  have := congrArg List.length h
  simp at this
  omega
theorem dnext {α : Type} {l : List α} {i : Nat} {x : α} {r : List α} (h : l.drop i = x :: r) : l.drop (i + 1) = r := by rw [← List.drop_drop, h]; rfl
theorem rdV {l : List Er} {i : Nat} {x : Er} {r : List Er} (h : l.drop i = x :: r) : rd_T52 l (i : Int) = x := by
  have e : l[i]? = some x := by rw [← List.head?_drop, h]; rfl
  simp [rd_T52, List.getD_eq_getElem?_getD, e]
theorem rdM {l : List Mk} {i : Nat} {x : Mk} {r : List Mk} (h : l.drop i = x :: r) : rd_T46 l (i : Int) = x := by
  have e : l[i]? = some x := by rw [← List.head?_drop, h]; rfl
  simp [rd_T46, List.getD_eq_getElem?_getD, e]
theorem rdI {l : List Iv} {i : Nat} {x : Iv} {r : List Iv} (h : l.drop i = x :: r) : rd_T23 l (i : Int) = x := by
  have e : l[i]? = some x := by rw [← List.head?_drop, h]; rfl
  simp [rd_T23, List.getD_eq_getElem?_getD, e]
def runOf (x : Iv) : Rn := ⟨x.f0, x.f1⟩
theorem runs_l (l : List Iv) (hl : l.length ≤ 17592186044416) : ∀ (r : List Iv) (i : Nat) (a : List Rn), l.drop i = r → a.length = i → i ≤ l.length →
    Ev (fun k => ivl_runs.l0 k (a ++ List.replicate (l.length - i) z102) l (l.length : Int) (i : Int)) (a ++ r.map runOf)
  | [], i, a, hd, ha, hi => by
    have h1 : l.length ≤ i := List.drop_eq_nil_iff.1 hd
    refine Ev.succ ?_
    simp only [ivl_runs.l0]
    refine Ev.neg (by omega) (Ev.const ?_)
    rw [show l.length - i = 0 by omega]
    rfl
  | x :: r, i, a, hd, ha, hi => by
    have hlt := dlt hd
    refine Ev.succ ?_
    simp only [ivl_runs.l0, rdI hd]
    refine Ev.pos (by omega) (Ev.pos (by omega) (Ev.pos (by omega) (Ev.pos (by rw [List.length_append, List.length_replicate]; omega) ?_)))
    rw [w64 (by omega) (by omega), show ((i : Int) + 1) = ((i + 1 : Nat) : Int) by omega, Int.toNat_natCast]
    have e : (a ++ List.replicate (l.length - i) z102).set i (⟨x.f0, x.f1⟩ : Rn) = (a ++ [runOf x]) ++ List.replicate (l.length - (i + 1)) z102 := by
      rw [show l.length - i = (l.length - (i + 1)) + 1 by omega, List.replicate_succ, List.set_append_right _ _ (by omega), ha, Nat.sub_self, List.append_assoc]
      rfl
    rw [e]
    refine Ev.to (runs_l l hl r (i + 1) (a ++ [runOf x]) (dnext hd) (by simp [ha]) (by omega)) ?_
    rw [List.append_assoc]
    rfl
theorem runs_ev (l : List Iv) (hl : l.length ≤ 17592186044416) : Ev (fun k => ivl_runs.f k l) (l.map runOf) := by
  simp only [ivl_runs.f, Int.toNat_natCast]
  refine Ev.pos (by omega) (Ev.pos hl ?_)
  exact runs_l l hl l 0 [] rfl rfl (Nat.zero_le _)
theorem ivl_ev (l : List Iv) : Ev (fun k => ivl_Check.f k l) (if l.length ≤ 1024 ∧ soundL none (l.map runOf) = true then 0 else 2) := by
  simp only [ivl_Check.f]
  by_cases h : 1024 < (l.length : Int)
  · rw [if_neg (by omega)]
    exact Ev.pos h (Ev.const rfl)
  · refine Ev.neg h (Ev.bind (runs_ev l (by omega)) (Ev.const ?_))
    by_cases s : soundL none (l.map runOf) = true
    · rw [if_pos s, if_pos ⟨by omega, s⟩]
    · rw [if_neg s, if_neg (fun hh => s hh.2)]
def winP (a b : Int) : Prop := 0 ≤ a ∧ a ≤ b ∧ b ≤ 1099511627776
instance (a b : Int) : Decidable (winP a b) := by unfold winP; infer_instance
theorem win_ev (a b : Int) : Ev (fun k => line_window.f k a b) (decide (winP a b)) := by
  simp only [line_window.f]
  refine Ev.bind (ivl_ev _) (Ev.const ?_)
  have e : soundL none (List.map runOf [(⟨a, b⟩ : Iv)]) = decide (winP a b) := by
    show (if a < 0 ∨ b < a ∨ 1099511627776 < b then false else true) = _
    by_cases h : winP a b
    · rw [if_neg (by unfold winP at h; omega), decide_eq_true h]
    · rw [if_pos (by unfold winP at h; omega), decide_eq_false h]
  rw [e]
  by_cases h : winP a b
  · rw [decide_eq_true h, if_pos ⟨by simp, rfl⟩]; rfl
  · rw [decide_eq_false h, if_neg (fun hh => by cases hh.2)]; rfl
def stepB (w1 : Int) (p : Option Er) (x : Er) : Bool := rightB x.f1 && decide (x.f0.f0 ≤ x.f0.f1) && decide (x.f0.f1 ≤ w1) && (match p with
  | none => true
  | some q => decide (x.f0.f0 - 1 = q.f0.f1) && !(x.f1.f0 == q.f1.f0 && x.f1.f1 == q.f1.f1))
def chkB (w1 : Int) : Option Er → List Er → Bool
  | _, [] => true
  | p, x :: xs => stepB w1 p x && chkB w1 (some x) xs
def prevOf (l : List Er) (i : Nat) : Option Er := if i = 0 then none else l[i - 1]?
def ec (b : Bool) : Int := if b = true then 0 else 2
theorem j2_no (l m : List Er) (i n j a b c d e f : Int) : Ev (fun k => line_Check.j2 k l i m n j true a b c d e f) 2 := by
  refine Ev.succ ?_
  simp only [line_Check.j2]
  exact Ev.pos trivial (Ev.const rfl)
def bndE (x : Er) : Prop := -9223372036854775808 ≤ x.f0.f0 ∧ x.f0.f0 ≤ 9223372036854775807 ∧ -9223372036854775808 ≤ x.f0.f1 ∧ x.f0.f1 ≤ 9223372036854775807
theorem wf_era {x : Er} (h : wf52 x) : bndE x := by
  unfold bndE
  obtain ⟨⟨h1, h2⟩, _⟩ := h
  have a := wf_i64 h1
  have b := wf_i64 h2
  omega
theorem chk_l (l : List Er) (hw : ∀ x ∈ l, bndE x) (hl : l.length ≤ 1024) (w0 w1 : Int) (hw1 : w1 ≤ 1099511627776) : ∀ (r : List Er) (i : Nat), l.drop i = r → (∀ q, prevOf l i = some q → q.f0.f1 ≤ w1) → Ev (fun k => line_Check.l0 k l l (l.length : Int) (i : Int) w0 w1) (ec (chkB w1 (prevOf l i) r))
  | [], i, hd, hpv => by
    have h1 : l.length ≤ i := List.drop_eq_nil_iff.1 hd
    refine Ev.succ ?_
    simp only [line_Check.l0]
    exact Ev.neg (by omega) (Ev.const rfl)
  | x :: r, i, hd, hpv => by
    have hlt := dlt hd
    have hxb := hw x (List.mem_of_mem_drop (i := i) (by rw [hd]; simp))
    unfold bndE at hxb
    have hp : prevOf l (i + 1) = some x := by
      unfold prevOf
      rw [if_neg (by omega), Nat.add_sub_cancel, ← List.head?_drop, hd]
      rfl
    have ih : x.f0.f1 ≤ w1 → Ev (fun k => line_Check.l0 k l l (l.length : Int) ((i + 1 : Nat) : Int) w0 w1) (ec (chkB w1 (some x) r)) := fun hx1 => by
      have := chk_l l hw hl w0 w1 hw1 r (i + 1) (dnext hd) (fun q hq => by rw [hp] at hq; cases hq; exact hx1)
      rwa [hp] at this
    refine Ev.succ ?_
    simp only [line_Check.l0, rdV hd]
    refine Ev.pos (by omega) (Ev.pos (by omega) (Ev.pos (by omega) ?_))
    rw [right_some]
    simp only [Option.bind_some, chkB]
    by_cases h1 : rightB x.f1 = true
    · refine Ev.pos h1 ?_
      by_cases h2 : x.f0.f1 < x.f0.f0
      · have e : stepB w1 (prevOf l i) x = false := by unfold stepB; rw [decide_eq_false (show ¬ x.f0.f0 ≤ x.f0.f1 by omega)]; simp
        rw [e]
        exact Ev.pos h2 (j2_no ..)
      · refine Ev.neg h2 ?_
        by_cases h3 : x.f0.f1 > w1
        · have e : stepB w1 (prevOf l i) x = false := by unfold stepB; rw [decide_eq_false (show ¬ x.f0.f1 ≤ w1 by omega)]; simp
          rw [e, decide_eq_true h3]
          exact j2_no ..
        · rw [decide_eq_false h3]
          refine Ev.succ ?_
          simp only [line_Check.j2]
          refine Ev.neg (by simp) ?_
          by_cases h4 : (i : Int) > 0
          · refine Ev.pos h4 ?_
            obtain ⟨q, hq⟩ : ∃ q, l[i - 1]? = some q := ⟨_, List.getElem?_eq_getElem (by omega)⟩
            have hpq : prevOf l i = some q := by unfold prevOf; rw [if_neg (by omega)]; exact hq
            have hqb := hw q (List.mem_of_getElem? hq)
            unfold bndE at hqb
            have hrd : rd_T52 l (wrap64 ((i : Int) - 1)) = q := by
              rw [w64 (by omega) (by omega), show ((i : Int) - 1) = ((i - 1 : Nat) : Int) by omega]
              simp [rd_T52, List.getD_eq_getElem?_getD, hq]
            rw [hpq, hrd]
            refine Ev.pos (by rw [w64 (by omega) (by omega)]; omega) (Ev.pos (by rw [w64 (by omega) (by omega)]; omega) ?_)
            have hs : stepB w1 (some q) x = (decide (x.f0.f0 - 1 = q.f0.f1) && !(x.f1.f0 == q.f1.f0 && x.f1.f1 == q.f1.f1)) := by
              unfold stepB
              rw [h1, decide_eq_true (show x.f0.f0 ≤ x.f0.f1 by omega), decide_eq_true (show x.f0.f1 ≤ w1 by omega)]
              simp
            rw [hs]
            by_cases h5 : x.f0.f0 - 1 = q.f0.f1
            · refine Ev.pos (by rw [w64 (by omega) (by omega)]; exact h5) ?_
              rw [decide_eq_true h5]
              by_cases h6 : (x.f1.f0 == q.f1.f0 && x.f1.f1 == q.f1.f1) = true
              · rw [h6]
                exact Ev.pos rfl (Ev.const rfl)
              · refine Ev.neg h6 ?_
                rw [Bool.eq_false_iff.2 h6, w64 (by omega) (by omega), show ((i : Int) + 1) = ((i + 1 : Nat) : Int) by omega]
                exact ih (by omega)
            · rw [decide_eq_false h5]
              refine Ev.neg (fun hh => ?_) (Ev.const rfl)
              rcases Int.lt_or_le x.f0.f0 (-9223372036854775807) with hm | hm
              · have e1 : x.f0.f0 = -9223372036854775808 := by omega
                rw [e1] at hh
                have e2 : wrap64 (-9223372036854775808 - 1) = 9223372036854775807 := by unfold wrap64; omega
                rw [e2] at hh
                have := hpv q hpq
                omega
              · rw [w64 (by omega) (by omega)] at hh
                exact h5 hh
          · refine Ev.neg h4 ?_
            obtain rfl : i = 0 := by omega
            have hs : stepB w1 (prevOf l 0) x = true := by
              unfold stepB prevOf
              rw [h1, decide_eq_true (show x.f0.f0 ≤ x.f0.f1 by omega), decide_eq_true (show x.f0.f1 ≤ w1 by omega)]
              rfl
            rw [hs, w64 (by omega) (by omega)]
            exact ih (by omega)
    · refine Ev.neg h1 ?_
      have e : stepB w1 (prevOf l i) x = false := by unfold stepB; rw [Bool.eq_false_iff.2 h1]; simp
      rw [e]
      exact j2_no ..
def lineB (w0 w1 : Int) (l : List Er) : Bool := decide (winP w0 w1) && decide (0 < l.length) && decide (l.length ≤ 1024) && decide ((rd_T52 l 0).f0.f0 = w0) && decide ((rd_T52 l ((l.length - 1 : Nat) : Int)).f0.f1 = w1) && chkB w1 none l
theorem j0_no (l : List Er) (a b : Int) : Ev (fun k => line_Check.j0 k l true a b) 2 := by
  refine Ev.succ ?_
  simp only [line_Check.j0]
  exact Ev.pos trivial (Ev.const rfl)
theorem check_ev (l : List Er) (hw : ∀ x ∈ l, bndE x) (w0 w1 : Int) : Ev (fun k => line_Check.f k w0 w1 l) (ec (lineB w0 w1 l)) := by
  simp only [line_Check.f]
  refine Ev.bind (win_ev w0 w1) ?_
  by_cases c0 : winP w0 w1
  case neg =>
    have e : lineB w0 w1 l = false := by unfold lineB; rw [decide_eq_false c0]; simp
    rw [e, decide_eq_false c0]
    exact Ev.neg (by simp) (j0_no ..)
  rw [decide_eq_true c0]
  refine Ev.pos rfl ?_
  by_cases c1 : l.length = 0
  · have e : lineB w0 w1 l = false := by unfold lineB; rw [decide_eq_false (show ¬ 0 < l.length by omega)]; simp
    rw [e]
    exact Ev.pos (by omega) (j0_no ..)
  refine Ev.neg (by omega) ?_
  by_cases c2 : l.length ≤ 1024
  case neg =>
    have e : lineB w0 w1 l = false := by unfold lineB; rw [decide_eq_false c2]; simp
    rw [e]
    exact Ev.pos (by omega) (j0_no ..)
  refine Ev.neg (by omega) (Ev.pos (by omega) ?_)
  by_cases c3 : (rd_T52 l 0).f0.f0 = w0
  case neg =>
    have e : lineB w0 w1 l = false := by unfold lineB; rw [decide_eq_false c3]; simp
    rw [e]
    exact Ev.neg c3 (j0_no ..)
  refine Ev.pos c3 ?_
  rw [w64 (by omega) (by omega), show ((l.length : Int) - 1) = ((l.length - 1 : Nat) : Int) by omega]
  refine Ev.pos (by omega) (Ev.pos (by omega) ?_)
  by_cases c4 : (rd_T52 l ((l.length - 1 : Nat) : Int)).f0.f1 = w1
  case neg =>
    have e : lineB w0 w1 l = false := by unfold lineB; rw [decide_eq_false c4]; simp
    rw [e, bne_iff_ne.mpr c4]
    exact j0_no ..
  have e : lineB w0 w1 l = chkB w1 none l := by
    unfold lineB
    rw [decide_eq_true c0, decide_eq_true (show 0 < l.length by omega), decide_eq_true c2, decide_eq_true c3, decide_eq_true c4]
    simp
  rw [e, c4, bne_self_eq_false]
  refine Ev.succ ?_
  simp only [line_Check.j0]
  refine Ev.neg (by simp) ?_
  exact chk_l l hw c2 w0 w1 (by unfold winP at c0; omega) l 0 rfl (fun q hq => by simp [prevOf] at hq)
def cont : Int → List Er → Option Int
  | f, [] => some f
  | f, x :: xs => if x.f0.f0 = f ∧ f ≤ x.f0.f1 ∧ rightB x.f1 = true then cont (x.f0.f1 + 1) xs else none
def sameV (a b : Vd) : Prop := a.f0 = b.f0 ∧ a.f1 = b.f1
instance (a b : Vd) : Decidable (sameV a b) := by unfold sameV; infer_instance
theorem sameV_eq {a b : Vd} (h : sameV a b) : a = b := by
  obtain ⟨h1, h2⟩ := h
  cases a; cases b
  simp only at h1 h2
  rw [h1, h2]
def alt : Option Vd → List Er → Prop
  | _, [] => True
  | none, x :: xs => alt (some x.f1) xs
  | some v, x :: xs => ¬ sameV x.f1 v ∧ alt (some x.f1) xs
def val (t : Int) : List Er → Vd
  | [] => ⟨0, 0⟩
  | x :: xs => if t ≤ x.f0.f1 then x.f1 else val t xs
theorem cont_le : ∀ (l : List Er) (f a : Int), cont f l = some a → f ≤ a
  | [], f, a, h => by
    obtain rfl := Option.some.inj h
    omega
  | x :: xs, f, a, h => by
    unfold cont at h
    by_cases c : x.f0.f0 = f ∧ f ≤ x.f0.f1 ∧ rightB x.f1 = true
    · rw [if_pos c] at h
      have := cont_le xs _ a h
      omega
    · rw [if_neg c] at h
      cases h
theorem cont_snoc : ∀ (l : List Er) (f a : Int) (x : Er), cont f l = some a → cont f (l ++ [x]) = if x.f0.f0 = a ∧ a ≤ x.f0.f1 ∧ rightB x.f1 = true then some (x.f0.f1 + 1) else none
  | [], f, a, x, h => by
    obtain rfl := Option.some.inj h
    rfl
  | y :: ys, f, a, x, h => by
    unfold cont at h
    by_cases c : y.f0.f0 = f ∧ f ≤ y.f0.f1 ∧ rightB y.f1 = true
    · rw [if_pos c] at h
      rw [List.cons_append]
      unfold cont
      rw [if_pos c]
      exact cont_snoc ys _ a x h
    · rw [if_neg c] at h
      cases h
theorem cont_init : ∀ (l : List Er) (f a : Int) (x : Er), cont f (l ++ [x]) = some a → ∃ b, cont f l = some b ∧ x.f0.f0 = b ∧ b ≤ x.f0.f1 ∧ rightB x.f1 = true ∧ a = x.f0.f1 + 1
  | [], f, a, x, h => by
    simp only [List.nil_append, cont] at h
    by_cases c : x.f0.f0 = f ∧ f ≤ x.f0.f1 ∧ rightB x.f1 = true
    · rw [if_pos c] at h
      exact ⟨f, rfl, c.1, c.2.1, c.2.2, (Option.some.inj h).symm⟩
    · rw [if_neg c] at h
      cases h
  | y :: ys, f, a, x, h => by
    rw [List.cons_append] at h
    unfold cont at h
    by_cases c : y.f0.f0 = f ∧ f ≤ y.f0.f1 ∧ rightB y.f1 = true
    · rw [if_pos c] at h
      obtain ⟨b, h1, h2⟩ := cont_init ys _ a x h
      refine ⟨b, ?_, h2⟩
      unfold cont
      rw [if_pos c]
      exact h1
    · rw [if_neg c] at h
      cases h
theorem val_snoc (t : Int) : ∀ (l : List Er) (f a : Int) (x : Er), cont f l = some a → f ≤ t → val t (l ++ [x]) = if t < a then val t l else if t ≤ x.f0.f1 then x.f1 else ⟨0, 0⟩
  | [], f, a, x, h, hf => by
    obtain rfl := Option.some.inj h
    rw [if_neg (by omega)]
    rfl
  | y :: ys, f, a, x, h, hf => by
    unfold cont at h
    by_cases c : y.f0.f0 = f ∧ f ≤ y.f0.f1 ∧ rightB y.f1 = true
    · rw [if_pos c] at h
      have hle := cont_le _ _ _ h
      rw [List.cons_append]
      simp only [val]
      by_cases ct : t ≤ y.f0.f1
      · rw [if_pos ct, if_pos (by omega), if_pos ct]
      · rw [if_neg ct, if_neg ct]
        exact val_snoc t ys _ a x h (by omega)
    · rw [if_neg c] at h
      cases h
theorem alt_snoc : ∀ (l : List Er) (p : Option Vd) (x : Er), alt p (l ++ [x]) ↔ alt p l ∧ (∀ v, (l.getLast?.map (·.f1)).or p = some v → ¬ sameV x.f1 v)
  | [], none, x => by simp [alt]
  | [], some v, x => by simp [alt]
  | y :: ys, p, x => by
    have ih := alt_snoc ys (some y.f1) x
    have e : (((y :: ys).getLast?).map (·.f1)).or p = ((ys.getLast?).map (·.f1)).or (some y.f1) := by
      cases ys with
      | nil => simp
      | cons z zs => rw [List.getLast?_cons_cons]; cases h : (z :: zs).getLast? with
        | none => simp at h
        | some u => simp
    rw [e, List.cons_append]
    cases p with
    | none => simp only [alt]; exact ih
    | some v => simp only [alt]; rw [ih, and_assoc]
structure LineOk (w0 w1 : Int) (l : List Er) : Prop where
  win : winP w0 w1
  ne : l ≠ []
  len : l.length ≤ 1024
  cont : cont w0 l = some (w1 + 1)
  alt : alt none l
def afterE : Option Er → Int → Prop
  | none, _ => True
  | some q, f => f = q.f0.f1 + 1
theorem chk_iff (w1 : Int) : ∀ (l : List Er) (p : Option Er), chkB w1 p l = true ↔
    (l = [] ∨ ∃ x xs a, l = x :: xs ∧ afterE p x.f0.f0 ∧ cont x.f0.f0 l = some a ∧ alt (p.map (·.f1)) l ∧ a ≤ w1 + 1)
  | [], p => by simp [chkB]
  | x :: xs, p => by
    have ih := chk_iff w1 xs (some x)
    have e1 : cont x.f0.f0 (x :: xs) = if x.f0.f0 ≤ x.f0.f1 ∧ rightB x.f1 = true then cont (x.f0.f1 + 1) xs else none := by
      show (if x.f0.f0 = x.f0.f0 ∧ x.f0.f0 ≤ x.f0.f1 ∧ rightB x.f1 = true then cont (x.f0.f1 + 1) xs else none) = _
      simp
    simp only [chkB, Bool.and_eq_true, ih]
    constructor
    · rintro ⟨hs, hr⟩
      right
      unfold stepB at hs
      simp only [Bool.and_eq_true, decide_eq_true_eq] at hs
      obtain ⟨⟨⟨h1, h2⟩, h3⟩, h4⟩ := hs
      have hp : afterE p x.f0.f0 ∧ ∀ v, p.map (·.f1) = some v → ¬ sameV x.f1 v := by
        cases p with
        | none => exact ⟨trivial, fun v hv => by cases hv⟩
        | some q =>
          simp only [Bool.and_eq_true, decide_eq_true_eq, Bool.not_eq_true', Bool.and_eq_false_iff, beq_eq_false_iff_ne] at h4
          refine ⟨show x.f0.f0 = q.f0.f1 + 1 by omega, fun v hv => ?_⟩
          obtain rfl : q.f1 = v := Option.some.inj hv
          rintro ⟨g1, g2⟩
          rcases h4.2 with h | h
          · exact h g1
          · exact h g2
      have halt : ∀ ys, alt (some x.f1) ys → alt (p.map (·.f1)) (x :: ys) := fun ys hy => by
        cases hpm : p.map (·.f1) with
        | none => exact hy
        | some v => exact ⟨hp.2 v hpm, hy⟩
      rcases hr with rfl | ⟨y, ys, a, rfl, hy1, hy2, hy3, hy4⟩
      · exact ⟨x, [], x.f0.f1 + 1, rfl, hp.1, by rw [e1, if_pos ⟨h2, h1⟩]; rfl, halt _ trivial, by omega⟩
      · have hy1' : y.f0.f0 = x.f0.f1 + 1 := hy1
        exact ⟨x, y :: ys, a, rfl, hp.1, by rw [e1, if_pos ⟨h2, h1⟩, ← hy1']; exact hy2, halt _ hy3, hy4⟩
    · rintro (h | ⟨x', xs', a, h, hp, hc, ha, hle⟩)
      · cases h
      · obtain ⟨rfl, rfl⟩ := List.cons.inj h
        rw [e1] at hc
        by_cases c : x.f0.f0 ≤ x.f0.f1 ∧ rightB x.f1 = true
        case neg => rw [if_neg c] at hc; cases hc
        rw [if_pos c] at hc
        have h5 := cont_le _ _ _ hc
        have hsp : ∀ q, p = some q → x.f0.f0 - 1 = q.f0.f1 ∧ ¬ sameV x.f1 q.f1 := fun q hq => by
          subst hq
          have h6 : x.f0.f0 = q.f0.f1 + 1 := hp
          exact ⟨by omega, ha.1⟩
        have haxs : alt (some x.f1) xs := by
          cases p with
          | none => exact ha
          | some q => exact ha.2
        constructor
        · unfold stepB
          rw [c.2, decide_eq_true c.1, decide_eq_true (show x.f0.f1 ≤ w1 by omega)]
          cases p with
          | none => rfl
          | some q =>
            obtain ⟨h7, h8⟩ := hsp q rfl
            simp only [decide_eq_true h7, Bool.true_and, Bool.and_true, Bool.not_eq_true', Bool.and_eq_false_iff, beq_eq_false_iff_ne]
            by_cases g : x.f1.f0 = q.f1.f0
            · exact .inr (fun g2 => h8 ⟨g, g2⟩)
            · exact .inl g
        · cases xs with
          | nil => exact .inl rfl
          | cons y ys =>
            right
            have hy : y.f0.f0 = x.f0.f1 + 1 := by
              unfold cont at hc
              by_cases d : y.f0.f0 = x.f0.f1 + 1 ∧ x.f0.f1 + 1 ≤ y.f0.f1 ∧ rightB y.f1 = true
              · exact d.1
              · rw [if_neg d] at hc; cases hc
            exact ⟨y, ys, a, rfl, hy, by rw [hy]; exact hc, haxs, hle⟩
theorem cont_last : ∀ (l : List Er) (f a : Int) (x : Er), cont f l = some a → l.getLast? = some x → a = x.f0.f1 + 1 := by
  intro l f a x h hx
  obtain ⟨l', rfl⟩ := List.getLast?_eq_some_iff.1 hx
  obtain ⟨b, _, _, _, _, e⟩ := cont_init l' f a x h
  exact e
theorem rd_last (l : List Er) (h : l ≠ []) : l.getLast? = some (rd_T52 l ((l.length - 1 : Nat) : Int)) := by
  have hl : l.length - 1 < l.length := by have := List.length_pos_iff.2 h; omega
  rw [List.getLast?_eq_getElem?, List.getElem?_eq_getElem hl]
  simp [rd_T52, List.getD_eq_getElem?_getD, hl]
theorem line_iff (w0 w1 : Int) (l : List Er) : lineB w0 w1 l = true ↔ LineOk w0 w1 l := by
  unfold lineB
  simp only [Bool.and_eq_true, decide_eq_true_eq]
  constructor
  · rintro ⟨⟨⟨⟨⟨h1, h2⟩, h3⟩, h4⟩, h5⟩, h6⟩
    have hne : l ≠ [] := fun e => by subst e; cases h2
    rcases (chk_iff w1 l none).1 h6 with h | ⟨x, xs, a, rfl, _, hc, ha, _⟩
    · exact absurd h hne
    · have e4 : x.f0.f0 = w0 := h4
      rw [e4] at hc
      have := cont_last _ _ _ _ hc (rd_last _ hne)
      rw [h5] at this
      subst this
      exact ⟨h1, hne, h3, hc, ha⟩
  · rintro ⟨h1, h2, h3, h4, h5⟩
    have hlast := cont_last _ _ _ _ h4 (rd_last _ h2)
    have hlen := List.length_pos_iff.2 h2
    cases l with
    | nil => exact absurd rfl h2
    | cons x xs =>
      have e4 : x.f0.f0 = w0 := by
        unfold cont at h4
        by_cases d : x.f0.f0 = w0 ∧ w0 ≤ x.f0.f1 ∧ rightB x.f1 = true
        · exact d.1
        · rw [if_neg d] at h4; cases h4
      refine ⟨⟨⟨⟨⟨h1, hlen⟩, h3⟩, e4⟩, by omega⟩, (chk_iff w1 _ none).2 (.inr ⟨x, xs, w1 + 1, rfl, trivial, ?_, h5, Int.le_refl _⟩)⟩
      rw [e4]
      exact h4
abbrev Pc := S97
theorem rd_snocP (init : List Pc) (l : Pc) : rd_T97 (init ++ [l]) (((init ++ [l]).length - 1 : Nat) : Int) = l := by
  simp [rd_T97, List.getD_eq_getElem?_getD]
theorem snoc_of {α : Type} {l : List α} (h : l ≠ []) : ∃ i x, l = i ++ [x] := ⟨l.dropLast, l.getLast h, (List.dropLast_concat_getLast h).symm⟩
theorem addV_map (out : List Pc) (x : Pc) :
    (∃ i l, out.map eraOf = i ++ [l] ∧ sameV l.f1 x.f1 ∧ (addV out x).map eraOf = i ++ [⟨⟨l.f0.f0, x.f0.f1⟩, l.f1⟩]) ∨
    ((∀ v, (out.map eraOf).getLast?.map (·.f1) = some v → ¬ sameV x.f1 v) ∧ (addV out x).map eraOf = out.map eraOf ++ [eraOf x]) := by
  by_cases hn : out = []
  · subst hn
    right
    exact ⟨fun v hv => by simp at hv, by simp [addV]⟩
  · obtain ⟨i, l, rfl⟩ := snoc_of hn
    unfold addV
    rw [rd_snocP]
    by_cases c : l.f1.f0 = x.f1.f0 ∧ l.f1.f1 = x.f1.f1
    · left
      refine ⟨i.map eraOf, eraOf l, by simp, c, ?_⟩
      rw [if_pos ⟨by simp, c.1, c.2⟩]
      have e : (i ++ [l]).set ((i ++ [l]).length - 1) (⟨⟨l.f0.f0, x.f0.f1⟩, l.f1⟩ : Pc) = i ++ [⟨⟨l.f0.f0, x.f0.f1⟩, l.f1⟩] := by
        rw [List.length_append, List.length_singleton, Nat.add_sub_cancel, List.set_append_right _ _ (Nat.le_refl _), Nat.sub_self]
        rfl
      rw [e]
      simp [eraOf]
    · right
      rw [if_neg (fun h => c h.2)]
      refine ⟨fun v hv => ?_, by simp⟩
      simp only [List.map_append, List.map_cons, List.map_nil, List.getLast?_append, List.getLast?_singleton, Option.some_or, Option.map_some] at hv
      obtain rfl := Option.some.inj hv
      rintro ⟨h1, h2⟩
      exact c ⟨h1.symm, h2.symm⟩
theorem put_ok' (O O' : List Er) (w0 a z : Int) (v : Vd) (h : (∃ i l, O = i ++ [l] ∧ sameV l.f1 v ∧ O' = i ++ [⟨⟨l.f0.f0, z⟩, l.f1⟩]) ∨ ((∀ u, O.getLast?.map (·.f1) = some u → ¬ sameV v u) ∧ O' = O ++ [⟨⟨a, z⟩, v⟩]))
    (hc : cont w0 O = some a) (ha : alt none O) (hz : a ≤ z) (hv : rightB v = true) :
    cont w0 O' = some (z + 1) ∧ alt none O' ∧ O' ≠ [] ∧ ∀ t, w0 ≤ t → t ≤ z → val t O' = if t < a then val t O else v := by
  rcases h with ⟨i, l, e1, e2, e3⟩ | ⟨e1, e2⟩
  · rw [e3]
    rw [e1] at hc ha ⊢
    obtain ⟨b, h1, h2, h3, h4, h5⟩ := cont_init _ _ _ _ hc
    obtain ⟨g1, g2⟩ := (alt_snoc i none l).1 ha
    refine ⟨?_, (alt_snoc i none _).2 ⟨g1, g2⟩, by simp, fun t ht0 ht => ?_⟩
    · rw [cont_snoc _ _ _ _ h1, if_pos ⟨h2, show b ≤ z by omega, h4⟩]
    · rw [val_snoc t _ _ _ _ h1 ht0, val_snoc t _ _ _ _ h1 ht0]
      show (if t < b then val t i else if t ≤ z then l.f1 else ⟨0, 0⟩) = _
      by_cases c1 : t < a
      · rw [if_pos c1]
        by_cases c2 : t < b
        · rw [if_pos c2, if_pos c2]
        · rw [if_neg c2, if_neg c2, if_pos ht, if_pos (by omega)]
      · rw [if_neg c1, if_neg (by omega), if_pos ht]
        exact sameV_eq e2
  · rw [e2]
    refine ⟨?_, (alt_snoc _ none _).2 ⟨ha, fun u hu => e1 u (by simpa using hu)⟩, by simp, fun t ht0 ht => ?_⟩
    · rw [cont_snoc _ _ _ _ hc]
      exact if_pos ⟨rfl, hz, hv⟩
    · rw [val_snoc t _ _ _ _ hc ht0]
      by_cases c1 : t < a
      · rw [if_pos c1, if_pos c1]
      · rw [if_neg c1, if_neg c1]
        exact if_pos ht
theorem put_ok (out : List Pc) (w0 a z : Int) (v : Vd) (hc : cont w0 (out.map eraOf) = some a) (ha : alt none (out.map eraOf)) (hz : a ≤ z) (hv : rightB v = true) :
    cont w0 ((addV out ⟨⟨a, z⟩, v⟩).map eraOf) = some (z + 1) ∧ alt none ((addV out ⟨⟨a, z⟩, v⟩).map eraOf) ∧ (addV out ⟨⟨a, z⟩, v⟩).map eraOf ≠ [] ∧
      ∀ t, w0 ≤ t → t ≤ z → val t ((addV out ⟨⟨a, z⟩, v⟩).map eraOf) = if t < a then val t (out.map eraOf) else v :=
  put_ok' _ _ w0 a z v (addV_map out ⟨⟨a, z⟩, v⟩) hc ha hz hv
def wantF (t : Int) (acc : Vd) (m : Mk) : Vd := if m.f0 ≤ t then m.f1 else acc
theorem mk_ok (w0 w1 t : Int) (hw0 : 0 ≤ w0) (hw1 : w1 ≤ 1099511627776) (ht0 : w0 ≤ t) (ht1 : t ≤ w1) : ∀ (rest : List Mk) (m : Mk) (out out' : List Pc) (acc : Vd), (∀ x ∈ rest, x.f0 ≤ 9223372036854775807) →
    mk_l w1 (m :: rest) out = some out' → cont w0 (out.map eraOf) = some m.f0 → alt none (out.map eraOf) → (t < m.f0 → val t (out.map eraOf) = acc) →
      cont w0 (out'.map eraOf) = some (w1 + 1) ∧ alt none (out'.map eraOf) ∧ out'.map eraOf ≠ [] ∧ val t (out'.map eraOf) = (m :: rest).foldl (wantF t) acc
  | [], m, out, out', acc, hwf, h, hc, ha, hv => by
    unfold mk_l at h
    by_cases c : rightB m.f1 = false ∨ w1 < m.f0
    · rw [if_pos c] at h; cases h
    · rw [if_neg c] at h
      simp only [not_or, Bool.not_eq_false] at c
      obtain rfl := Option.some.inj h
      obtain ⟨p1, p2, p3, p4⟩ := put_ok out w0 m.f0 w1 m.f1 hc ha (by omega) c.1
      refine ⟨p1, p2, p3, ?_⟩
      rw [p4 t ht0 ht1]
      show _ = wantF t acc m
      unfold wantF
      by_cases d : t < m.f0
      · rw [if_pos d, if_neg (by omega)]
        exact hv d
      · rw [if_neg d, if_pos (by omega)]
  | n :: rest, m, out, out', acc, hwf, h, hc, ha, hv => by
    unfold mk_l at h
    by_cases c : rightB m.f1 = false ∨ w1 < m.f0
    · rw [if_pos c] at h; cases h
    · rw [if_neg c] at h
      simp only [not_or, Bool.not_eq_false] at c
      dsimp only at h
      by_cases d : n.f0 ≤ m.f0
      · rw [if_pos d] at h; cases h
      · rw [if_neg d] at h
        have hle := cont_le _ _ _ hc
        have hn := hwf n (by simp)
        rw [w64 (by omega) (by omega)] at h
        obtain ⟨p1, p2, p3, p4⟩ := put_ok out w0 m.f0 (n.f0 - 1) m.f1 hc ha (by omega) c.1
        rw [show n.f0 - 1 + 1 = n.f0 by omega] at p1
        refine mk_ok w0 w1 t hw0 hw1 ht0 ht1 rest n _ out' (wantF t acc m) (fun x hx => hwf x (by simp [hx])) h p1 p2 (fun htn => ?_)
        rw [p4 t ht0 (by omega)]
        unfold wantF
        by_cases d2 : t < m.f0
        · rw [if_pos d2, if_neg (by omega)]
          exact hv d2
        · rw [if_neg d2, if_pos (by omega)]
def makeV (w0 w1 : Int) (l : List Mk) : List Er × Int := if winP w0 w1 ∧ 0 < l.length ∧ (rd_T46 l 0).f0 = w0 then (match mk_l w1 l [] with
  | none => ([], 2)
  | some out => if 1024 < out.length then ([], 11) else (out.map eraOf, 0)) else ([], 2)
theorem make_ev (w0 w1 : Int) (l : List Mk) : Ev (fun k => line_Make.f k w0 w1 l) (makeV w0 w1 l) := by
  simp only [line_Make.f]
  refine Ev.bind (win_ev w0 w1) ?_
  unfold makeV
  by_cases c : winP w0 w1 ∧ 0 < l.length ∧ (rd_T46 l 0).f0 = w0
  · rw [if_pos c]
    obtain ⟨v1, v2, v3⟩ := c.1
    exact Ev.pos ⟨decide_eq_true c.1, c.2⟩ (Ev.pos ⟨v1, v3⟩ (Ev.const rfl))
  · rw [if_neg c]
    exact Ev.neg (fun h => c ⟨of_decide_eq_true h.1, h.2⟩) (Ev.const rfl)
theorem make_ok (w0 w1 : Int) (l : List Mk) (hwf : ∀ x ∈ l, x.f0 ≤ 9223372036854775807) (h : (makeV w0 w1 l).2 = 0) :
    LineOk w0 w1 (makeV w0 w1 l).1 ∧ ∀ t, w0 ≤ t → t ≤ w1 → val t (makeV w0 w1 l).1 = l.foldl (wantF t) ⟨0, 0⟩ := by
  unfold makeV at h ⊢
  by_cases c : winP w0 w1 ∧ 0 < l.length ∧ (rd_T46 l 0).f0 = w0
  case neg => rw [if_neg c] at h; cases h
  rw [if_pos c] at h ⊢
  obtain ⟨hw, hn, h0⟩ := c
  have hw' := hw
  obtain ⟨w1', w2', w3'⟩ := hw'
  cases l with
  | nil => cases hn
  | cons m rest =>
    have h0' : m.f0 = w0 := h0
    cases hm : mk_l w1 (m :: rest) [] with
    | none => rw [hm] at h; cases h
    | some out =>
      rw [hm] at h
      dsimp only at h ⊢
      by_cases d : 1024 < out.length
      · rw [if_pos d] at h; cases h
      · rw [if_neg d]
        have key := fun t (ht0 : w0 ≤ t) (ht1 : t ≤ w1) => mk_ok w0 w1 t w1' w3' ht0 ht1 rest m [] out ⟨0, 0⟩ (fun x hx => hwf x (by simp [hx])) hm (by rw [h0']; rfl) trivial (fun h => by omega)
        obtain ⟨k1, k2, k3, _⟩ := key w0 (Int.le_refl _) w2'
        exact ⟨⟨hw, k3, by rw [List.length_map]; omega, k1, k2⟩, fun t ht0 ht1 => (key t ht0 ht1).2.2.2⟩
theorem make_no (w0 w1 : Int) (l : List Mk) (h : (makeV w0 w1 l).2 ≠ 0) : (makeV w0 w1 l).1 = [] := by
  unfold makeV at h ⊢
  by_cases c : winP w0 w1 ∧ 0 < l.length ∧ (rd_T46 l 0).f0 = w0
  · rw [if_pos c] at h ⊢
    cases hm : mk_l w1 l [] with
    | none => rfl
    | some out =>
      rw [hm] at h
      dsimp only at h ⊢
      by_cases d : 1024 < out.length
      · rw [if_pos d]
      · rw [if_neg d] at h; exact absurd rfl h
  · rw [if_neg c]
theorem cont_bnd : ∀ (l : List Er) (f a : Int), cont f l = some a → ∀ x ∈ l, f ≤ x.f0.f0 ∧ x.f0.f0 ≤ x.f0.f1 ∧ x.f0.f1 < a
  | [], f, a, h, x, hx => by cases hx
  | y :: ys, f, a, h, x, hx => by
    unfold cont at h
    by_cases c : y.f0.f0 = f ∧ f ≤ y.f0.f1 ∧ rightB y.f1 = true
    · rw [if_pos c] at h
      have hle := cont_le _ _ _ h
      rcases List.mem_cons.1 hx with rfl | hx
      · omega
      · have := cont_bnd ys _ a h x hx
        omega
    · rw [if_neg c] at h; cases h
theorem LineOk.bnd {w0 w1 : Int} {l : List Er} (h : LineOk w0 w1 l) : ∀ x ∈ l, bndE x := fun x hx => by
  have := cont_bnd l _ _ h.cont x hx
  have hw := h.win
  unfold winP at hw
  unfold bndE
  omega
theorem idx_val (t : Int) : ∀ (l : List Er) (i : Nat), (∃ x ∈ l, t ≤ x.f0.f1) → ∃ n x, idxFrom t i l = ((i + n : Nat) : Int) ∧ l[n]? = some x ∧ x.f1 = val t l
  | [], i, h => by obtain ⟨x, hx, _⟩ := h; cases hx
  | y :: ys, i, h => by
    by_cases c : t ≤ y.f0.f1
    · exact ⟨0, y, by simp only [idxFrom, if_pos c, Nat.add_zero], rfl, by simp only [val, if_pos c]⟩
    · obtain ⟨x, hx, hxt⟩ := h
      have hx' : ∃ x ∈ ys, t ≤ x.f0.f1 := by
        rcases List.mem_cons.1 hx with rfl | hx
        · exact absurd hxt c
        · exact ⟨x, hx, hxt⟩
      obtain ⟨n, z, h1, h2, h3⟩ := idx_val t ys (i + 1) hx'
      exact ⟨n + 1, z, by simp only [idxFrom, if_neg c]; rw [h1]; omega, by simpa using h2, by simp only [val, if_neg c]; exact h3⟩
def atV (w0 w1 : Int) (l : List Er) (t : Int) : Int × Int × Int := if lineB w0 w1 l = true then (if t < w0 ∨ w1 < t then (0, 0, 1) else ((val t l).f0, (val t l).f1, 0)) else (0, 0, 2)
theorem at_ev (w0 w1 : Int) (l : List Er) (hb : ∀ x ∈ l, bndE x) (t : Int) : Ev (fun k => line_At.f k w0 w1 l t) (atV w0 w1 l t) := by
  simp only [line_At.f]
  refine Ev.bind (check_ev l hb w0 w1) ?_
  unfold atV
  by_cases c : lineB w0 w1 l = true
  case neg =>
    rw [if_neg c, Bool.eq_false_iff.2 c]
    exact Ev.pos (by decide) (Ev.const rfl)
  rw [if_pos c, c]
  refine Ev.neg (by decide) ?_
  by_cases d : t < w0 ∨ w1 < t
  · simp only [if_pos d]
    exact Ev.const rfl
  · simp only [if_neg d]
    have hok := (line_iff w0 w1 l).1 c
    have hlast := cont_last _ _ _ _ hok.cont (rd_last _ hok.ne)
    have hmem : rd_T52 l ((l.length - 1 : Nat) : Int) ∈ l := List.mem_of_getLast? (rd_last _ hok.ne)
    obtain ⟨n, x, h1, h2, h3⟩ := idx_val t l 0 ⟨_, hmem, by omega⟩
    rw [h1, Nat.zero_add]
    have e : rd_T52 l ((n : Nat) : Int) = x := by simp [rd_T52, List.getD_eq_getElem?_getD, h2]
    rw [e, h3]
    exact Ev.pos (by omega) (Ev.const rfl)
end Go.Proofs.Ytghklhdooemjdaa.Line
end
section
namespace Go.Proofs.Ytghklhdooemjdaa.Pure
set_option linter.unusedVariables false
open Go.RowKit Go.Proofs.Ytghklhdooemjdaa.Q Go.Proofs.YtghklhdooemjdaaW.PrintWords Go.Proofs.YtghklhdooemjdaaW.PrintLast Go.Proofs.Ytghklhdooemjdaa.Base Go.Proofs.Ytghklhdooemjdaa.Open Go.Proofs.Ytghklhdooemjdaa.Line
theorem lives_ev : Ev spoorlaw20_lives.f true := Ev.of spoorlaw20_lives.mono (k := 200) (by decide +kernel)
theorem tells_l (t no : Int) (l : List (S46)) (v0 v1 : Int) (hl : l.length ≤ 5864062014634) : ∀ (r : List (S46)) (i : Nat) (acc : S35), l.drop i = r → Ev (fun k => spoorlaw20_LineTells.l0 k t no l (l.length : Int) (i : Int) v0 v1 acc.f0 acc.f1)
      (if no = 0 then (v0 == (r.foldl (wantF t) acc).f0 && (v1 == (r.foldl (wantF t) acc).f1)) else true)
  | [], i, acc, hd => by
    have h1 : l.length ≤ i := List.drop_eq_nil_iff.1 hd
    refine Ev.succ ?_
    simp only [spoorlaw20_LineTells.l0]
    refine Ev.neg (by omega) ?_
    by_cases c : no = 0
    · simp only [if_pos c]
      exact Ev.const rfl
    · simp only [if_neg c]
      exact Ev.const rfl
  | m :: r, i, acc, hd => by
    have hlt := dlt hd
    refine Ev.succ ?_
    simp only [spoorlaw20_LineTells.l0, rdM hd]
    refine Ev.pos (by omega) (Ev.pos (by omega) (Ev.pos (by omega) ?_))
    rw [w64 (by omega) (by omega), show ((i : Int) + 1) = ((i + 1 : Nat) : Int) by omega]
    by_cases c : m.f0 ≤ t
    · refine Ev.pos c ?_
      have e : wantF t acc m = m.f1 := if_pos c
      rw [List.foldl_cons, e]
      exact tells_l t no l v0 v1 hl r (i + 1) m.f1 (dnext hd)
    · refine Ev.neg c ?_
      have e : wantF t acc m = acc := if_neg c
      rw [List.foldl_cons, e]
      exact tells_l t no l v0 v1 hl r (i + 1) acc (dnext hd)
theorem LineTells : spoorlaw20_LineTells.Pure := by
  intro w0 w1 l t h0 h1 h2 hB
  have hwf : ∀ x ∈ l, x.f0 ≤ 9223372036854775807 := fun x hx => (wf_i64 (h1.1 x hx).1).2
  have hl : l.length ≤ 5864062014634 := by omega
  clear h0 h1 h2 hB
  refine Ev.rounds (g := fun k => spoorlaw20_LineTells.f k w0 w1 l t) (r := true) ?_
  simp only [spoorlaw20_LineTells.f]
  refine Ev.bind lives_ev (Ev.pos rfl (Ev.bind (make_ev w0 w1 l) ?_))
  by_cases c : (makeV w0 w1 l).2 = 0
  case neg =>
    refine Ev.neg c (Ev.const ?_)
    rw [make_no w0 w1 l c]
    rfl
  obtain ⟨ok, hval⟩ := make_ok w0 w1 l hwf c
  refine Ev.pos c ?_
  generalize (makeV w0 w1 l).1 = L at ok hval ⊢
  have hB := (line_iff w0 w1 L).2 ok
  have fin : ∀ v0 v1 no : Int, (no = 0 → v0 = (l.foldl (wantF t) ⟨0, 0⟩).f0 ∧ v1 = (l.foldl (wantF t) ⟨0, 0⟩).f1) → Ev (fun k => spoorlaw20_LineTells.j0 k l t no false v0 v1) true := fun v0 v1 no hv => by
    refine Ev.succ ?_
    simp only [spoorlaw20_LineTells.j0]
    refine Ev.neg (by simp) ?_
    refine Ev.to (tells_l t no l v0 v1 hl l 0 ⟨0, 0⟩ rfl) ?_
    by_cases n0 : no = 0
    · obtain ⟨g1, g2⟩ := hv n0
      rw [if_pos n0, ← g1, ← g2]
      simp
    · rw [if_neg n0]
  refine Ev.bind (at_ev w0 w1 L ok.bnd t) (Ev.bind (check_ev L ok.bnd w0 w1) (Ev.pos (by rw [hB]; rfl) ?_))
  unfold atV
  rw [if_pos hB]
  by_cases d : t < w0 ∨ w1 < t
  · rw [if_pos d]
    by_cases e : w0 ≤ t
    · refine Ev.pos e ?_
      rw [decide_eq_false (show ¬ t ≤ w1 by omega)]
      exact fin 0 0 1 (fun h => by cases h)
    · refine Ev.neg e ?_
      exact fin 0 0 1 (fun h => by cases h)
  · rw [if_neg d]
    refine Ev.pos (by omega) ?_
    rw [decide_eq_true (show t ≤ w1 by omega)]
    refine fin _ _ 0 (fun _ => ?_)
    rw [hval t (by omega) (by omega)]
    exact ⟨rfl, rfl⟩
end Go.Proofs.Ytghklhdooemjdaa.Pure
end
section
namespace Go.Proofs.Ytghklhdooemjdaa.lineTells
open Go.ChangeShapes Go.WideShapes Go.ChangeAt Go.RowKit Go.Proofs.Ytghklhdooemjdaa.Open Go.Proofs.Ytghklhdooemjdaa.Q
open Go.ChangeMaps (open_string shut_string)
set_option linter.unusedVariables false
theorem own : ownKnob Try.prog.godebug = none := by kernel_rfl
theorem laidOut : laidOutB Try.prog = true := by kernel_rfl
set_option maxRecDepth 100000 in
theorem contract (H : Type) (enc : TypeId × Value → H) (W : World) (base : Nat) (args : Array Value) (ds gs : List (DataW H)) (before : List MemPlace)
    (hval : ∀ (j : Nat) t v, Try.f5.params[j]? = some t → args[j]? = some v → Value.okWide Try.prog W .any base t v)
    (hW : DataW.Whole enc Try.prog Try.f5.params.toList Rows.lineTellsSpec.vars false W args.toList ds gs before) (hsz0 : (DataW.weightsEach Try.prog (Try.f5.params.toList ++ Rows.lineTellsSpec.plain.varTypes Try.prog) (ds ++ gs)).all (· ≤ reachBytes) = true) :
    Calls Try.prog 5 args W fun e W' => ∃ v, e = .returned v ∧ Rows.lineTellsSpec.post enc Try.prog Try.f5 false true false false W args v W' := by
  have hW' := hW
  obtain ⟨p, q, hA0, hV, rfl, hfz, hnd⟩ := hW
  have hA : DataW.TrodAll enc Try.prog W 0 (fun _ => true) true Try.f5.params.toList args.toList ds p := hA0
  have hsz : (DataW.weightsEach Try.prog (Try.f5.params.toList ++ Rows.lineTellsSpec.plain.varTypes Try.prog) (ds ++ gs)).all (· ≤ reachBytes) = true := hsz0
  rw [Try.params5] at hA hval hsz
  obtain ⟨v0, vs0, d0, ds0, p0, q0, hargs, rfl, rfl, h0, r0⟩ := trodAll_cons hA
  obtain ⟨v1, vs1, d1, ds1, p1, q1, rfl, rfl, rfl, h1, r1⟩ := trodAll_cons r0
  obtain ⟨v2, vs2, d2, ds2, p2, q2, rfl, rfl, rfl, h2, r2⟩ := trodAll_cons r1
  obtain ⟨rfl, rfl, rfl⟩ := trodAll_nil r2
  obtain rfl : args = #[v0, v1, v2] := by cases args; simp_all
  obtain ⟨rfl, rfl⟩ := trodVars_none hV
  have k0 := h0
  have lt0 : ∀ x ∈ p0, x.block < W.heap.size := by obtain ⟨m, hm⟩ := k0; exact DataW.trod_lt m _ _ _ hm
  obtain ⟨fu0, hf0⟩ := h0
  obtain ⟨b0, K0, o0, u0⟩ := opn23 enc W _ _ _ _ _ hf0
  have z0 := k23_open K0
  obtain rfl : v0 = .agg #[.int .i64 b0.f0, .int .i64 b0.f1] := by obtain ⟨x, rfl, _⟩ := okWide_struct Try.underlying23 (hval 0 23 v0 rfl rfl); exact congrArg Value.agg (Array.toList_inj.mp (show x.toList = [.int .i64 b0.f0, .int .i64 b0.f1] from z0))
  have k1 := h1
  have lt1 : ∀ x ∈ p1, x.block < W.heap.size := by obtain ⟨m, hm⟩ := k1; exact DataW.trod_lt m _ _ _ hm
  obtain ⟨fu1, hf1⟩ := h1
  obtain ⟨b1, K1, o1, u1⟩ := (opens_slice opn46 Try.underlying24 (by kernel_rfl) 46) enc W _ _ _ _ _ hf1
  obtain ⟨A1, c1, z1, lc1, C1⟩ := K1
  obtain rfl : v1 = .slice A1 b1.length c1 := by obtain ⟨x, y, z, rfl⟩ := okWide_slice Try.underlying24 (hval 1 24 v1 rfl rfl); exact (List.cons.inj (show [Value.slice x y z] = [Value.slice A1 b1.length c1] from z1)).1
  have k2 := h2
  have lt2 : ∀ x ∈ p2, x.block < W.heap.size := by obtain ⟨m, hm⟩ := k2; exact DataW.trod_lt m _ _ _ hm
  obtain ⟨fu2, hf2⟩ := h2
  obtain ⟨b2, K2, o2, u2⟩ := (opens_int Try.underlying2) enc W _ _ _ _ _ hf2
  obtain rfl : v2 = .int .i64 b2 := by obtain ⟨x, rfl⟩ := okWide_int Try.underlying2 (hval 2 2 v2 rfl rfl); exact (List.cons.inj (show [Value.int .i64 x] = [Value.int .i64 b2] from K2)).1
  have sz1 : b1.length * 24 ≤ 140737488351232 := sized_row hsz (j := 1) (t := 24) rfl rfl Try.underlying24 (by kernel_rfl) k1
  obtain ⟨k, h⟩ := Pure.LineTells b0.f0 b0.f1 b1 b2 o0 o1 o2 sz1
  refine (spoorlaw20_LineTells.calls k b0.f0 b0.f1 A1 c1 b1 b2 true W C1 lc1 h).mono fun e W' ⟨he, hd⟩ => ?_
  have bel := hd
  subst he
  exact ⟨_, rfl, _, _, _, [], _, [], hW', trodAll_mk1 (shut_bool Try.underlying4 _), (trodAll_cons_mk (Below.trod laidOut (by kernel_rfl) (of_decide_eq_true (by kernel_rfl)) k0 bel lt0) (trodAll_cons_mk (Below.trod laidOut (by kernel_rfl) (of_decide_eq_true (by kernel_rfl)) k1 bel lt1) (trodAll_cons_mk (Below.trod laidOut (by kernel_rfl) (of_decide_eq_true (by kernel_rfl)) k2 bel lt2) trodAll_mk0))), rfl, bel.frame _, fun h => by cases h⟩
set_option maxRecDepth 100000 in
theorem lifted (os : Os) (started : os.Started) (H : Type) (enc : TypeId × Value → H) :
    ReturnsInHanded {} Try.checked os 5 .any (Rows.lineTellsSpec.pre6 enc Try.prog Try.f5 Rows.lineTellsRow.domain false) (Rows.lineTellsSpec.post enc Try.prog Try.f5 false true false false) := by
  refine returnsInHanded_of_change_sized (C := Try.checked) own started (by kernel_rfl) Try.func5
    (ChangeSpec.witness6 (enc := enc) (C := Try.checked) false ⟨#[], #[.agg #[.int .i64 0, .int .i64 0], .slice none 0 0, .int .i64 0], []⟩ 8 (by kernel_rfl) (by kernel_rfl) (by kernel_rfl) (by kernel_rfl)) ?_
  intro W base args ds gs before hval hW _ hsz _
  exact contract H enc W base args ds gs before hval hW hsz
theorem over : Rows.lineTellsRow.holds Try.pinned (OpenSpec.ofChange Rows.lineTellsSpec) :=
  OpenClaim.holds_of_wide 5 Try.f5 rfl rfl rfl rfl rfl rfl rfl ⟨rfl, rfl, rfl, rfl, rfl⟩ rfl rfl rfl rfl rfl (by kernel_rfl) Try.func5 (by kernel_rfl)
    (of_decide_eq_true (by kernel_rfl)) (by unfold Func.isWrapper; first | (rw [if_pos (by decide +kernel)]; kernel_rfl) | (rw [if_neg (by decide +kernel)]; exact ⟨rfl, rfl⟩))
    (fun os started H enc _ => lifted os started H enc)
theorem proved : Rows.LineTellsSaid := over
#print axioms proved
end Go.Proofs.Ytghklhdooemjdaa.lineTells
namespace Go.Proofs.Ytghklhdooemjdaa
theorem lineTells_holds : Rows.LineTellsSaid := lineTells.proved
end Go.Proofs.Ytghklhdooemjdaa
end
section
namespace Go.Proofs.Ytghklhdooemjdaa.Q
set_option linter.unusedVariables false
open Go.RowKit Go.Proofs.YtghklhdooemjdaaW.PrintWords Go.Proofs.YtghklhdooemjdaaW.PrintLast Go.Proofs.YtghklhdooemjdaaW.PrintMore Go.Proofs.Ytghklhdooemjdaa.Open
def spoorlaw20_LineCut.Pure : Prop := ∀ (a0_0 : Int) (a0_1 : Int) (l1 : List (S52)) (l2 : List (S52)) (a3_0 : Int) (a3_1 : Int) (a4 : Int), wf23 (⟨a0_0, a0_1⟩ : S23) → (fun l => wfAll wf52 l ∧ l.length ≤ maxLen) l1 → (fun l => wfAll wf52 l ∧ l.length ≤ maxLen) l2 → wf23 (⟨a3_0, a3_1⟩ : S23) → (wfInt .i64) a4 → l1.length * 32 ≤ 140737488351232 → l2.length * 32 ≤ 140737488351232 → ∃ k, spoorlaw20_LineCut.f k a0_0 a0_1 l1 l2 a3_0 a3_1 a4 = some true
end Go.Proofs.Ytghklhdooemjdaa.Q
end
section
namespace Go.Proofs.Ytghklhdooemjdaa.Line
set_option linter.unusedVariables false
open Go.RowKit Go.Proofs.Ytghklhdooemjdaa.Q Go.Proofs.YtghklhdooemjdaaW.PrintWords Go.Proofs.YtghklhdooemjdaaW.PrintLast Go.Proofs.Ytghklhdooemjdaa.Base Go.Proofs.Ytghklhdooemjdaa.Open
theorem cut_none (f g : Int) : ∀ (l : List Er) (b e : Int), cont b l = some e → g < b → l.filterMap (cutE f g) = []
  | [], b, e, h, hg => rfl
  | x :: xs, b, e, h, hg => by
    unfold cont at h
    by_cases c : x.f0.f0 = b ∧ b ≤ x.f0.f1 ∧ rightB x.f1 = true
    · rw [if_pos c] at h
      have e1 : cutE f g x = none := if_pos (.inr (by omega))
      rw [List.filterMap_cons, e1]
      exact cut_none f g xs _ e h (by omega)
    · rw [if_neg c] at h; cases h
theorem cut_in (f g : Int) : ∀ (l : List Er) (b e : Int) (p : Option Vd), cont b l = some e → f ≤ b → b ≤ g → g < e → alt p l →
    cont b (l.filterMap (cutE f g)) = some (g + 1) ∧ alt p (l.filterMap (cutE f g)) ∧ ∀ t, b ≤ t → t ≤ g → val t (l.filterMap (cutE f g)) = val t l
  | [], b, e, p, h, h1, h2, h3, ha => by
    obtain rfl := Option.some.inj h
    omega
  | x :: xs, b, e, p, h, h1, h2, h3, ha => by
    unfold cont at h
    by_cases c : x.f0.f0 = b ∧ b ≤ x.f0.f1 ∧ rightB x.f1 = true
    case neg => rw [if_neg c] at h; cases h
    rw [if_pos c] at h
    obtain ⟨c1, c2, c3⟩ := c
    have e1 : cutE f g x = some ⟨⟨b, if g < x.f0.f1 then g else x.f0.f1⟩, x.f1⟩ := by
      unfold cutE
      rw [if_neg (by omega), if_neg (show ¬ x.f0.f0 < f by omega), c1]
    have halt : ∀ ys, alt (some x.f1) ys → alt p (⟨⟨b, if g < x.f0.f1 then g else x.f0.f1⟩, x.f1⟩ :: ys) := fun ys hy => by
      cases p with
      | none => exact hy
      | some v => exact ⟨ha.1, hy⟩
    have haxs : alt (some x.f1) xs := by
      cases p with
      | none => exact ha
      | some v => exact ha.2
    rw [List.filterMap_cons, e1]
    dsimp only
    by_cases d : g < x.f0.f1 + 1
    · rw [cut_none f g xs _ e h d]
      have e2 : (if g < x.f0.f1 then g else x.f0.f1) = g := by split <;> omega
      rw [e2] at halt ⊢
      refine ⟨if_pos ⟨rfl, h2, c3⟩, halt _ trivial, fun t t0 t1 => ?_⟩
      simp only [val]
      rw [if_pos t1, if_pos (by omega)]
    · have e2 : (if g < x.f0.f1 then g else x.f0.f1) = x.f0.f1 := if_neg (by omega)
      rw [e2] at halt ⊢
      obtain ⟨i1, i2, i3⟩ := cut_in f g xs (x.f0.f1 + 1) e (some x.f1) h (by omega) (by omega) h3 haxs
      refine ⟨?_, halt _ i2, fun t t0 t1 => ?_⟩
      · rw [← i1]
        exact if_pos ⟨rfl, c2, c3⟩
      · simp only [val]
        by_cases g1 : t ≤ x.f0.f1
        · rw [if_pos g1, if_pos g1]
        · rw [if_neg g1, if_neg g1]
          exact i3 t (by omega) t1
theorem cut_ok (f g : Int) (hfg : f ≤ g) : ∀ (l : List Er) (a e : Int), cont a l = some e → a ≤ f → g < e → (∃ p, alt p l) →
    cont f (l.filterMap (cutE f g)) = some (g + 1) ∧ alt none (l.filterMap (cutE f g)) ∧ ∀ t, f ≤ t → t ≤ g → val t (l.filterMap (cutE f g)) = val t l
  | [], a, e, h, h1, h3, ha => by
    obtain rfl := Option.some.inj h
    omega
  | x :: xs, a, e, h, h1, h3, ha => by
    have h0 := h
    unfold cont at h
    by_cases c : x.f0.f0 = a ∧ a ≤ x.f0.f1 ∧ rightB x.f1 = true
    case neg => rw [if_neg c] at h; cases h
    rw [if_pos c] at h
    obtain ⟨c1, c2, c3⟩ := c
    have haxs : alt (some x.f1) xs := by
      obtain ⟨p, ha⟩ := ha
      cases p with
      | none => exact ha
      | some v => exact ha.2
    by_cases d : x.f0.f1 < f
    · have e1 : cutE f g x = none := if_pos (.inl d)
      rw [List.filterMap_cons, e1]
      obtain ⟨i1, i2, i3⟩ := cut_ok f g hfg xs _ e h (by omega) h3 ⟨_, haxs⟩
      refine ⟨i1, i2, fun t t0 t1 => ?_⟩
      rw [i3 t t0 t1]
      simp only [val]
      rw [if_neg (by omega)]
    · by_cases e0 : a = f
      · subst e0
        have := cut_in a g (x :: xs) a e none h0 (Int.le_refl _) hfg h3 (by exact haxs)
        exact this
      · have e1 : cutE f g x = some ⟨⟨f, if g < x.f0.f1 then g else x.f0.f1⟩, x.f1⟩ := by
          unfold cutE
          rw [if_neg (by omega), if_pos (show x.f0.f0 < f by omega)]
        rw [List.filterMap_cons, e1]
        dsimp only
        by_cases d2 : g < x.f0.f1 + 1
        · rw [cut_none f g xs _ e h d2]
          have e2 : (if g < x.f0.f1 then g else x.f0.f1) = g := by split <;> omega
          rw [e2]
          refine ⟨if_pos ⟨rfl, hfg, c3⟩, trivial, fun t t0 t1 => ?_⟩
          simp only [val]
          rw [if_pos t1, if_pos (by omega)]
        · have e2 : (if g < x.f0.f1 then g else x.f0.f1) = x.f0.f1 := if_neg (by omega)
          rw [e2]
          obtain ⟨i1, i2, i3⟩ := cut_in f g xs (x.f0.f1 + 1) e (some x.f1) h (by omega) (by omega) h3 haxs
          refine ⟨?_, i2, fun t t0 t1 => ?_⟩
          · rw [← i1]
            exact if_pos ⟨rfl, by show f ≤ x.f0.f1; omega, c3⟩
          · simp only [val]
            by_cases g1 : t ≤ x.f0.f1
            · rw [if_pos g1, if_pos g1]
            · rw [if_neg g1, if_neg g1]
              exact i3 t (by omega) t1
def cutV (w0 w1 : Int) (l : List Er) (f g : Int) : List Er × Int := if lineB w0 w1 l = true then (if winP f g ∧ w0 ≤ f ∧ g ≤ w1 then (l.filterMap (cutE f g), 0) else ([], 1)) else ([], 2)
theorem cut_ev (w0 w1 : Int) (l : List Er) (hb : ∀ x ∈ l, bndE x) (f g : Int) : Ev (fun k => line_Cut.f k w0 w1 l f g) (cutV w0 w1 l f g) := by
  simp only [line_Cut.f]
  refine Ev.bind (check_ev l hb w0 w1) ?_
  unfold cutV
  by_cases c : lineB w0 w1 l = true
  case neg =>
    rw [if_neg c, Bool.eq_false_iff.2 c]
    exact Ev.pos (by decide) (Ev.const rfl)
  rw [if_pos c, c]
  refine Ev.neg (by decide) (Ev.bind (win_ev f g) ?_)
  have hok := (line_iff w0 w1 l).1 c
  have hlen := hok.len
  by_cases d : winP f g ∧ w0 ≤ f ∧ g ≤ w1
  · rw [if_pos d]
    refine Ev.pos ⟨decide_eq_true d.1, by omega, by omega⟩ (Ev.pos (Nat.le_trans (Nat.mul_le_mul_right 32 hlen) (by decide)) (Ev.const rfl))
  · rw [if_neg d]
    refine Ev.neg (fun h => d ⟨of_decide_eq_true h.1, by omega, by omega⟩) (Ev.const rfl)
theorem cut_line (w0 w1 : Int) (l : List Er) (f g : Int) (h : LineOk w0 w1 l) (hw : winP f g) (h0 : w0 ≤ f) (h1 : g ≤ w1) : LineOk f g (l.filterMap (cutE f g)) ∧ ∀ t, f ≤ t → t ≤ g → val t (l.filterMap (cutE f g)) = val t l := by
  have hw' := hw
  obtain ⟨v1, v2, v3⟩ := hw'
  obtain ⟨i1, i2, i3⟩ := cut_ok f g v2 l w0 (w1 + 1) h.cont h0 (by omega) ⟨_, h.alt⟩
  refine ⟨⟨hw, fun e => ?_, Nat.le_trans (List.length_filterMap_le _ _) h.len, i1, i2⟩, i3⟩
  rw [e] at i1
  have := Option.some.inj i1
  omega
abbrev Pb := S80
def bv (b : Bool) : Vd := ⟨if b = true then 1 else 2, 0⟩
def erB (p : Pb) : Er := ⟨p.f0, bv p.f1⟩
theorem bv_right (b : Bool) : rightB (bv b) = true := by cases b <;> rfl
theorem bv_same (a b : Bool) : sameV (bv a) (bv b) ↔ a = b := by cases a <;> cases b <;> simp [sameV, bv]
theorem rd_snocB (init : List Pb) (l : Pb) : rd_T80 (init ++ [l]) (((init ++ [l]).length - 1 : Nat) : Int) = l := by
  simp [rd_T80, List.getD_eq_getElem?_getD]
theorem addB_map (out : List Pb) (x : Pb) :
    (∃ i l, out.map erB = i ++ [l] ∧ sameV l.f1 (bv x.f1) ∧ (addB out x).map erB = i ++ [⟨⟨l.f0.f0, x.f0.f1⟩, l.f1⟩]) ∨
    ((∀ v, (out.map erB).getLast?.map (·.f1) = some v → ¬ sameV (bv x.f1) v) ∧ (addB out x).map erB = out.map erB ++ [erB x]) := by
  by_cases hn : out = []
  · subst hn
    right
    exact ⟨fun v hv => by simp at hv, by simp [addB]⟩
  · obtain ⟨i, l, rfl⟩ := snoc_of hn
    unfold addB
    rw [rd_snocB]
    by_cases c : l.f1 = x.f1
    · left
      refine ⟨i.map erB, erB l, by simp, (bv_same _ _).2 c, ?_⟩
      rw [if_pos ⟨by simp, c⟩]
      have e : (i ++ [l]).set ((i ++ [l]).length - 1) (⟨⟨l.f0.f0, x.f0.f1⟩, l.f1⟩ : Pb) = i ++ [⟨⟨l.f0.f0, x.f0.f1⟩, l.f1⟩] := by
        rw [List.length_append, List.length_singleton, Nat.add_sub_cancel, List.set_append_right _ _ (Nat.le_refl _), Nat.sub_self]
        rfl
      rw [e]
      simp [erB]
    · right
      rw [if_neg (fun h => c h.2)]
      refine ⟨fun v hv => ?_, by simp⟩
      simp only [List.map_append, List.map_cons, List.map_nil, List.getLast?_append, List.getLast?_singleton, Option.some_or, Option.map_some] at hv
      obtain rfl := Option.some.inj hv
      exact fun h => c ((bv_same _ _).1 h).symm
def contP : Int → List (PcV × PcV) → Option Int
  | p, [] => some p
  | p, x :: xs => if mxf x = p ∧ p ≤ mnt x then contP (mnt x + 1) xs else none
def valP (t : Int) : List (PcV × PcV) → Bool
  | [] => false
  | x :: xs => if t ≤ mnt x then (ofPair x).f1 else valP t xs
theorem fold_ok (w0 : Int) : ∀ (ps : List (PcV × PcV)) (p e : Int) (out : List Pb), contP p ps = some e → cont w0 (out.map erB) = some p → alt none (out.map erB) →
    cont w0 ((ps.foldl putP out).map erB) = some e ∧ alt none ((ps.foldl putP out).map erB) ∧ p ≤ e ∧ ∀ t, w0 ≤ t → t < e → val t ((ps.foldl putP out).map erB) = if t < p then val t (out.map erB) else bv (valP t ps)
  | [], p, e, out, h, hc, ha => by
    obtain rfl := Option.some.inj h
    exact ⟨hc, ha, Int.le_refl _, fun t t0 t1 => by rw [if_pos t1]; rfl⟩
  | x :: xs, p, e, out, h, hc, ha => by
    unfold contP at h
    by_cases c : mxf x = p ∧ p ≤ mnt x
    case neg => rw [if_neg c] at h; cases h
    rw [if_pos c] at h
    obtain ⟨c1, c2⟩ := c
    have hm := addB_map out (ofPair x)
    have e1 : erB (ofPair x) = (⟨⟨p, mnt x⟩, bv (ofPair x).f1⟩ : Er) := by rw [← c1]; rfl
    rw [e1] at hm
    obtain ⟨p1, p2, p3, p4⟩ := put_ok' (out.map erB) ((addB out (ofPair x)).map erB) w0 p (mnt x) (bv (ofPair x).f1) hm hc ha c2 (bv_right _)
    obtain ⟨i1, i2, i3, i4⟩ := fold_ok w0 xs (mnt x + 1) e (putP out x) h p1 p2
    refine ⟨i1, i2, by omega, fun t t0 t1 => ?_⟩
    rw [List.foldl_cons, i4 t t0 t1]
    simp only [valP]
    by_cases d : t < mnt x + 1
    · rw [if_pos d]
      have := p4 t t0 (by omega)
      rw [show (putP out x).map erB = (addB out (ofPair x)).map erB from rfl, this]
      by_cases d2 : t < p
      · rw [if_pos d2, if_pos d2]
      · rw [if_neg d2, if_neg d2, if_pos (by omega)]
    · rw [if_neg d, if_neg (by omega), if_neg (by omega)]
def Stand (p e : Int) : List PcV → List PcV → Prop
  | [], [] => p = e
  | x :: xs, y :: ys => mxf (x, y) = p ∧ p ≤ x.f0.f1 ∧ p ≤ y.f0.f1 ∧ cont (x.f0.f1 + 1) (xs.map eraOf) = some e ∧ cont (y.f0.f1 + 1) (ys.map eraOf) = some e
  | _, _ => False
theorem mxf_of {x y : PcV} {p : Int} (h1 : x.f0.f0 ≤ p) (h2 : y.f0.f0 ≤ p) (h : x.f0.f0 = p ∨ y.f0.f0 = p) : mxf (x, y) = p := by
  show (if x.f0.f0 < y.f0.f0 then y.f0.f0 else x.f0.f0) = p
  split <;> omega
theorem mxf_le {x y : PcV} {p : Int} (h : mxf (x, y) = p) : x.f0.f0 ≤ p ∧ y.f0.f0 ≤ p := by
  have h' : (if x.f0.f0 < y.f0.f0 then y.f0.f0 else x.f0.f0) = p := h
  split at h' <;> omega
theorem cont_head {x : Er} {xs : List Er} {f e : Int} (h : cont f (x :: xs) = some e) : x.f0.f0 = f ∧ f ≤ x.f0.f1 ∧ cont (x.f0.f1 + 1) xs = some e := by
  unfold cont at h
  by_cases c : x.f0.f0 = f ∧ f ≤ x.f0.f1 ∧ rightB x.f1 = true
  · rw [if_pos c] at h
    exact ⟨c.1, c.2.1, h⟩
  · rw [if_neg c] at h; cases h
def neqV (a b : Vd) : Bool := (!a.f0 == b.f0 || !a.f1 == b.f1)
theorem both_ok (e : Int) : ∀ (n : Nat) (a b : List PcV) (p : Int), a.length + b.length ≤ n → Stand p e a b →
    contP p (bothL n a b) = some e ∧ ∀ t, p ≤ t → t < e → valP t (bothL n a b) = neqV (val t (a.map eraOf)) (val t (b.map eraOf))
  | n, [], [], p, hn, h => by
    have h' : p = e := h
    subst h'
    rw [bothL_nl]
    exact ⟨rfl, fun t t0 t1 => by omega⟩
  | n, [], y :: ys, p, hn, h => h.elim
  | n, x :: xs, [], p, hn, h => h.elim
  | 0, x :: xs, y :: ys, p, hn, h => by simp at hn
  | n + 1, x :: xs, y :: ys, p, hn, h => by
    obtain ⟨h1, h2, h3, h4, h5⟩ := h
    obtain ⟨l1, l2⟩ := mxf_le h1
    have hx := cont_le _ _ _ h4
    have hy := cont_le _ _ _ h5
    rw [bothL_cons]
    have em : mnt (x, y) = if y.f0.f1 < x.f0.f1 then y.f0.f1 else x.f0.f1 := rfl
    rw [← em]
    simp only [List.length_cons] at hn
    have fin : ∀ (a' b' : List PcV), a'.length + b'.length ≤ n → Stand (mnt (x, y) + 1) e a' b' → p ≤ mnt (x, y) →
        (∀ t, mnt (x, y) < t → val t ((x :: xs).map eraOf) = val t (a'.map eraOf)) → (∀ t, mnt (x, y) < t → val t ((y :: ys).map eraOf) = val t (b'.map eraOf)) → mnt (x, y) ≤ x.f0.f1 → mnt (x, y) ≤ y.f0.f1 →
        contP p ((x, y) :: bothL n a' b') = some e ∧ ∀ t, p ≤ t → t < e → valP t ((x, y) :: bothL n a' b') = neqV (val t ((x :: xs).map eraOf)) (val t ((y :: ys).map eraOf)) := by
      intro a' b' hl hs hp ha hb hmx hmy
      obtain ⟨i1, i2⟩ := both_ok e n a' b' (mnt (x, y) + 1) hl hs
      refine ⟨?_, fun t t0 t1 => ?_⟩
      · rw [← i1]
        exact if_pos ⟨h1, hp⟩
      · simp only [valP]
        by_cases d : t ≤ mnt (x, y)
        · rw [if_pos d]
          have ex : val t ((x :: xs).map eraOf) = x.f1 := by
            show (if t ≤ x.f0.f1 then x.f1 else _) = _
            exact if_pos (by omega)
          have ey : val t ((y :: ys).map eraOf) = y.f1 := by
            show (if t ≤ y.f0.f1 then y.f1 else _) = _
            exact if_pos (by omega)
          rw [ex, ey]
          rfl
        · rw [if_neg d, i2 t (by omega) t1, ha t (by omega), hb t (by omega)]
    have vx : ∀ t, x.f0.f1 < t → val t ((x :: xs).map eraOf) = val t (xs.map eraOf) := fun t ht => by
      show (if t ≤ x.f0.f1 then x.f1 else _) = _
      exact if_neg (by omega)
    have vy : ∀ t, y.f0.f1 < t → val t ((y :: ys).map eraOf) = val t (ys.map eraOf) := fun t ht => by
      show (if t ≤ y.f0.f1 then y.f1 else _) = _
      exact if_neg (by omega)
    rcases Int.lt_trichotomy x.f0.f1 y.f0.f1 with g | g | g
    · have e2 : mnt (x, y) = x.f0.f1 := by rw [em, if_neg (by omega)]
      rw [e2] at fin ⊢
      rw [if_pos rfl, if_neg (by omega)]
      refine fin xs (y :: ys) (by simp only [List.length_cons]; omega) ?_ h2 vx (fun t _ => rfl) (Int.le_refl _) (by omega)
      cases xs with
      | nil =>
        have := Option.some.inj h4
        omega
      | cons z zs =>
        obtain ⟨k1, k2, k3⟩ := cont_head h4
        exact ⟨mxf_of (by show z.f0.f0 ≤ _; have : z.f0.f0 = _ := k1; omega) (by omega) (.inl k1), k2, by omega, k3, h5⟩
    · have e2 : mnt (x, y) = x.f0.f1 := by rw [em, if_neg (by omega)]
      rw [e2] at fin ⊢
      rw [if_pos rfl, if_pos g.symm]
      refine fin xs ys (by omega) ?_ h2 vx (fun t ht => vy t (by omega)) (Int.le_refl _) (by omega)
      cases xs with
      | nil =>
        have q1 := Option.some.inj h4
        cases ys with
        | nil => exact q1
        | cons z zs =>
          obtain ⟨k1, k2, k3⟩ := cont_head h5
          have := cont_le _ _ _ k3
          have k2' : y.f0.f1 + 1 ≤ (eraOf z).f0.f1 := k2
          omega
      | cons u us =>
        obtain ⟨k1, k2, k3⟩ := cont_head h4
        cases ys with
        | nil =>
          have q1 := Option.some.inj h5
          have := cont_le _ _ _ k3
          omega
        | cons z zs =>
          obtain ⟨m1, m2, m3⟩ := cont_head h5
          have k1' : u.f0.f0 = x.f0.f1 + 1 := k1
          have m1' : z.f0.f0 = y.f0.f1 + 1 := m1
          exact ⟨mxf_of (by omega) (by omega) (.inl k1'), k2, by rw [g]; exact m2, k3, m3⟩
    · have e2 : mnt (x, y) = y.f0.f1 := by rw [em, if_pos g]
      rw [e2] at fin ⊢
      rw [if_neg (by omega), if_pos rfl]
      refine fin (x :: xs) ys (by simp only [List.length_cons]; omega) ?_ h3 (fun t _ => rfl) vy (by omega) (Int.le_refl _)
      cases ys with
      | nil =>
        have := Option.some.inj h5
        omega
      | cons z zs =>
        obtain ⟨k1, k2, k3⟩ := cont_head h5
        have k1' : z.f0.f0 = y.f0.f1 + 1 := k1
        exact ⟨mxf_of (by omega) (by omega) (.inr k1'), by omega, k2, h4, k3⟩
theorem held_sound : ∀ (out : List Pb) (a e : Int) (pv : Option Vd) (u : Option Int), cont a (out.map erB) = some e → 0 ≤ a → e ≤ 1099511627777 → alt pv (out.map erB) →
    (∀ z, u = some z → z + 1 ≤ a ∧ (z + 1 = a → pv = some (bv true))) → soundL u ((out.filterMap heldB).map runOf) = true
  | [], a, e, pv, u, h, h0, he, ha, hu => by cases u <;> rfl
  | x :: xs, a, e, pv, u, h, h0, he, ha, hu => by
    obtain ⟨k1, k2, k3⟩ := cont_head h
    have k1' : x.f0.f0 = a := k1
    have k2' : a ≤ x.f0.f1 := k2
    have k3' : cont (x.f0.f1 + 1) (xs.map erB) = some e := k3
    have hle := cont_le _ _ _ k3'
    have haxs : alt (some (bv x.f1)) (xs.map erB) := by
      cases pv with
      | none => exact ha
      | some v => exact ha.2
    by_cases hx : x.f1 = true
    · have e1 : heldB x = some x.f0 := if_pos hx
      rw [List.filterMap_cons, e1]
      have ih := held_sound xs (x.f0.f1 + 1) e (some (bv x.f1)) (some x.f0.f1) k3' (by omega) he haxs (fun z hz => by
        obtain rfl := Option.some.inj hz
        exact ⟨Int.le_refl _, fun _ => by rw [hx]⟩)
      have hs : ¬ ((runOf x.f0).f0 < 0 ∨ (runOf x.f0).f1 < (runOf x.f0).f0 ∨ 1099511627776 < (runOf x.f0).f1) := by
        show ¬ (x.f0.f0 < 0 ∨ x.f0.f1 < x.f0.f0 ∨ 1099511627776 < x.f0.f1)
        omega
      cases u with
      | none =>
        show (if (runOf x.f0).f0 < 0 ∨ (runOf x.f0).f1 < (runOf x.f0).f0 ∨ 1099511627776 < (runOf x.f0).f1 then false else soundL (some (runOf x.f0).f1) _) = true
        rw [if_neg hs]
        exact ih
      | some z =>
        obtain ⟨g1, g2⟩ := hu z rfl
        have g3 : z + 1 ≠ a := fun hz => by
          have hp := g2 hz
          subst hp
          have h5 : ¬ sameV (bv x.f1) (bv true) := ha.1
          rw [hx] at h5
          exact h5 ⟨rfl, rfl⟩
        show (if (runOf x.f0).f0 < 0 ∨ (runOf x.f0).f1 < (runOf x.f0).f0 ∨ 1099511627776 < (runOf x.f0).f1 then false else if z = 1099511627776 ∨ (runOf x.f0).f0 ≤ z + 1 then false else soundL (some (runOf x.f0).f1) _) = true
        rw [if_neg hs, if_neg (by show ¬ (z = 1099511627776 ∨ x.f0.f0 ≤ z + 1); omega)]
        exact ih
    · have e1 : heldB x = none := if_neg hx
      rw [List.filterMap_cons, e1]
      exact held_sound xs (x.f0.f1 + 1) e (some (bv x.f1)) u k3' (by omega) he haxs (fun z hz => ⟨by have := (hu z hz).1; omega, fun hz2 => by have := (hu z hz).1; omega⟩)
theorem has_iff (t : Int) : ∀ (l : List Iv) (i : Nat), 0 ≤ hasFrom t i l ↔ ∃ x ∈ l, inI t x = true
  | [], i => by simp [hasFrom]
  | x :: xs, i => by
    by_cases c : inI t x = true
    · simp only [hasFrom, if_pos c]
      exact ⟨fun _ => ⟨x, by simp, c⟩, fun _ => by omega⟩
    · simp only [hasFrom, if_neg c]
      rw [has_iff t xs (i + 1)]
      simp [c]
theorem inI_iff (t : Int) (x : Iv) : inI t x = true ↔ x.f0 ≤ t ∧ t ≤ x.f1 := by
  unfold inI
  by_cases c : x.f0 ≤ t
  · rw [if_pos c]
    simp [c]
  · rw [if_neg c]
    simp [c]
theorem held_has (t : Int) : ∀ (out : List Pb) (a e : Int), cont a (out.map erB) = some e → ((∃ x ∈ out.filterMap heldB, inI t x = true) ↔ a ≤ t ∧ t < e ∧ val t (out.map erB) = bv true)
  | [], a, e, h => by
    obtain rfl := Option.some.inj h
    simp
    omega
  | x :: xs, a, e, h => by
    obtain ⟨k1, k2, k3⟩ := cont_head h
    have k1' : x.f0.f0 = a := k1
    have k2' : a ≤ x.f0.f1 := k2
    have k3' : cont (x.f0.f1 + 1) (xs.map erB) = some e := k3
    have hle := cont_le _ _ _ k3'
    have ih := held_has t xs _ e k3'
    have ev : val t ((x :: xs).map erB) = if t ≤ x.f0.f1 then bv x.f1 else val t (xs.map erB) := rfl
    rw [ev]
    by_cases hx : x.f1 = true
    · have e1 : heldB x = some x.f0 := if_pos hx
      rw [List.filterMap_cons, e1]
      simp only [List.mem_cons, exists_eq_or_imp]
      rw [ih, inI_iff, hx]
      by_cases d : t ≤ x.f0.f1
      · rw [if_pos d]
        constructor
        · rintro (h1 | h1)
          · exact ⟨by omega, by omega, rfl⟩
          · omega
        · rintro ⟨h1, h2, _⟩
          exact .inl ⟨by omega, d⟩
      · rw [if_neg d]
        constructor
        · rintro (h1 | h1)
          · omega
          · exact ⟨by omega, h1.2.1, h1.2.2⟩
        · rintro ⟨h1, h2, h3⟩
          exact .inr ⟨by omega, h2, h3⟩
    · have e1 : heldB x = none := if_neg hx
      rw [List.filterMap_cons, e1]
      rw [ih]
      have hxf : x.f1 = false := Bool.eq_false_iff.2 hx
      rw [hxf]
      by_cases d : t ≤ x.f0.f1
      · rw [if_pos d]
        constructor
        · rintro h1; omega
        · rintro ⟨h1, h2, h3⟩
          exact absurd ((bv_same _ _).1 (show sameV (bv false) (bv true) by rw [h3]; exact ⟨rfl, rfl⟩)) (by decide)
      · rw [if_neg d]
        constructor
        · rintro ⟨h1, h2, h3⟩; exact ⟨by omega, h2, h3⟩
        · rintro ⟨h1, h2, h3⟩; exact ⟨by omega, h2, h3⟩
theorem map_back (l : List Er) : (l.map pieceOf).map eraOf = l := by
  rw [List.map_map]
  conv => rhs; rw [← List.map_id l]
  rfl
theorem differ_ok (w0 w1 : Int) (l m : List Er) (hl : LineOk w0 w1 l) (hm : LineOk w0 w1 m) :
    soundL none (((differL l m).filterMap heldB).map runOf) = true ∧ ∀ t, (0 ≤ hasFrom t 0 ((differL l m).filterMap heldB) ↔ w0 ≤ t ∧ t ≤ w1 ∧ neqV (val t l) (val t m) = true) := by
  have hw := hl.win
  obtain ⟨v1, v2, v3⟩ := hw
  have hs : Stand w0 (w1 + 1) (l.map pieceOf) (m.map pieceOf) := by
    have c1 := hl.cont
    have c2 := hm.cont
    cases l with
    | nil => exact absurd rfl hl.ne
    | cons x xs =>
      cases m with
      | nil => exact absurd rfl hm.ne
      | cons y ys =>
        obtain ⟨a1, a2, a3⟩ := cont_head c1
        obtain ⟨b1, b2, b3⟩ := cont_head c2
        refine ⟨mxf_of (x := pieceOf x) (y := pieceOf y) (show x.f0.f0 ≤ w0 by omega) (show y.f0.f0 ≤ w0 by omega) (.inl a1), a2, b2, ?_, ?_⟩
        · rw [map_back]; exact a3
        · rw [map_back]; exact b3
  obtain ⟨p1, p2⟩ := both_ok (w1 + 1) _ _ _ w0 (Nat.le_refl _) hs
  obtain ⟨f1, f2, f3, f4⟩ := fold_ok w0 _ w0 (w1 + 1) [] p1 rfl trivial
  have f1' : cont w0 ((differL l m).map erB) = some (w1 + 1) := f1
  refine ⟨held_sound (differL l m) w0 (w1 + 1) none none f1' v1 (by omega) f2 (fun z hz => by cases hz), fun t => ?_⟩
  rw [has_iff, held_has t (differL l m) w0 (w1 + 1) f1']
  constructor
  · rintro ⟨t0, t1, h⟩
    have g := f4 t t0 t1
    rw [if_neg (by omega), p2 t t0 t1, map_back, map_back] at g
    refine ⟨t0, by omega, ?_⟩
    have g' : bv (neqV (val t l) (val t m)) = bv true := g.symm.trans h
    exact (bv_same _ _).1 (by rw [g']; exact ⟨rfl, rfl⟩)
  · rintro ⟨t0, t1, h⟩
    have g := f4 t t0 (by omega)
    rw [if_neg (by omega), p2 t t0 (by omega), map_back, map_back, h] at g
    exact ⟨t0, by omega, g⟩
theorem differ_len (l m : List Er) : ((differL l m).filterMap heldB).length ≤ l.length + m.length := by
  refine Nat.le_trans (List.length_filterMap_le _ _) ?_
  have h1 := puts_len (bothL ((l.map pieceOf).length + (m.map pieceOf).length) (l.map pieceOf) (m.map pieceOf)) []
  have h2 := bothL_len ((l.map pieceOf).length + (m.map pieceOf).length) (l.map pieceOf) (m.map pieceOf)
  rw [List.length_map, List.length_map] at h2
  unfold differL
  rw [List.length_map, List.length_map] at h1 ⊢
  rw [List.length_nil, Nat.zero_add] at h1
  exact Nat.le_trans h1 h2
def differV (w0 w1 : Int) (l m : List Er) : List Iv × Int := if lineB w0 w1 l = true ∧ lineB w0 w1 m = true then (if 1024 < ((differL l m).filterMap heldB).length then ([], 11) else ((differL l m).filterMap heldB, 0)) else ([], 2)
theorem differ_ev (w0 w1 : Int) (l m : List Er) (hb : ∀ x ∈ l, bndE x) (hb2 : ∀ x ∈ m, bndE x) : Ev (fun k => line_Differ.f k w0 w1 l m) (differV w0 w1 l m) := by
  simp only [line_Differ.f]
  refine Ev.bind (check_ev l hb w0 w1) ?_
  by_cases c : lineB w0 w1 l = true
  case neg =>
    have e : differV w0 w1 l m = ([], 2) := if_neg (fun h => c h.1)
    rw [e, Bool.eq_false_iff.2 c]
    exact Ev.pos (by decide) (Ev.const rfl)
  by_cases d : lineB w0 w1 m = true
  case neg =>
    have e : differV w0 w1 l m = ([], 2) := if_neg (fun h => d h.2)
    rw [e, c]
    refine Ev.neg (by decide) (Ev.bind (check_ev m hb2 w0 w1) ?_)
    rw [Bool.eq_false_iff.2 d]
    exact Ev.pos (by decide) (Ev.const rfl)
  have e : differV w0 w1 l m = if 1024 < ((differL l m).filterMap heldB).length then ([], 11) else ((differL l m).filterMap heldB, 0) := if_pos ⟨c, d⟩
  rw [e, c]
  refine Ev.neg (by decide) (Ev.bind (check_ev m hb2 w0 w1) ?_)
  rw [d]
  have h1 := ((line_iff w0 w1 l).1 c).len
  have h2 := ((line_iff w0 w1 m).1 d).len
  exact Ev.neg (by decide) (Ev.pos (Nat.le_trans (Nat.mul_le_mul_right 32 (show l.length + m.length + 1 ≤ 2049 by omega)) (by decide)) (Ev.const rfl))
def hasV (l : List Iv) (t : Int) : Bool × Int := if l.length ≤ 1024 ∧ soundL none (l.map runOf) = true then (decide (0 ≤ hasFrom t 0 l), 0) else (false, 2)
theorem has_ev (l : List Iv) (t : Int) : Ev (fun k => ivl_Has.f k l t) (hasV l t) := by
  simp only [ivl_Has.f]
  refine Ev.bind (ivl_ev l) ?_
  unfold hasV
  by_cases c : l.length ≤ 1024 ∧ soundL none (l.map runOf) = true
  · rw [if_pos c, if_pos c]
    exact Ev.neg (by decide) (Ev.const rfl)
  · rw [if_neg c, if_neg c]
    exact Ev.pos (by decide) (Ev.const rfl)
end Go.Proofs.Ytghklhdooemjdaa.Line
end
section
namespace Go.Proofs.Ytghklhdooemjdaa.Pure
set_option linter.unusedVariables false
open Go.RowKit Go.Proofs.Ytghklhdooemjdaa.Q Go.Proofs.YtghklhdooemjdaaW.PrintWords Go.Proofs.YtghklhdooemjdaaW.PrintLast Go.Proofs.Ytghklhdooemjdaa.Base Go.Proofs.Ytghklhdooemjdaa.Open Go.Proofs.Ytghklhdooemjdaa.Line
theorem lives_ev2 : Ev spoorlaw20_lives.f true := Ev.of spoorlaw20_lives.mono (k := 200) (by decide +kernel)
theorem at_no {w0 w1 : Int} {l : List Er} (h : lineB w0 w1 l = true) (t : Int) : ((atV w0 w1 l t).2.2 = 0 ↔ w0 ≤ t ∧ t ≤ w1) ∧ (w0 ≤ t → t ≤ w1 → (atV w0 w1 l t).1 = (val t l).f0 ∧ (atV w0 w1 l t).2.1 = (val t l).f1) := by
  unfold atV
  rw [if_pos h]
  by_cases d : t < w0 ∨ w1 < t
  · rw [if_pos d]
    exact ⟨⟨fun h => (by cases h), fun h => by omega⟩, fun h0 h1 => by omega⟩
  · rw [if_neg d]
    exact ⟨⟨fun _ => by omega, fun _ => rfl⟩, fun _ _ => ⟨rfl, rfl⟩⟩
theorem cutJ (w0 w1 t : Int) (l m : List Er) (hl : LineOk w0 w1 l) (hm : ∀ x ∈ m, bndE x) (no v0 v1 : Int) (hno : no = (atV w0 w1 l t).2.2) (hv0 : v0 = (atV w0 w1 l t).1) (hv1 : v1 = (atV w0 w1 l t).2.1) :
    Ev (fun k => spoorlaw20_LineCut.j0 k l m t no w0 w1 v0 v1) true := by
  have hB := (line_iff w0 w1 l).2 hl
  refine Ev.succ ?_
  simp only [spoorlaw20_LineCut.j0]
  refine Ev.bind (at_ev w0 w1 m hm t) (Ev.bind (differ_ev w0 w1 l m hl.bnd hm) (Ev.bind (has_ev _ t) (Ev.bind (check_ev m hm w0 w1) ?_)))
  by_cases c : lineB w0 w1 m = true
  case neg =>
    have e : differV w0 w1 l m = ([], 2) := if_neg (fun h => c h.2)
    rw [e, Bool.eq_false_iff.2 c]
    exact Ev.neg (by decide) (Ev.const rfl)
  rw [c]
  refine Ev.pos (by decide) ?_
  have hM := (line_iff w0 w1 m).1 c
  obtain ⟨s1, s2⟩ := differ_ok w0 w1 l m hl hM
  have hlen := differ_len l m
  have h1 := hl.len
  have h2 := hM.len
  obtain ⟨a1, a2⟩ := at_no hB t
  obtain ⟨b1, b2⟩ := at_no c t
  by_cases d : 1024 < ((differL l m).filterMap heldB).length
  · have e : differV w0 w1 l m = ([], 11) := (if_pos ⟨hB, c⟩).trans (if_pos d)
    rw [e]
    refine Ev.pos rfl (Ev.pos ?_ (Ev.const rfl))
    rw [w64 (by omega) (by omega)]
    omega
  · have e : differV w0 w1 l m = ((differL l m).filterMap heldB, 0) := (if_pos ⟨hB, c⟩).trans (if_neg d)
    rw [e]
    have e2 : hasV ((differL l m).filterMap heldB) t = (decide (0 ≤ hasFrom t 0 ((differL l m).filterMap heldB)), 0) := if_pos ⟨by omega, s1⟩
    rw [e2]
    refine Ev.neg (show ¬ (0 : Int) = 11 by decide) (Ev.pos rfl (Ev.pos rfl ?_))
    have hs := s2 t
    subst hno
    by_cases g : w0 ≤ t ∧ t ≤ w1
    · refine Ev.pos (a1.2 g) (Ev.pos (b1.2 g) (Ev.const ?_))
      obtain ⟨x1, x2⟩ := a2 g.1 g.2
      obtain ⟨y1, y2⟩ := b2 g.1 g.2
      rw [hv0, hv1, x1, x2, y1, y2]
      have e3 : decide (0 ≤ hasFrom t 0 ((differL l m).filterMap heldB)) = (!((val t m).f0 == (val t l).f0) || !((val t m).f1 == (val t l).f1)) := by
        have e4 : (!((val t m).f0 == (val t l).f0) || !((val t m).f1 == (val t l).f1)) = neqV (val t l) (val t m) := by
          unfold neqV
          rw [Bool.beq_comm (a := (val t m).f0), Bool.beq_comm (a := (val t m).f1)]
        rw [e4]
        by_cases n : neqV (val t l) (val t m) = true
        · rw [n, decide_eq_true (hs.2 ⟨g.1, g.2, n⟩)]
        · rw [Bool.eq_false_iff.2 n, decide_eq_false (fun h => n (hs.1 h).2.2)]
      rw [e3]
      simp
    · have e3 : decide (0 ≤ hasFrom t 0 ((differL l m).filterMap heldB)) = false := decide_eq_false (fun h => g ⟨(hs.1 h).1, (hs.1 h).2.1⟩)
      rw [e3]
      exact Ev.neg (fun h => g (a1.1 h)) (Ev.const rfl)
theorem LineCut : spoorlaw20_LineCut.Pure := by
  intro w0 w1 l m f g t h0 h1 h2 h3 h4 hB hB2
  have hwl : ∀ x ∈ l, bndE x := fun x hx => wf_era (h1.1 x hx)
  have hwm : ∀ x ∈ m, bndE x := fun x hx => wf_era (h2.1 x hx)
  clear h0 h1 h2 h3 h4 hB hB2
  refine Ev.rounds (g := fun k => spoorlaw20_LineCut.f k w0 w1 l m f g t) (r := true) ?_
  simp only [spoorlaw20_LineCut.f]
  refine Ev.bind lives_ev2 (Ev.pos rfl (Ev.bind (check_ev l hwl w0 w1) ?_))
  by_cases c : lineB w0 w1 l = true
  case neg =>
    rw [Bool.eq_false_iff.2 c]
    exact Ev.neg (by decide) (Ev.const rfl)
  have hl := (line_iff w0 w1 l).1 c
  rw [c]
  refine Ev.pos (by decide) (Ev.bind (at_ev w0 w1 l hwl t) (Ev.bind (cut_ev w0 w1 l hwl f g) ?_))
  have fin := cutJ w0 w1 t l m hl hwm _ _ _ rfl rfl rfl
  by_cases d : winP f g ∧ w0 ≤ f ∧ g ≤ w1
  case neg =>
    have e : cutV w0 w1 l f g = ([], 1) := (if_pos c).trans (if_neg d)
    rw [e]
    exact Ev.neg (by decide) fin
  have e : cutV w0 w1 l f g = (l.filterMap (cutE f g), 0) := (if_pos c).trans (if_pos d)
  rw [e]
  obtain ⟨hc, hv⟩ := cut_line w0 w1 l f g hl d.1 d.2.1 d.2.2
  have hcB := (line_iff f g _).2 hc
  refine Ev.pos rfl (Ev.bind (at_ev f g _ hc.bnd t) (Ev.bind (check_ev _ hc.bnd f g) ?_))
  rw [hcB]
  refine Ev.pos (by decide) ?_
  obtain ⟨a1, a2⟩ := at_no c t
  obtain ⟨b1, b2⟩ := at_no hcB t
  by_cases n : f ≤ t ∧ t ≤ g
  · refine Ev.pos (b1.2 n) (Ev.neg ?_ fin)
    obtain ⟨x1, x2⟩ := a2 (by omega) (by omega)
    obtain ⟨y1, y2⟩ := b2 n.1 n.2
    rw [x1, x2, y1, y2, hv t n.1 n.2]
    simp
  · refine Ev.neg (fun h => n (b1.1 h)) ?_
    by_cases q : f ≤ t
    · exact Ev.pos q (Ev.neg (fun h => n ⟨q, h⟩) fin)
    · exact Ev.neg q fin
end Go.Proofs.Ytghklhdooemjdaa.Pure
end
section
namespace Go.Proofs.Ytghklhdooemjdaa.lineCut
open Go.ChangeShapes Go.WideShapes Go.ChangeAt Go.RowKit Go.Proofs.Ytghklhdooemjdaa.Open Go.Proofs.Ytghklhdooemjdaa.Q
open Go.ChangeMaps (open_string shut_string)
set_option linter.unusedVariables false
theorem own : ownKnob Try.prog.godebug = none := by kernel_rfl
theorem laidOut : laidOutB Try.prog = true := by kernel_rfl
set_option maxRecDepth 100000 in
theorem contract (H : Type) (enc : TypeId × Value → H) (W : World) (base : Nat) (args : Array Value) (ds gs : List (DataW H)) (before : List MemPlace)
    (hval : ∀ (j : Nat) t v, Try.f6.params[j]? = some t → args[j]? = some v → Value.okWide Try.prog W .any base t v)
    (hW : DataW.Whole enc Try.prog Try.f6.params.toList Rows.lineCutSpec.vars false W args.toList ds gs before) (hsz0 : (DataW.weightsEach Try.prog (Try.f6.params.toList ++ Rows.lineCutSpec.plain.varTypes Try.prog) (ds ++ gs)).all (· ≤ reachBytes) = true) :
    Calls Try.prog 6 args W fun e W' => ∃ v, e = .returned v ∧ Rows.lineCutSpec.post enc Try.prog Try.f6 false true false false W args v W' := by
  have hW' := hW
  obtain ⟨p, q, hA0, hV, rfl, hfz, hnd⟩ := hW
  have hA : DataW.TrodAll enc Try.prog W 0 (fun _ => true) true Try.f6.params.toList args.toList ds p := hA0
  have hsz : (DataW.weightsEach Try.prog (Try.f6.params.toList ++ Rows.lineCutSpec.plain.varTypes Try.prog) (ds ++ gs)).all (· ≤ reachBytes) = true := hsz0
  rw [Try.params6] at hA hval hsz
  obtain ⟨v0, vs0, d0, ds0, p0, q0, hargs, rfl, rfl, h0, r0⟩ := trodAll_cons hA
  obtain ⟨v1, vs1, d1, ds1, p1, q1, rfl, rfl, rfl, h1, r1⟩ := trodAll_cons r0
  obtain ⟨v2, vs2, d2, ds2, p2, q2, rfl, rfl, rfl, h2, r2⟩ := trodAll_cons r1
  obtain ⟨v3, vs3, d3, ds3, p3, q3, rfl, rfl, rfl, h3, r3⟩ := trodAll_cons r2
  obtain ⟨v4, vs4, d4, ds4, p4, q4, rfl, rfl, rfl, h4, r4⟩ := trodAll_cons r3
  obtain ⟨rfl, rfl, rfl⟩ := trodAll_nil r4
  obtain rfl : args = #[v0, v1, v2, v3, v4] := by cases args; simp_all
  obtain ⟨rfl, rfl⟩ := trodVars_none hV
  have k0 := h0
  have lt0 : ∀ x ∈ p0, x.block < W.heap.size := by obtain ⟨m, hm⟩ := k0; exact DataW.trod_lt m _ _ _ hm
  obtain ⟨fu0, hf0⟩ := h0
  obtain ⟨b0, K0, o0, u0⟩ := opn23 enc W _ _ _ _ _ hf0
  have z0 := k23_open K0
  obtain rfl : v0 = .agg #[.int .i64 b0.f0, .int .i64 b0.f1] := by obtain ⟨x, rfl, _⟩ := okWide_struct Try.underlying23 (hval 0 23 v0 rfl rfl); exact congrArg Value.agg (Array.toList_inj.mp (show x.toList = [.int .i64 b0.f0, .int .i64 b0.f1] from z0))
  have k1 := h1
  have lt1 : ∀ x ∈ p1, x.block < W.heap.size := by obtain ⟨m, hm⟩ := k1; exact DataW.trod_lt m _ _ _ hm
  obtain ⟨fu1, hf1⟩ := h1
  obtain ⟨b1, K1, o1, u1⟩ := (opens_slice opn52 Try.underlying25 (by kernel_rfl) 52) enc W _ _ _ _ _ hf1
  obtain ⟨A1, c1, z1, lc1, C1⟩ := K1
  obtain rfl : v1 = .slice A1 b1.length c1 := by obtain ⟨x, y, z, rfl⟩ := okWide_slice Try.underlying25 (hval 1 25 v1 rfl rfl); exact (List.cons.inj (show [Value.slice x y z] = [Value.slice A1 b1.length c1] from z1)).1
  have k2 := h2
  have lt2 : ∀ x ∈ p2, x.block < W.heap.size := by obtain ⟨m, hm⟩ := k2; exact DataW.trod_lt m _ _ _ hm
  obtain ⟨fu2, hf2⟩ := h2
  obtain ⟨b2, K2, o2, u2⟩ := (opens_slice opn52 Try.underlying25 (by kernel_rfl) 52) enc W _ _ _ _ _ hf2
  obtain ⟨A2, c2, z2, lc2, C2⟩ := K2
  obtain rfl : v2 = .slice A2 b2.length c2 := by obtain ⟨x, y, z, rfl⟩ := okWide_slice Try.underlying25 (hval 2 25 v2 rfl rfl); exact (List.cons.inj (show [Value.slice x y z] = [Value.slice A2 b2.length c2] from z2)).1
  have k3 := h3
  have lt3 : ∀ x ∈ p3, x.block < W.heap.size := by obtain ⟨m, hm⟩ := k3; exact DataW.trod_lt m _ _ _ hm
  obtain ⟨fu3, hf3⟩ := h3
  obtain ⟨b3, K3, o3, u3⟩ := opn23 enc W _ _ _ _ _ hf3
  have z3 := k23_open K3
  obtain rfl : v3 = .agg #[.int .i64 b3.f0, .int .i64 b3.f1] := by obtain ⟨x, rfl, _⟩ := okWide_struct Try.underlying23 (hval 3 23 v3 rfl rfl); exact congrArg Value.agg (Array.toList_inj.mp (show x.toList = [.int .i64 b3.f0, .int .i64 b3.f1] from z3))
  have k4 := h4
  have lt4 : ∀ x ∈ p4, x.block < W.heap.size := by obtain ⟨m, hm⟩ := k4; exact DataW.trod_lt m _ _ _ hm
  obtain ⟨fu4, hf4⟩ := h4
  obtain ⟨b4, K4, o4, u4⟩ := (opens_int Try.underlying2) enc W _ _ _ _ _ hf4
  obtain rfl : v4 = .int .i64 b4 := by obtain ⟨x, rfl⟩ := okWide_int Try.underlying2 (hval 4 2 v4 rfl rfl); exact (List.cons.inj (show [Value.int .i64 x] = [Value.int .i64 b4] from K4)).1
  have sz1 : b1.length * 32 ≤ 140737488351232 := sized_row hsz (j := 1) (t := 25) rfl rfl Try.underlying25 (by kernel_rfl) k1
  have sz2 : b2.length * 32 ≤ 140737488351232 := sized_row hsz (j := 2) (t := 25) rfl rfl Try.underlying25 (by kernel_rfl) k2
  obtain ⟨k, h⟩ := Pure.LineCut b0.f0 b0.f1 b1 b2 b3.f0 b3.f1 b4 o0 o1 o2 o3 o4 sz1 sz2
  refine (spoorlaw20_LineCut.calls k b0.f0 b0.f1 A1 c1 b1 A2 c2 b2 b3.f0 b3.f1 b4 true W C1 lc1 C2 lc2 h).mono fun e W' ⟨he, hd⟩ => ?_
  have bel := hd
  subst he
  exact ⟨_, rfl, _, _, _, [], _, [], hW', trodAll_mk1 (shut_bool Try.underlying4 _), (trodAll_cons_mk (Below.trod laidOut (by kernel_rfl) (of_decide_eq_true (by kernel_rfl)) k0 bel lt0) (trodAll_cons_mk (Below.trod laidOut (by kernel_rfl) (of_decide_eq_true (by kernel_rfl)) k1 bel lt1) (trodAll_cons_mk (Below.trod laidOut (by kernel_rfl) (of_decide_eq_true (by kernel_rfl)) k2 bel lt2) (trodAll_cons_mk (Below.trod laidOut (by kernel_rfl) (of_decide_eq_true (by kernel_rfl)) k3 bel lt3) (trodAll_cons_mk (Below.trod laidOut (by kernel_rfl) (of_decide_eq_true (by kernel_rfl)) k4 bel lt4) trodAll_mk0))))), rfl, bel.frame _, fun h => by cases h⟩
set_option maxRecDepth 100000 in
theorem lifted (os : Os) (started : os.Started) (H : Type) (enc : TypeId × Value → H) :
    ReturnsInHanded {} Try.checked os 6 .any (Rows.lineCutSpec.pre6 enc Try.prog Try.f6 Rows.lineCutRow.domain false) (Rows.lineCutSpec.post enc Try.prog Try.f6 false true false false) := by
  refine returnsInHanded_of_change_sized (C := Try.checked) own started (by kernel_rfl) Try.func6
    (ChangeSpec.witness6 (enc := enc) (C := Try.checked) false ⟨#[], #[.agg #[.int .i64 0, .int .i64 0], .slice none 0 0, .slice none 0 0, .agg #[.int .i64 0, .int .i64 0], .int .i64 0], []⟩ 8 (by kernel_rfl) (by kernel_rfl) (by kernel_rfl) (by kernel_rfl)) ?_
  intro W base args ds gs before hval hW _ hsz _
  exact contract H enc W base args ds gs before hval hW hsz
theorem over : Rows.lineCutRow.holds Try.pinned (OpenSpec.ofChange Rows.lineCutSpec) :=
  OpenClaim.holds_of_wide 6 Try.f6 rfl rfl rfl rfl rfl rfl rfl ⟨rfl, rfl, rfl, rfl, rfl⟩ rfl rfl rfl rfl rfl (by kernel_rfl) Try.func6 (by kernel_rfl)
    (of_decide_eq_true (by kernel_rfl)) (by unfold Func.isWrapper; first | (rw [if_pos (by decide +kernel)]; kernel_rfl) | (rw [if_neg (by decide +kernel)]; exact ⟨rfl, rfl⟩))
    (fun os started H enc _ => lifted os started H enc)
theorem proved : Rows.LineCutSaid := over
#print axioms proved
end Go.Proofs.Ytghklhdooemjdaa.lineCut
namespace Go.Proofs.Ytghklhdooemjdaa
theorem lineCut_holds : Rows.LineCutSaid := lineCut.proved
end Go.Proofs.Ytghklhdooemjdaa
end
section
namespace Go.Proofs.Ytghklhdooemjdaa.Q
set_option linter.unusedVariables false
open Go.RowKit Go.Proofs.YtghklhdooemjdaaW.PrintWords Go.Proofs.YtghklhdooemjdaaW.PrintLast Go.Proofs.YtghklhdooemjdaaW.PrintMore Go.Proofs.Ytghklhdooemjdaa.Open
def spoorlaw20_LineMakes.Pure : Prop := ∀ (a0_0 : Int) (a0_1 : Int) (l1 : List (S46)) (l2 : List (S52)), wf23 (⟨a0_0, a0_1⟩ : S23) → (fun l => wfAll wf46 l ∧ l.length ≤ maxLen) l1 → (fun l => wfAll wf52 l ∧ l.length ≤ maxLen) l2 → l1.length * 24 ≤ 140737488351232 → l2.length * 32 ≤ 140737488351232 → ∃ k, spoorlaw20_LineMakes.f k a0_0 a0_1 l1 l2 = some true
end Go.Proofs.Ytghklhdooemjdaa.Q
end
section
namespace Go.Proofs.Ytghklhdooemjdaa.Line
set_option linter.unusedVariables false
open Go.RowKit Go.Proofs.Ytghklhdooemjdaa.Q Go.Proofs.YtghklhdooemjdaaW.PrintWords Go.Proofs.YtghklhdooemjdaaW.PrintLast Go.Proofs.Ytghklhdooemjdaa.Base Go.Proofs.Ytghklhdooemjdaa.Open
theorem one19 (a b : Int) : spoorref19_One.f a b = some (decide (winP a b)) := by
  unfold spoorref19_One.f
  by_cases h0 : a ≥ 0
  case neg => rw [if_neg h0, decide_eq_false (fun h => h0 h.1)]
  rw [if_pos h0]
  by_cases h1 : a ≤ b
  case neg => rw [if_neg h1, decide_eq_false (fun h => h1 h.2.1)]
  rw [if_pos h1]
  by_cases h2 : b ≤ 1099511627776
  · rw [decide_eq_true h2, decide_eq_true (show winP a b from ⟨h0, h1, h2⟩)]
  · rw [decide_eq_false h2, decide_eq_false (fun h : winP a b => h2 h.2.2)]
theorem one20 (v : Vd) : spoorref20_One.f v.f0 v.f1 = some (rightB v) := right_some v.f0 v.f1
theorem same_l (l : List Er) (hl : l.length ≤ 4194304) : ∀ (r : List Er) (i : Nat), l.drop i = r → Ev (fun k => spoorref20_Same.l0 k l l (l.length : Int) (i : Int)) true
  | [], i, hd => by
    have h1 : l.length ≤ i := List.drop_eq_nil_iff.1 hd
    refine Ev.succ ?_
    simp only [spoorref20_Same.l0]
    exact Ev.neg (by omega) (Ev.const rfl)
  | x :: r, i, hd => by
    have hlt := dlt hd
    refine Ev.succ ?_
    simp only [spoorref20_Same.l0, rdV hd]
    refine Ev.pos (by omega) (Ev.pos (by omega) (Ev.pos (by omega) (Ev.pos (by omega) (Ev.neg (by simp) ?_))))
    rw [w64 (by omega) (by omega), show ((i : Int) + 1) = ((i + 1 : Nat) : Int) by omega]
    exact same_l l hl r (i + 1) (dnext hd)
theorem same_ev (l : List Er) (hl : l.length ≤ 4194304) : Ev (fun k => spoorref20_Same.f k l l) true := by
  simp only [spoorref20_Same.f]
  exact Ev.pos trivial (same_l l hl l 0 rfl)
def contR (w1 : Int) : Int → Option Vd → List Er → Bool
  | f, _, [] => decide (f = w1 + 1)
  | f, p, x :: xs => rightB x.f1 && decide (x.f0.f0 = f) && decide (x.f0.f0 ≤ x.f0.f1) && decide (x.f0.f1 ≤ w1) && (match p with
    | none => true
    | some v => !(x.f1.f0 == v.f0 && x.f1.f1 == v.f1)) && contR w1 (x.f0.f1 + 1) (some x.f1) xs
theorem contR_iff (w1 : Int) : ∀ (l : List Er) (f : Int) (p : Option Vd), contR w1 f p l = true ↔ cont f l = some (w1 + 1) ∧ alt p l
  | [], f, p => by simp [contR, cont, alt]
  | x :: xs, f, p => by
    have ih := contR_iff w1 xs (x.f0.f1 + 1) (some x.f1)
    simp only [contR, Bool.and_eq_true, decide_eq_true_eq, ih]
    have e : cont f (x :: xs) = if x.f0.f0 = f ∧ f ≤ x.f0.f1 ∧ rightB x.f1 = true then cont (x.f0.f1 + 1) xs else none := rfl
    constructor
    · rintro ⟨⟨⟨⟨⟨h1, h2⟩, h3⟩, h4⟩, h5⟩, h6, h7⟩
      refine ⟨by rw [e, if_pos ⟨h2, by omega, h1⟩]; exact h6, ?_⟩
      cases p with
      | none => exact h7
      | some v =>
        refine ⟨fun hs => ?_, h7⟩
        obtain ⟨g1, g2⟩ := hs
        simp [g1, g2] at h5
    · rintro ⟨h1, h2⟩
      rw [e] at h1
      by_cases c : x.f0.f0 = f ∧ f ≤ x.f0.f1 ∧ rightB x.f1 = true
      case neg => rw [if_neg c] at h1; cases h1
      rw [if_pos c] at h1
      have hle := cont_le _ _ _ h1
      have h7 : alt (some x.f1) xs := by
        cases p with
        | none => exact h2
        | some v => exact h2.2
      refine ⟨⟨⟨⟨⟨c.2.2, c.1⟩, by omega⟩, by omega⟩, ?_⟩, h1, h7⟩
      cases p with
      | none => rfl
      | some v =>
        have hs : ¬ sameV x.f1 v := h2.1
        by_cases g : x.f1.f0 = v.f0
        · have g2 : x.f1.f1 ≠ v.f1 := fun h => hs ⟨g, h⟩
          simp [g2]
        · simp [g]
def prevV (l : List Er) (i : Nat) : Option Vd := if i = 0 then none else (l[i - 1]?).map (·.f1)
theorem rj2_no (l m : List Er) (i n j a b c d e f : Int) : Ev (fun k => spoorref20_Check.j2 k l i m n j true a b c d e f) 2 := by
  refine Ev.succ ?_
  simp only [spoorref20_Check.j2]
  exact Ev.pos trivial (Ev.const rfl)
theorem rchk_l (l : List Er) (hl : l.length ≤ 1024) (w0 w1 : Int) (hw0 : -1 ≤ w1) (hw1 : w1 ≤ 1099511627776) : ∀ (r : List Er) (i : Nat) (f : Int), l.drop i = r → 0 ≤ f → Ev (fun k => spoorref20_Check.l0 k l f l (l.length : Int) (i : Int) w0 w1) (ec (contR w1 f (prevV l i) r))
  | [], i, f, hd, hf => by
    have h1 : l.length ≤ i := List.drop_eq_nil_iff.1 hd
    refine Ev.succ ?_
    simp only [spoorref20_Check.l0]
    refine Ev.neg (by omega) ?_
    rw [w64 (by omega) (by omega)]
    simp only [contR]
    by_cases c : f = w1 + 1
    · rw [decide_eq_true c]
      exact Ev.pos c (Ev.const rfl)
    · rw [decide_eq_false c]
      exact Ev.neg c (Ev.const rfl)
  | x :: r, i, f, hd, hf => by
    have hlt := dlt hd
    have hp : prevV l (i + 1) = some x.f1 := by
      unfold prevV
      rw [if_neg (by omega), Nat.add_sub_cancel, ← List.head?_drop, hd]
      rfl
    refine Ev.succ ?_
    simp only [spoorref20_Check.l0, rdV hd]
    refine Ev.pos (by omega) (Ev.pos (by omega) (Ev.pos (by omega) ?_))
    rw [one20]
    simp only [Option.bind_some, contR]
    by_cases h1 : rightB x.f1 = true
    case neg =>
      rw [Bool.eq_false_iff.2 h1]
      exact Ev.neg (by simp) (rj2_no ..)
    rw [h1]
    refine Ev.pos rfl ?_
    by_cases h2 : x.f0.f0 = f
    case neg =>
      rw [decide_eq_false h2]
      exact Ev.neg h2 (rj2_no ..)
    rw [decide_eq_true h2]
    refine Ev.pos h2 ?_
    by_cases h3 : x.f0.f1 < x.f0.f0
    · rw [decide_eq_false (show ¬ x.f0.f0 ≤ x.f0.f1 by omega)]
      exact Ev.pos h3 (rj2_no ..)
    rw [decide_eq_true (show x.f0.f0 ≤ x.f0.f1 by omega)]
    refine Ev.neg h3 ?_
    by_cases h4 : x.f0.f1 > w1
    · rw [decide_eq_true h4, decide_eq_false (show ¬ x.f0.f1 ≤ w1 by omega)]
      exact rj2_no ..
    rw [decide_eq_false h4, decide_eq_true (show x.f0.f1 ≤ w1 by omega)]
    have ih := rchk_l l hl w0 w1 hw0 hw1 r (i + 1) (x.f0.f1 + 1) (dnext hd) (by omega)
    rw [hp] at ih
    refine Ev.succ ?_
    simp only [spoorref20_Check.j2, Bool.true_and]
    refine Ev.neg (by simp) ?_
    have e1 : wrap64 ((i : Int) + 1) = ((i + 1 : Nat) : Int) := by rw [w64 (by omega) (by omega)]; omega
    have e2 : wrap64 (x.f0.f1 + 1) = x.f0.f1 + 1 := w64 (by omega) (by omega)
    rw [e1, e2]
    by_cases h5 : (i : Int) > 0
    · refine Ev.pos h5 ?_
      obtain ⟨q, hq⟩ : ∃ q, l[i - 1]? = some q := ⟨_, List.getElem?_eq_getElem (by omega)⟩
      have hpq : prevV l i = some q.f1 := by unfold prevV; rw [if_neg (by omega), hq]; rfl
      have hrd : rd_T52 l (wrap64 ((i : Int) - 1)) = q := by
        rw [w64 (by omega) (by omega), show ((i : Int) - 1) = ((i - 1 : Nat) : Int) by omega]
        simp [rd_T52, List.getD_eq_getElem?_getD, hq]
      rw [hpq, hrd]
      refine Ev.pos (by rw [w64 (by omega) (by omega)]; omega) (Ev.pos (by rw [w64 (by omega) (by omega)]; omega) ?_)
      dsimp only
      by_cases h6 : (x.f1.f0 == q.f1.f0 && x.f1.f1 == q.f1.f1) = true
      · rw [h6]
        exact Ev.pos rfl (Ev.const rfl)
      · rw [Bool.eq_false_iff.2 h6]
        exact Ev.neg (by simp) ih
    · refine Ev.neg h5 ?_
      obtain rfl : i = 0 := by omega
      exact ih
theorem rj0_no (l : List Er) (a b : Int) : Ev (fun k => spoorref20_Check.j0 k l true a b) 2 := by
  refine Ev.succ ?_
  simp only [spoorref20_Check.j0]
  exact Ev.pos trivial (Ev.const rfl)
theorem lineB_R (w0 w1 : Int) (l : List Er) : lineB w0 w1 l = (decide (winP w0 w1) && decide (l ≠ []) && decide (l.length ≤ 1024) && contR w1 w0 none l) := by
  rw [Bool.eq_iff_iff, line_iff]
  simp only [Bool.and_eq_true, decide_eq_true_eq, contR_iff]
  exact ⟨fun h => ⟨⟨⟨h.win, h.ne⟩, h.len⟩, h.cont, h.alt⟩, fun ⟨⟨⟨h1, h2⟩, h3⟩, h4, h5⟩ => ⟨h1, h2, h3, h4, h5⟩⟩
theorem rcheck_ev (l : List Er) (w0 w1 : Int) : Ev (fun k => spoorref20_Check.f k w0 w1 l) (ec (lineB w0 w1 l)) := by
  simp only [spoorref20_Check.f]
  rw [one19, lineB_R]
  simp only [Option.bind_some]
  by_cases c0 : winP w0 w1
  case neg =>
    rw [decide_eq_false c0]
    exact Ev.neg (by simp) (rj0_no ..)
  rw [decide_eq_true c0]
  refine Ev.pos rfl ?_
  by_cases c1 : l = []
  · subst c1
    exact Ev.pos (by simp) (rj0_no ..)
  have hlen := List.length_pos_iff.2 c1
  rw [decide_eq_true c1]
  refine Ev.neg (by omega) ?_
  by_cases c2 : (l.length : Int) > 1024
  · rw [decide_eq_true c2, decide_eq_false (show ¬ l.length ≤ 1024 by omega)]
    exact rj0_no ..
  rw [decide_eq_false c2, decide_eq_true (show l.length ≤ 1024 by omega)]
  refine Ev.succ ?_
  simp only [spoorref20_Check.j0, Bool.true_and]
  obtain ⟨v1, v2, v3⟩ := c0
  exact Ev.neg (by simp) (rchk_l l (by omega) w0 w1 (by omega) v3 l 0 w0 rfl v1)
def okR (w0 w1 : Int) : Option Int → List Mk → Bool
  | _, [] => true
  | p, m :: r => rightB m.f1 && (match p with
    | none => decide (m.f0 = w0)
    | some q => decide (q < m.f0) && decide (m.f0 ≤ w1)) && okR w0 w1 (some m.f0) r
def putE (O : List Er) (x : Er) : List Er := if 0 < O.length ∧ (rd_T52 O ((O.length - 1 : Nat) : Int)).f1.f0 = x.f1.f0 ∧ (rd_T52 O ((O.length - 1 : Nat) : Int)).f1.f1 = x.f1.f1
  then O.set (O.length - 1) ⟨⟨(rd_T52 O ((O.length - 1 : Nat) : Int)).f0.f0, x.f0.f1⟩, (rd_T52 O ((O.length - 1 : Nat) : Int)).f1⟩ else O ++ [x]
def bld (w1 : Int) : List Mk → List Er → List Er
  | [], out => out
  | m :: rest, out => bld w1 rest (putE out ⟨⟨m.f0, match rest with
    | [] => w1
    | n :: _ => wrap64 (n.f0 - 1)⟩, m.f1⟩)
def finE (o : List Er) : List Er × Int := if 1024 < o.length then ([], 11) else (o, 0)
theorem putE_len (O : List Er) (x : Er) : (putE O x).length ≤ O.length + 1 := by unfold putE; split <;> simp
theorem rd_snocE (i : List Er) (l : Er) : rd_T52 (i ++ [l]) (((i ++ [l]).length - 1 : Nat) : Int) = l := by
  simp [rd_T52, List.getD_eq_getElem?_getD]
theorem putE_map (out : List Pc) (x : Pc) : (addV out x).map eraOf = putE (out.map eraOf) (eraOf x) := by
  by_cases hn : out = []
  · subst hn
    simp [addV, putE]
  · obtain ⟨i, l, rfl⟩ := snoc_of hn
    have e0 : (i ++ [l]).map eraOf = i.map eraOf ++ [eraOf l] := by simp
    unfold addV putE
    rw [rd_snocP, e0, rd_snocE]
    have e1 : ((i ++ [l]).length : Nat) = i.length + 1 := by simp
    have e2 : ((i.map eraOf ++ [eraOf l]).length : Nat) = i.length + 1 := by simp
    rw [e1, e2]
    by_cases c : l.f1.f0 = x.f1.f0 ∧ l.f1.f1 = x.f1.f1
    · rw [if_pos ⟨by omega, c.1, c.2⟩, if_pos ⟨by omega, c.1, c.2⟩, List.map_set, e0]
      rfl
    · rw [if_neg (fun h => c h.2), if_neg (fun h => c h.2), List.map_append]
      rw [e0]
      rfl
theorem mk_bld (w1 : Int) : ∀ (rest : List Mk) (m : Mk) (out out' : List Pc), mk_l w1 (m :: rest) out = some out' → out'.map eraOf = bld w1 (m :: rest) (out.map eraOf)
  | [], m, out, out', h => by
    unfold mk_l at h
    by_cases c : rightB m.f1 = false ∨ w1 < m.f0
    · rw [if_pos c] at h; cases h
    · rw [if_neg c] at h
      obtain rfl := Option.some.inj h
      rw [putE_map]
      rfl
  | n :: rest, m, out, out', h => by
    unfold mk_l at h
    by_cases c : rightB m.f1 = false ∨ w1 < m.f0
    · rw [if_pos c] at h; cases h
    · rw [if_neg c] at h
      dsimp only at h
      by_cases d : n.f0 ≤ m.f0
      · rw [if_pos d] at h; cases h
      · rw [if_neg d] at h
        rw [mk_bld w1 rest n _ out' h, putE_map]
        rfl
theorem mk_some (w0 w1 : Int) : ∀ (rest : List Mk) (m : Mk) (out : List Pc), m.f0 ≤ w1 → (mk_l w1 (m :: rest) out ≠ none ↔ rightB m.f1 = true ∧ okR w0 w1 (some m.f0) rest = true)
  | [], m, out, hm => by
    unfold mk_l
    by_cases c : rightB m.f1 = true
    · rw [if_neg (by rw [c]; simp; omega)]
      simp [c, okR]
    · rw [if_pos (.inl (Bool.eq_false_iff.2 c))]
      simp [c]
  | n :: rest, m, out, hm => by
    unfold mk_l
    by_cases c : rightB m.f1 = true
    · rw [if_neg (by rw [c]; simp; omega)]
      dsimp only
      have e : okR w0 w1 (some m.f0) (n :: rest) = (rightB n.f1 && (decide (m.f0 < n.f0) && decide (n.f0 ≤ w1)) && okR w0 w1 (some n.f0) rest) := rfl
      rw [e]
      by_cases d : n.f0 ≤ m.f0
      · rw [if_pos d, decide_eq_false (show ¬ m.f0 < n.f0 by omega)]
        simp
      · rw [if_neg d, decide_eq_true (show m.f0 < n.f0 by omega)]
        by_cases g : n.f0 ≤ w1
        · rw [mk_some w0 w1 rest n _ g, decide_eq_true g]
          simp [c]
        · rw [decide_eq_false g]
          have e2 : ∀ o, mk_l w1 (n :: rest) o = none := fun o => by
            unfold mk_l
            rw [if_pos (.inr (by omega))]
          rw [e2]
          simp
    · rw [if_pos (.inl (Bool.eq_false_iff.2 c))]
      simp [c]
def rmakeV (w0 w1 : Int) (l : List Mk) : List Er × Int := if winP w0 w1 ∧ l ≠ [] ∧ okR w0 w1 none l = true then finE (bld w1 l []) else ([], 2)
theorem rmake_is (w0 w1 : Int) (l : List Mk) : rmakeV w0 w1 l = makeV w0 w1 l := by
  unfold rmakeV makeV
  by_cases c : winP w0 w1
  case neg => rw [if_neg (fun h => c h.1), if_neg (fun h => c h.1)]
  cases l with
  | nil => rw [if_neg (fun h => h.2.1 rfl), if_neg (fun h => by cases h.2.1)]
  | cons m rest =>
    have e0 : (rd_T46 (m :: rest) 0).f0 = m.f0 := rfl
    rw [e0]
    have e1 : okR w0 w1 none (m :: rest) = (rightB m.f1 && decide (m.f0 = w0) && okR w0 w1 (some m.f0) rest) := rfl
    by_cases d : m.f0 = w0
    case neg =>
      have hn : ¬ (okR w0 w1 none (m :: rest) = true) := by rw [e1, decide_eq_false d]; simp
      rw [if_neg (fun h => hn h.2.2), if_neg (fun h => d h.2.2)]
    have hR : winP w0 w1 ∧ 0 < (m :: rest).length ∧ m.f0 = w0 := ⟨c, by simp, d⟩
    rw [if_pos hR]
    obtain ⟨v1, v2, v3⟩ := c
    have hs := mk_some w0 w1 rest m [] (by omega)
    cases hm : mk_l w1 (m :: rest) [] with
    | none =>
      rw [hm] at hs
      have hn : ¬ (okR w0 w1 none (m :: rest) = true) := by
        intro h
        rw [e1] at h
        simp only [Bool.and_eq_true] at h
        exact hs.2 ⟨h.1.1, h.2⟩ rfl
      rw [if_neg (fun h => hn h.2.2)]
    | some out =>
      rw [hm] at hs
      obtain ⟨g1, g2⟩ := hs.1 (by simp)
      rw [if_pos ⟨⟨v1, v2, v3⟩, by simp, by rw [e1, g1, g2, decide_eq_true d]; rfl⟩]
      have hb := mk_bld w1 rest m [] out hm
      have hb' : bld w1 (m :: rest) [] = out.map eraOf := hb.symm
      rw [hb']
      unfold finE
      rw [List.length_map]
theorem ok_len (w0 w1 : Int) : ∀ (r : List Mk) (a : Int), okR w0 w1 (some a) r = true → a ≤ w1 → (r.length : Int) ≤ w1 - a
  | [], a, _, h => by simp only [List.length_nil]; omega
  | m :: r, a, h, _ => by
    have h' : (rightB m.f1 && (decide (a < m.f0) && decide (m.f0 ≤ w1)) && okR w0 w1 (some m.f0) r) = true := h
    simp only [Bool.and_eq_true, decide_eq_true_eq] at h'
    have ih := ok_len w0 w1 r m.f0 h'.2 h'.1.2.2
    have h1 := h'.1.2.1
    simp only [List.length_cons]
    omega
theorem ok_len0 {w0 w1 : Int} {l : List Mk} (hw : winP w0 w1) (h : okR w0 w1 none l = true) : l.length ≤ 1099511627777 := by
  obtain ⟨v1, v2, v3⟩ := hw
  cases l with
  | nil => exact Nat.zero_le _
  | cons m r =>
    have h' : (rightB m.f1 && decide (m.f0 = w0) && okR w0 w1 (some m.f0) r) = true := h
    simp only [Bool.and_eq_true, decide_eq_true_eq] at h'
    have h1 := h'.1.2
    have ih := ok_len w0 w1 r m.f0 h'.2 (by omega)
    simp only [List.length_cons]
    omega
theorem rmk_b (l : List Mk) (w0 w1 : Int) (hl : l.length ≤ 1099511627777) : ∀ (r : List Mk) (i : Nat) (out : List Er), l.drop i = r → out.length ≤ i → Ev (fun k => spoorref20_Make.l1 k l out l (l.length : Int) (i : Int) w0 w1) (finE (bld w1 r out))
  | [], i, out, hd, ho => by
    have h1 : l.length ≤ i := List.drop_eq_nil_iff.1 hd
    refine Ev.succ ?_
    simp only [spoorref20_Make.l1]
    refine Ev.neg (by omega) ?_
    unfold finE bld
    by_cases c : 1024 < out.length
    · rw [if_pos c]
      exact Ev.pos (by omega) (Ev.const rfl)
    · rw [if_neg c]
      exact Ev.neg (by omega) (Ev.const rfl)
  | m :: r, i, out, hd, ho => by
    have hlt := dlt hd
    have e1 : wrap64 ((i : Int) + 1) = ((i + 1 : Nat) : Int) := by rw [w64 (by omega) (by omega)]; omega
    have step : ∀ z : Int, bld w1 (m :: r) out = bld w1 r (putE out ⟨⟨m.f0, z⟩, m.f1⟩) → Ev (fun k => spoorref20_Make.j4 k l out z l (l.length : Int) (i : Int) w0 w1 m.f0 m.f1.f0 m.f1.f1) (finE (bld w1 (m :: r) out)) := by
      intro z hz
      rw [hz]
      have ih := rmk_b l w0 w1 hl r (i + 1) (putE out ⟨⟨m.f0, z⟩, m.f1⟩) (dnext hd) (by have := putE_len out ⟨⟨m.f0, z⟩, m.f1⟩; omega)
      refine Ev.succ ?_
      simp only [spoorref20_Make.j4]
      rw [e1]
      by_cases c : (out.length : Int) > 0
      · have e2 : wrap64 ((out.length : Int) - 1) = ((out.length - 1 : Nat) : Int) := by rw [w64 (by omega) (by omega)]; omega
        rw [e2]
        refine Ev.pos c (Ev.pos (by omega) (Ev.pos (by omega) ?_))
        unfold putE at ih
        by_cases d : (rd_T52 out ((out.length - 1 : Nat) : Int)).f1.f0 = m.f1.f0 ∧ (rd_T52 out ((out.length - 1 : Nat) : Int)).f1.f1 = m.f1.f1
        · rw [if_pos ⟨by omega, d.1, d.2⟩] at ih
          unfold putE
          rw [if_pos ⟨by omega, d.1, d.2⟩]
          refine Ev.pos (by simp [d.1, d.2]) ?_
          rw [Int.toNat_natCast]
          exact ih
        · rw [if_neg (fun h => d h.2)] at ih
          unfold putE
          rw [if_neg (fun h => d h.2)]
          exact Ev.neg (by simpa using d) (Ev.pos (by omega) ih)
      · unfold putE at ih
        rw [if_neg (fun h => by omega)] at ih
        unfold putE
        rw [if_neg (fun h => by omega)]
        exact Ev.neg c (Ev.pos (by omega) ih)
    refine Ev.succ ?_
    simp only [spoorref20_Make.l1, rdM hd]
    refine Ev.pos (by omega) (Ev.pos (by omega) (Ev.pos (by omega) ?_))
    rw [e1]
    cases r with
    | nil =>
      have h2 : l.length ≤ i + 1 := List.drop_eq_nil_iff.1 (dnext hd)
      exact Ev.neg (by omega) (step w1 rfl)
    | cons n r' =>
      have h2 := dlt (dnext hd)
      rw [rdM (dnext hd)]
      exact Ev.pos (by omega) (Ev.pos (by omega) (step _ rfl))
def stepR (w0 w1 : Int) (p : Option Int) (m : Mk) : Bool := match p with
  | none => decide (m.f0 = w0)
  | some q => decide (q < m.f0) && decide (m.f0 ≤ w1)
theorem okR_cons (w0 w1 : Int) (p : Option Int) (m : Mk) (r : List Mk) : okR w0 w1 p (m :: r) = (rightB m.f1 && stepR w0 w1 p m && okR w0 w1 (some m.f0) r) := by cases p <;> rfl
def prevM (l : List Mk) (i : Nat) : Option Int := if i = 0 then none else (l[i - 1]?).map (·.f0)
theorem rmk_a (l : List Mk) (w0 w1 : Int) (hl : l.length ≤ 5864062014634) (F : List Er × Int) (hF : okR w0 w1 none l = true → Ev (fun k => spoorref20_Make.l1 k l [] l (l.length : Int) 0 w0 w1) F) : ∀ (r : List Mk) (i : Nat), l.drop i = r → (okR w0 w1 (prevM l i) r = true → okR w0 w1 none l = true) →
    Ev (fun k => spoorref20_Make.l0 k l l (l.length : Int) (i : Int) w0 w1) (if okR w0 w1 (prevM l i) r = true then F else ([], 2))
  | [], i, hd, hA => by
    have h1 : l.length ≤ i := List.drop_eq_nil_iff.1 hd
    refine Ev.succ ?_
    simp only [spoorref20_Make.l0]
    refine Ev.neg (by omega) ?_
    rw [if_pos (by simp [okR])]
    exact hF (hA (by simp [okR]))
  | m :: r, i, hd, hA => by
    have hlt := dlt hd
    have ih := rmk_a l w0 w1 hl F hF r (i + 1) (dnext hd)
    have hp : prevM l (i + 1) = some m.f0 := by
      unfold prevM
      rw [if_neg (by omega), Nat.add_sub_cancel, ← List.head?_drop, hd]
      rfl
    rw [hp] at ih
    have e1 : wrap64 ((i : Int) + 1) = ((i + 1 : Nat) : Int) := by rw [w64 (by omega) (by omega)]; omega
    have jno : Ev (fun k => spoorref20_Make.j2 k l l (l.length : Int) (i : Int) true w0 w1) ([], 2) := by
      refine Ev.succ ?_
      simp only [spoorref20_Make.j2]
      exact Ev.pos trivial (Ev.const rfl)
    have jok : (okR w0 w1 (some m.f0) r = true → okR w0 w1 none l = true) → Ev (fun k => spoorref20_Make.j2 k l l (l.length : Int) (i : Int) false w0 w1) (if okR w0 w1 (some m.f0) r = true then F else ([], 2)) := by
      intro hh
      refine Ev.succ ?_
      simp only [spoorref20_Make.j2]
      rw [e1]
      exact Ev.neg (by simp) (ih hh)
    refine Ev.succ ?_
    simp only [spoorref20_Make.l0, rdM hd]
    refine Ev.pos (by omega) (Ev.pos (by omega) (Ev.pos (by omega) ?_))
    have hno : okR w0 w1 (prevM l i) (m :: r) = false → (if okR w0 w1 (prevM l i) (m :: r) = true then F else (([], 2) : List Er × Int)) = ([], 2) := fun h => if_neg (by rw [h]; decide)
    have hyes : okR w0 w1 (prevM l i) (m :: r) = okR w0 w1 (some m.f0) r → (if okR w0 w1 (prevM l i) (m :: r) = true then F else (([], 2) : List Er × Int)) = (if okR w0 w1 (some m.f0) r = true then F else ([], 2)) := fun h => by rw [h]
    rw [one20]
    simp only [Option.bind_some]
    by_cases h1 : rightB m.f1 = true
    case neg =>
      rw [hno (by rw [okR_cons, Bool.eq_false_iff.2 h1]; rfl)]
      exact Ev.neg h1 jno
    refine Ev.pos h1 ?_
    by_cases h2 : (i : Int) = 0
    · obtain rfl : i = 0 := by omega
      have hp0 : prevM l 0 = none := rfl
      refine Ev.pos h2 ?_
      by_cases h3 : m.f0 = w0
      · have e : okR w0 w1 (prevM l 0) (m :: r) = okR w0 w1 (some m.f0) r := by
          rw [hp0, okR_cons, h1, show stepR w0 w1 none m = true from decide_eq_true h3]
          rfl
        rw [hyes e]
        exact Ev.pos h3 (Ev.neg (by decide) (jok (fun h => hA (e.trans h))))
      · rw [hno (by rw [hp0, okR_cons, h1, show stepR w0 w1 none m = false from decide_eq_false h3]; rfl)]
        exact Ev.neg h3 jno
    · obtain ⟨q, hq⟩ : ∃ q, l[i - 1]? = some q := ⟨_, List.getElem?_eq_getElem (by omega)⟩
      have hpq : prevM l i = some q.f0 := by unfold prevM; rw [if_neg (by omega), hq]; rfl
      have hrd : rd_T46 l (wrap64 ((i : Int) - 1)) = q := by
        rw [w64 (by omega) (by omega), show ((i : Int) - 1) = ((i - 1 : Nat) : Int) by omega]
        simp [rd_T46, List.getD_eq_getElem?_getD, hq]
      have es : stepR w0 w1 (some q.f0) m = (decide (q.f0 < m.f0) && decide (m.f0 ≤ w1)) := rfl
      rw [hrd]
      refine Ev.neg h2 (Ev.pos (by omega) (Ev.pos (by rw [w64 (by omega) (by omega)]; omega) (Ev.pos (by rw [w64 (by omega) (by omega)]; omega) ?_)))
      by_cases h3 : m.f0 ≤ q.f0
      · rw [hno (by rw [hpq, okR_cons, h1, es, decide_eq_false (show ¬ q.f0 < m.f0 by omega)]; rfl)]
        exact Ev.pos h3 jno
      · refine Ev.neg h3 ?_
        by_cases h4 : m.f0 > w1
        · rw [decide_eq_true h4, hno (by rw [hpq, okR_cons, h1, es, decide_eq_true (show q.f0 < m.f0 by omega), decide_eq_false (show ¬ m.f0 ≤ w1 by omega)]; rfl)]
          exact jno
        · have e : okR w0 w1 (prevM l i) (m :: r) = okR w0 w1 (some m.f0) r := by
            rw [hpq, okR_cons, h1, es, decide_eq_true (show q.f0 < m.f0 by omega), decide_eq_true (show m.f0 ≤ w1 by omega)]
            rfl
          rw [decide_eq_false h4, hyes e]
          exact jok (fun h => hA (e.trans h))
theorem rmake_ev (l : List Mk) (w0 w1 : Int) (hl : l.length ≤ 5864062014634) : Ev (fun k => spoorref20_Make.f k w0 w1 l) (makeV w0 w1 l) := by
  rw [← rmake_is]
  simp only [spoorref20_Make.f]
  rw [one19]
  simp only [Option.bind_some]
  have jno : Ev (fun k => spoorref20_Make.j0 k l true w0 w1) ([], 2) := by
    refine Ev.succ ?_
    simp only [spoorref20_Make.j0]
    exact Ev.pos trivial (Ev.const rfl)
  unfold rmakeV
  by_cases c : winP w0 w1
  case neg =>
    rw [decide_eq_false c, if_neg (fun h => c h.1)]
    exact Ev.neg (by simp) jno
  rw [decide_eq_true c]
  refine Ev.pos rfl ?_
  by_cases d : l = []
  · subst d
    rw [if_neg (fun h => h.2.1 rfl)]
    exact jno
  have hlen := List.length_pos_iff.2 d
  have e : ((l.length : Int) == 0) = false := beq_eq_false_iff_ne.mpr (by omega)
  rw [e]
  refine Ev.succ ?_
  simp only [spoorref20_Make.j0]
  refine Ev.neg (by simp) ?_
  refine Ev.to (rmk_a l w0 w1 hl _ (fun h => rmk_b l w0 w1 (ok_len0 c h) l 0 [] rfl (Nat.le_refl _)) l 0 rfl (fun h => h)) ?_
  have hp0 : prevM l 0 = none := rfl
  rw [hp0]
  by_cases g : okR w0 w1 none l = true
  · rw [if_pos g, if_pos ⟨c, d, g⟩]
  · rw [if_neg g, if_neg (fun h => g h.2.2)]
end Go.Proofs.Ytghklhdooemjdaa.Line
end
section
namespace Go.Proofs.Ytghklhdooemjdaa.Pure
set_option linter.unusedVariables false
open Go.RowKit Go.Proofs.Ytghklhdooemjdaa.Q Go.Proofs.YtghklhdooemjdaaW.PrintWords Go.Proofs.YtghklhdooemjdaaW.PrintLast Go.Proofs.Ytghklhdooemjdaa.Base Go.Proofs.Ytghklhdooemjdaa.Open Go.Proofs.Ytghklhdooemjdaa.Line
theorem lives_ev3 : Ev spoorlaw20_lives.f true := Ev.of spoorlaw20_lives.mono (k := 200) (by decide +kernel)
theorem makeV_len (w0 w1 : Int) (l : List Mk) : (makeV w0 w1 l).1.length ≤ 1024 := by
  rw [← rmake_is]
  unfold rmakeV
  by_cases c : winP w0 w1 ∧ l ≠ [] ∧ okR w0 w1 none l = true
  · rw [if_pos c]
    unfold finE
    by_cases d : 1024 < (bld w1 l []).length
    · rw [if_pos d]; exact Nat.zero_le _
    · rw [if_neg d]; exact Nat.le_of_not_lt d
  · rw [if_neg c]; exact Nat.zero_le _
theorem LineMakes : spoorlaw20_LineMakes.Pure := by
  intro w0 w1 l m h0 h1 h2 hB hB2
  have hwm : ∀ x ∈ m, bndE x := fun x hx => wf_era (h2.1 x hx)
  have hl : l.length ≤ 5864062014634 := by omega
  clear h0 h1 h2 hB hB2
  refine Ev.rounds (g := fun k => spoorlaw20_LineMakes.f k w0 w1 l m) (r := true) ?_
  simp only [spoorlaw20_LineMakes.f]
  have hv := makeV_len w0 w1 l
  refine Ev.bind (make_ev w0 w1 l) (Ev.bind (rmake_ev l w0 w1 hl) (Ev.bind lives_ev3 (Ev.pos rfl (Ev.bind (same_ev _ (by omega)) (Ev.pos rfl (Ev.pos rfl (Ev.bind (check_ev m hwm w0 w1) (Ev.bind (rcheck_ev m w0 w1) (Ev.const ?_)))))))))
  simp
end Go.Proofs.Ytghklhdooemjdaa.Pure
end
section
namespace Go.Proofs.Ytghklhdooemjdaa.lineMakes
open Go.ChangeShapes Go.WideShapes Go.ChangeAt Go.RowKit Go.Proofs.Ytghklhdooemjdaa.Open Go.Proofs.Ytghklhdooemjdaa.Q
open Go.ChangeMaps (open_string shut_string)
set_option linter.unusedVariables false
theorem own : ownKnob Try.prog.godebug = none := by kernel_rfl
theorem laidOut : laidOutB Try.prog = true := by kernel_rfl
set_option maxRecDepth 100000 in
theorem contract (H : Type) (enc : TypeId × Value → H) (W : World) (base : Nat) (args : Array Value) (ds gs : List (DataW H)) (before : List MemPlace)
    (hval : ∀ (j : Nat) t v, Try.f3.params[j]? = some t → args[j]? = some v → Value.okWide Try.prog W .any base t v)
    (hW : DataW.Whole enc Try.prog Try.f3.params.toList Rows.lineMakesSpec.vars false W args.toList ds gs before) (hsz0 : (DataW.weightsEach Try.prog (Try.f3.params.toList ++ Rows.lineMakesSpec.plain.varTypes Try.prog) (ds ++ gs)).all (· ≤ reachBytes) = true) :
    Calls Try.prog 3 args W fun e W' => ∃ v, e = .returned v ∧ Rows.lineMakesSpec.post enc Try.prog Try.f3 false true false false W args v W' := by
  have hW' := hW
  obtain ⟨p, q, hA0, hV, rfl, hfz, hnd⟩ := hW
  have hA : DataW.TrodAll enc Try.prog W 0 (fun _ => true) true Try.f3.params.toList args.toList ds p := hA0
  have hsz : (DataW.weightsEach Try.prog (Try.f3.params.toList ++ Rows.lineMakesSpec.plain.varTypes Try.prog) (ds ++ gs)).all (· ≤ reachBytes) = true := hsz0
  rw [Try.params3] at hA hval hsz
  obtain ⟨v0, vs0, d0, ds0, p0, q0, hargs, rfl, rfl, h0, r0⟩ := trodAll_cons hA
  obtain ⟨v1, vs1, d1, ds1, p1, q1, rfl, rfl, rfl, h1, r1⟩ := trodAll_cons r0
  obtain ⟨v2, vs2, d2, ds2, p2, q2, rfl, rfl, rfl, h2, r2⟩ := trodAll_cons r1
  obtain ⟨rfl, rfl, rfl⟩ := trodAll_nil r2
  obtain rfl : args = #[v0, v1, v2] := by cases args; simp_all
  obtain ⟨rfl, rfl⟩ := trodVars_none hV
  have k0 := h0
  have lt0 : ∀ x ∈ p0, x.block < W.heap.size := by obtain ⟨m, hm⟩ := k0; exact DataW.trod_lt m _ _ _ hm
  obtain ⟨fu0, hf0⟩ := h0
  obtain ⟨b0, K0, o0, u0⟩ := opn23 enc W _ _ _ _ _ hf0
  have z0 := k23_open K0
  obtain rfl : v0 = .agg #[.int .i64 b0.f0, .int .i64 b0.f1] := by obtain ⟨x, rfl, _⟩ := okWide_struct Try.underlying23 (hval 0 23 v0 rfl rfl); exact congrArg Value.agg (Array.toList_inj.mp (show x.toList = [.int .i64 b0.f0, .int .i64 b0.f1] from z0))
  have k1 := h1
  have lt1 : ∀ x ∈ p1, x.block < W.heap.size := by obtain ⟨m, hm⟩ := k1; exact DataW.trod_lt m _ _ _ hm
  obtain ⟨fu1, hf1⟩ := h1
  obtain ⟨b1, K1, o1, u1⟩ := (opens_slice opn46 Try.underlying24 (by kernel_rfl) 46) enc W _ _ _ _ _ hf1
  obtain ⟨A1, c1, z1, lc1, C1⟩ := K1
  obtain rfl : v1 = .slice A1 b1.length c1 := by obtain ⟨x, y, z, rfl⟩ := okWide_slice Try.underlying24 (hval 1 24 v1 rfl rfl); exact (List.cons.inj (show [Value.slice x y z] = [Value.slice A1 b1.length c1] from z1)).1
  have k2 := h2
  have lt2 : ∀ x ∈ p2, x.block < W.heap.size := by obtain ⟨m, hm⟩ := k2; exact DataW.trod_lt m _ _ _ hm
  obtain ⟨fu2, hf2⟩ := h2
  obtain ⟨b2, K2, o2, u2⟩ := (opens_slice opn52 Try.underlying25 (by kernel_rfl) 52) enc W _ _ _ _ _ hf2
  obtain ⟨A2, c2, z2, lc2, C2⟩ := K2
  obtain rfl : v2 = .slice A2 b2.length c2 := by obtain ⟨x, y, z, rfl⟩ := okWide_slice Try.underlying25 (hval 2 25 v2 rfl rfl); exact (List.cons.inj (show [Value.slice x y z] = [Value.slice A2 b2.length c2] from z2)).1
  have sz1 : b1.length * 24 ≤ 140737488351232 := sized_row hsz (j := 1) (t := 24) rfl rfl Try.underlying24 (by kernel_rfl) k1
  have sz2 : b2.length * 32 ≤ 140737488351232 := sized_row hsz (j := 2) (t := 25) rfl rfl Try.underlying25 (by kernel_rfl) k2
  obtain ⟨k, h⟩ := Pure.LineMakes b0.f0 b0.f1 b1 b2 o0 o1 o2 sz1 sz2
  refine (spoorlaw20_LineMakes.calls k b0.f0 b0.f1 A1 c1 b1 A2 c2 b2 true W C1 lc1 C2 lc2 h).mono fun e W' ⟨he, hd⟩ => ?_
  have bel := hd
  subst he
  exact ⟨_, rfl, _, _, _, [], _, [], hW', trodAll_mk1 (shut_bool Try.underlying4 _), (trodAll_cons_mk (Below.trod laidOut (by kernel_rfl) (of_decide_eq_true (by kernel_rfl)) k0 bel lt0) (trodAll_cons_mk (Below.trod laidOut (by kernel_rfl) (of_decide_eq_true (by kernel_rfl)) k1 bel lt1) (trodAll_cons_mk (Below.trod laidOut (by kernel_rfl) (of_decide_eq_true (by kernel_rfl)) k2 bel lt2) trodAll_mk0))), rfl, bel.frame _, fun h => by cases h⟩
set_option maxRecDepth 100000 in
theorem lifted (os : Os) (started : os.Started) (H : Type) (enc : TypeId × Value → H) :
    ReturnsInHanded {} Try.checked os 3 .any (Rows.lineMakesSpec.pre6 enc Try.prog Try.f3 Rows.lineMakesRow.domain false) (Rows.lineMakesSpec.post enc Try.prog Try.f3 false true false false) := by
  refine returnsInHanded_of_change_sized (C := Try.checked) own started (by kernel_rfl) Try.func3
    (ChangeSpec.witness6 (enc := enc) (C := Try.checked) false ⟨#[], #[.agg #[.int .i64 0, .int .i64 0], .slice none 0 0, .slice none 0 0], []⟩ 8 (by kernel_rfl) (by kernel_rfl) (by kernel_rfl) (by kernel_rfl)) ?_
  intro W base args ds gs before hval hW _ hsz _
  exact contract H enc W base args ds gs before hval hW hsz
theorem over : Rows.lineMakesRow.holds Try.pinned (OpenSpec.ofChange Rows.lineMakesSpec) :=
  OpenClaim.holds_of_wide 3 Try.f3 rfl rfl rfl rfl rfl rfl rfl ⟨rfl, rfl, rfl, rfl, rfl⟩ rfl rfl rfl rfl rfl (by kernel_rfl) Try.func3 (by kernel_rfl)
    (of_decide_eq_true (by kernel_rfl)) (by unfold Func.isWrapper; first | (rw [if_pos (by decide +kernel)]; kernel_rfl) | (rw [if_neg (by decide +kernel)]; exact ⟨rfl, rfl⟩))
    (fun os started H enc _ => lifted os started H enc)
theorem proved : Rows.LineMakesSaid := over
#print axioms proved
end Go.Proofs.Ytghklhdooemjdaa.lineMakes
namespace Go.Proofs.Ytghklhdooemjdaa
theorem lineMakes_holds : Rows.LineMakesSaid := lineMakes.proved
end Go.Proofs.Ytghklhdooemjdaa
end
section

end
