/- One set for the five statements. -/
import Derived.Test.YtkjjidanakmkeaaRows
import Derived.WalkKit
import Derived.ProofKit
import Derived.OpenShut
import Derived.ShutString
import Derived.ChangeOld
import Derived.Below
import Derived.SizedLaws
import Derived.JoinedCond
import Derived.Test.YtkjjidanakmkeaaTIvlAll3
section
namespace Go.Proofs.Ytkjjidanakmkeaa.Q
open Go.RowKit Go.Proofs.YtkjjidanakmkeaaW.PrintWords Go.Proofs.YtkjjidanakmkeaaW.PrintLast Go.Proofs.YtkjjidanakmkeaaW.PrintMore
attribute [local go_sem] max2_int min2_int max_two min_two max_three min_three max_four min_four   -- for this text's walks alone
set_option linter.unusedVariables false
set_option linter.unusedSimpArgs false
set_option maxHeartbeats 8000000 in
set_option maxRecDepth 100000 in
theorem spoorlaw19_IvlSets.calls (k : Nat) (A0 : Option Addr) (c0 : Nat) (l0 : List (S36)) (A1 : Option Addr) (c1 : Nat) (l1 : List (S36)) (a2_0 : Int) (a2_1 : Int) (r : Bool) (w : World) (hr0 : Kd.C k36 w A0 l0.length l0) (hc0 : l0.length ≤ c0) (hr1 : Kd.C k36 w A1 l1.length l1) (hc1 : l1.length ≤ c1) (h : spoorlaw19_IvlSets.f k l0 l1 a2_0 a2_1 = some r) :
  Calls Try.prog 4 #[.slice A0 l0.length c0, .slice A1 l1.length c1, .agg #[.int .i64 a2_0, .int .i64 a2_1]] w fun e w' => e = .returned (.bool r) ∧ Below w.heap.size w w' := by
 have hu36 := Try.underlying36
 have HR0 := Ax hr0
 have HC0 := Ax hc0
 clear hr0 hc0
 have HR1 := Ax hr1
 have HC1 := Ax hc1
 clear hr1 hc1
 have HB := Ax (Below.refl w.heap.size w)
 have H : ((spoorlaw19_few.f k l0 l1).bind fun t265 => (if t265 = true then ((ivl_Or.f k l0 l1).bind fun bt267 => ((spoorref19_Or.f k l0 l1).bind fun bt271 => ((ivl_And.f k l0 l1).bind fun bt275 => ((spoorref19_And.f k l0 l1).bind fun bt279 => ((ivl_Not.f k l0 a2_0 a2_1).bind fun bt283 => ((spoorref19_Not.f k l0 a2_0 a2_1).bind fun bt287 => ((spoorlaw19_lives.f k).bind fun t291 => (if t291 = true then ((spoorref19_Same.f k bt267.1 bt271.1).bind fun t292 => (if t292 = true then (if bt267.2 = bt271.2 then ((spoorref19_Same.f k bt275.1 bt279.1).bind fun t293 => (if t293 = true then (if bt275.2 = bt279.2 then ((spoorref19_Same.f k bt283.1 bt287.1).bind fun t294 => (if t294 = true then (some (bt283.2 == bt287.2)) else (none))) else (none)) else (none))) else (none)) else (none))) else (none))))))))) else ((spoorlaw19_lives.f k).bind fun t266 => (some t266)))) = some r := h
 clear h
 replace H := Option.bind_eq_some_iff.mp H
 obtain ⟨t265, A40, H⟩ := H
 replace H : (if t265 = true then ((ivl_Or.f k l0 l1).bind fun bt267 => ((spoorref19_Or.f k l0 l1).bind fun bt271 => ((ivl_And.f k l0 l1).bind fun bt275 => ((spoorref19_And.f k l0 l1).bind fun bt279 => ((ivl_Not.f k l0 a2_0 a2_1).bind fun bt283 => ((spoorref19_Not.f k l0 a2_0 a2_1).bind fun bt287 => ((spoorlaw19_lives.f k).bind fun t291 => (if t291 = true then ((spoorref19_Same.f k bt267.1 bt271.1).bind fun t292 => (if t292 = true then (if bt267.2 = bt271.2 then ((spoorref19_Same.f k bt275.1 bt279.1).bind fun t293 => (if t293 = true then (if bt275.2 = bt279.2 then ((spoorref19_Same.f k bt283.1 bt287.1).bind fun t294 => (if t294 = true then (some (bt283.2 == bt287.2)) else (none))) else (none)) else (none))) else (none)) else (none))) else (none))))))))) else ((spoorlaw19_lives.f k).bind fun t266 => (some t266))) = some r := H
 have A4 := Ax A40
 clear A40
 by_cases c5 : t265 = true
 ·subst c5
  have H1 : ((ivl_Or.f k l0 l1).bind fun bt267 => ((spoorref19_Or.f k l0 l1).bind fun bt271 => ((ivl_And.f k l0 l1).bind fun bt275 => ((spoorref19_And.f k l0 l1).bind fun bt279 => ((ivl_Not.f k l0 a2_0 a2_1).bind fun bt283 => ((spoorref19_Not.f k l0 a2_0 a2_1).bind fun bt287 => ((spoorlaw19_lives.f k).bind fun t291 => (if t291 = true then ((spoorref19_Same.f k bt267.1 bt271.1).bind fun t292 => (if t292 = true then (if bt267.2 = bt271.2 then ((spoorref19_Same.f k bt275.1 bt279.1).bind fun t293 => (if t293 = true then (if bt275.2 = bt279.2 then ((spoorref19_Same.f k bt283.1 bt287.1).bind fun t294 => (if t294 = true then (some (bt283.2 == bt287.2)) else (none))) else (none)) else (none))) else (none)) else (none))) else (none))))))))) = some r := by rw [if_pos rfl] at H; exact H
  clear H
  have H := H1
  clear H1
  replace H := Option.bind_eq_some_iff.mp H
  obtain ⟨⟨t267, t268⟩, A60, H⟩ := H
  replace H : ((spoorref19_Or.f k l0 l1).bind fun bt271 => ((ivl_And.f k l0 l1).bind fun bt275 => ((spoorref19_And.f k l0 l1).bind fun bt279 => ((ivl_Not.f k l0 a2_0 a2_1).bind fun bt283 => ((spoorref19_Not.f k l0 a2_0 a2_1).bind fun bt287 => ((spoorlaw19_lives.f k).bind fun t291 => (if t291 = true then ((spoorref19_Same.f k t267 bt271.1).bind fun t292 => (if t292 = true then (if t268 = bt271.2 then ((spoorref19_Same.f k bt275.1 bt279.1).bind fun t293 => (if t293 = true then (if bt275.2 = bt279.2 then ((spoorref19_Same.f k bt283.1 bt287.1).bind fun t294 => (if t294 = true then (some (bt283.2 == bt287.2)) else (none))) else (none)) else (none))) else (none)) else (none))) else (none)))))))) = some r := H
  have A6 := Ax A60
  clear A60
  replace H := Option.bind_eq_some_iff.mp H
  obtain ⟨⟨t271, t272⟩, A70, H⟩ := H
  replace H : ((ivl_And.f k l0 l1).bind fun bt275 => ((spoorref19_And.f k l0 l1).bind fun bt279 => ((ivl_Not.f k l0 a2_0 a2_1).bind fun bt283 => ((spoorref19_Not.f k l0 a2_0 a2_1).bind fun bt287 => ((spoorlaw19_lives.f k).bind fun t291 => (if t291 = true then ((spoorref19_Same.f k t267 t271).bind fun t292 => (if t292 = true then (if t268 = t272 then ((spoorref19_Same.f k bt275.1 bt279.1).bind fun t293 => (if t293 = true then (if bt275.2 = bt279.2 then ((spoorref19_Same.f k bt283.1 bt287.1).bind fun t294 => (if t294 = true then (some (bt283.2 == bt287.2)) else (none))) else (none)) else (none))) else (none)) else (none))) else (none))))))) = some r := H
  have A7 := Ax A70
  clear A70
  replace H := Option.bind_eq_some_iff.mp H
  obtain ⟨⟨t275, t276⟩, A80, H⟩ := H
  replace H : ((spoorref19_And.f k l0 l1).bind fun bt279 => ((ivl_Not.f k l0 a2_0 a2_1).bind fun bt283 => ((spoorref19_Not.f k l0 a2_0 a2_1).bind fun bt287 => ((spoorlaw19_lives.f k).bind fun t291 => (if t291 = true then ((spoorref19_Same.f k t267 t271).bind fun t292 => (if t292 = true then (if t268 = t272 then ((spoorref19_Same.f k t275 bt279.1).bind fun t293 => (if t293 = true then (if t276 = bt279.2 then ((spoorref19_Same.f k bt283.1 bt287.1).bind fun t294 => (if t294 = true then (some (bt283.2 == bt287.2)) else (none))) else (none)) else (none))) else (none)) else (none))) else (none)))))) = some r := H
  have A8 := Ax A80
  clear A80
  replace H := Option.bind_eq_some_iff.mp H
  obtain ⟨⟨t279, t280⟩, A90, H⟩ := H
  replace H : ((ivl_Not.f k l0 a2_0 a2_1).bind fun bt283 => ((spoorref19_Not.f k l0 a2_0 a2_1).bind fun bt287 => ((spoorlaw19_lives.f k).bind fun t291 => (if t291 = true then ((spoorref19_Same.f k t267 t271).bind fun t292 => (if t292 = true then (if t268 = t272 then ((spoorref19_Same.f k t275 t279).bind fun t293 => (if t293 = true then (if t276 = t280 then ((spoorref19_Same.f k bt283.1 bt287.1).bind fun t294 => (if t294 = true then (some (bt283.2 == bt287.2)) else (none))) else (none)) else (none))) else (none)) else (none))) else (none))))) = some r := H
  have A9 := Ax A90
  clear A90
  replace H := Option.bind_eq_some_iff.mp H
  obtain ⟨⟨t283, t286⟩, A100, H⟩ := H
  replace H : ((spoorref19_Not.f k l0 a2_0 a2_1).bind fun bt287 => ((spoorlaw19_lives.f k).bind fun t291 => (if t291 = true then ((spoorref19_Same.f k t267 t271).bind fun t292 => (if t292 = true then (if t268 = t272 then ((spoorref19_Same.f k t275 t279).bind fun t293 => (if t293 = true then (if t276 = t280 then ((spoorref19_Same.f k t283 bt287.1).bind fun t294 => (if t294 = true then (some (t286 == bt287.2)) else (none))) else (none)) else (none))) else (none)) else (none))) else (none)))) = some r := H
  have A10 := Ax A100
  clear A100
  replace H := Option.bind_eq_some_iff.mp H
  obtain ⟨⟨t287, t290⟩, A110, H⟩ := H
  replace H : ((spoorlaw19_lives.f k).bind fun t291 => (if t291 = true then ((spoorref19_Same.f k t267 t271).bind fun t292 => (if t292 = true then (if t268 = t272 then ((spoorref19_Same.f k t275 t279).bind fun t293 => (if t293 = true then (if t276 = t280 then ((spoorref19_Same.f k t283 t287).bind fun t294 => (if t294 = true then (some (t286 == t290)) else (none))) else (none)) else (none))) else (none)) else (none))) else (none))) = some r := H
  have A11 := Ax A110
  clear A110
  replace H := Option.bind_eq_some_iff.mp H
  obtain ⟨t291, A120, H⟩ := H
  replace H : (if t291 = true then ((spoorref19_Same.f k t267 t271).bind fun t292 => (if t292 = true then (if t268 = t272 then ((spoorref19_Same.f k t275 t279).bind fun t293 => (if t293 = true then (if t276 = t280 then ((spoorref19_Same.f k t283 t287).bind fun t294 => (if t294 = true then (some (t286 == t290)) else (none))) else (none)) else (none))) else (none)) else (none))) else (none)) = some r := H
  have A12 := Ax A120
  clear A120
  by_cases c13 : t291 = true
  ·subst c13
   have H1 : ((spoorref19_Same.f k t267 t271).bind fun t292 => (if t292 = true then (if t268 = t272 then ((spoorref19_Same.f k t275 t279).bind fun t293 => (if t293 = true then (if t276 = t280 then ((spoorref19_Same.f k t283 t287).bind fun t294 => (if t294 = true then (some (t286 == t290)) else (none))) else (none)) else (none))) else (none)) else (none))) = some r := by rw [if_pos rfl] at H; exact H
   clear H
   have H := H1
   clear H1
   replace H := Option.bind_eq_some_iff.mp H
   obtain ⟨t292, A140, H⟩ := H
   replace H : (if t292 = true then (if t268 = t272 then ((spoorref19_Same.f k t275 t279).bind fun t293 => (if t293 = true then (if t276 = t280 then ((spoorref19_Same.f k t283 t287).bind fun t294 => (if t294 = true then (some (t286 == t290)) else (none))) else (none)) else (none))) else (none)) else (none)) = some r := H
   have A14 := Ax A140
   clear A140
   by_cases c15 : t292 = true
   ·subst c15
    have H1 : (if t268 = t272 then ((spoorref19_Same.f k t275 t279).bind fun t293 => (if t293 = true then (if t276 = t280 then ((spoorref19_Same.f k t283 t287).bind fun t294 => (if t294 = true then (some (t286 == t290)) else (none))) else (none)) else (none))) else (none)) = some r := by rw [if_pos rfl] at H; exact H
    clear H
    have H := H1
    clear H1
    by_cases c16 : t268 = t272
    ·rw [if_pos c16] at H
     have c16b0 : (t268 == t272) = true := beq_iff_eq.mpr c16
     have c16b1 : (t268 != t272) = false := bne_eq_false_iff_eq.mpr c16
     clear c16
     replace H := Option.bind_eq_some_iff.mp H
     obtain ⟨t293, A170, H⟩ := H
     replace H : (if t293 = true then (if t276 = t280 then ((spoorref19_Same.f k t283 t287).bind fun t294 => (if t294 = true then (some (t286 == t290)) else (none))) else (none)) else (none)) = some r := H
     have A17 := Ax A170
     clear A170
     by_cases c18 : t293 = true
     ·subst c18
      have H1 : (if t276 = t280 then ((spoorref19_Same.f k t283 t287).bind fun t294 => (if t294 = true then (some (t286 == t290)) else (none))) else (none)) = some r := by rw [if_pos rfl] at H; exact H
      clear H
      have H := H1
      clear H1
      by_cases c19 : t276 = t280
      ·rw [if_pos c19] at H
       have c19b0 : (t276 == t280) = true := beq_iff_eq.mpr c19
       have c19b1 : (t276 != t280) = false := bne_eq_false_iff_eq.mpr c19
       clear c19
       replace H := Option.bind_eq_some_iff.mp H
       obtain ⟨t294, A200, H⟩ := H
       replace H : (if t294 = true then (some (t286 == t290)) else (none)) = some r := H
       have A20 := Ax A200
       clear A200
       by_cases c21 : t294 = true
       ·subst c21
        have H1 : (some (t286 == t290)) = some r := by rw [if_pos rfl] at H; exact H
        clear H
        have H := H1
        clear H1
        obtain rfl := Option.some.inj H
        go_enter Try.func4, Try.ntmps4
        go_wp2_with (first | ((with_reducible refine gate_dst (N := 5) rfl ?_); refine box_event ?hg (N := 5) ?hd (cs := #[.int .i64 a2_0, .int .i64 a2_1]) (t := 36) ?hr ?_; (case hd => rfl); (case hg => rfl); (case hr => first | (go_simp; done) | (go_simp; rfl)); intro gb264 hg w22 hbox hb; have n0_ := Bs0 HB hb; have n1_ := Ax (hbox); have n2_ := Gw0 HB hg; have n3_ := Gw0 HB hg; clear HB; have HB := n0_; have BK264 := n1_; have GW264 := n2_; have GE264 := n3_; clear n0_ n1_ n2_ n3_; clear hb hbox hg) | (go_at_call 8; refine (spoorlaw19_few.calls2 k _ _ l0 _ _ l1 true _ ?side1 ?side2 ?side3 ?side4 A4.out).mono ?_; (case side1 => repeat (first | exact (Kd.C_below HR0.out HB.out) | (with_reducible refine Kd.C_alloc ?_ _) | (with_reducible refine Kd.C_drewN ?_ _) | (with_reducible refine Kd.C_drew ?_))); (case side2 => exact HC0.out); (case side3 => repeat (first | exact (Kd.C_below HR1.out HB.out) | (with_reducible refine Kd.C_alloc ?_ _) | (with_reducible refine Kd.C_drewN ?_ _) | (with_reducible refine Kd.C_drew ?_))); (case side4 => exact HC1.out); rintro e w23 ⟨rfl, hb⟩; replace BK264 := Bx0 BK264 hb; replace HB := Bs1 HB hb GE264.out; (try clear hb)) | ((with_reducible refine gate_callee (f := 19) rfl ?_); refine goesL_ (some 28) rfl rfl Try.func19 (by kernel_rfl) rfl #[.slice A0 l0.length c0, .slice A1 l1.length c1] rfl gS ?_; (with_reducible refine (ivl_Or.calls k _ _ l0 _ _ l1 t267 t268 _ ?side1 ?side2 ?side3 ?side4 A6.out).mono ?_); (case side1 => repeat (first | exact (Kd.C_below HR0.out HB.out) | (with_reducible refine Kd.C_alloc ?_ _) | (with_reducible refine Kd.C_drewN ?_ _) | (with_reducible refine Kd.C_drew ?_))); (case side2 => exact HC0.out); (case side3 => repeat (first | exact (Kd.C_below HR1.out HB.out) | (with_reducible refine Kd.C_alloc ?_ _) | (with_reducible refine Kd.C_drewN ?_ _) | (with_reducible refine Kd.C_drew ?_))); (case side4 => exact HC1.out); rintro e w24 ⟨v269, rfl, ho0, hb⟩; refine ⟨_, rfl, ?_⟩; have HO270 := Ax (Kd.R_lower (Kd.R_newB ho0 (g := gb264) (o := .cells #[.int .i64 a2_0, .int .i64 a2_1] 36 (0, 0)) (bf0 BK264.out)) (below_size (bw1 HB.out GE264.out))); replace BK264 := Bx0 BK264 hb; replace HB := Bs1 HB hb GE264.out; (try clear hb); (try clear ho0)) | ((with_reducible refine gate_callee (f := 20) rfl ?_); refine goesL_ (some 34) rfl rfl Try.func20 (by kernel_rfl) rfl #[.slice A0 l0.length c0, .slice A1 l1.length c1] rfl gS ?_; (with_reducible refine (spoorref19_Or.calls k _ _ l0 _ _ l1 t271 t272 _ ?side1 ?side2 ?side3 ?side4 A7.out).mono ?_); (case side1 => repeat (first | exact (Kd.C_below HR0.out HB.out) | (with_reducible refine Kd.C_alloc ?_ _) | (with_reducible refine Kd.C_drewN ?_ _) | (with_reducible refine Kd.C_drew ?_))); (case side2 => exact HC0.out); (case side3 => repeat (first | exact (Kd.C_below HR1.out HB.out) | (with_reducible refine Kd.C_alloc ?_ _) | (with_reducible refine Kd.C_drewN ?_ _) | (with_reducible refine Kd.C_drew ?_))); (case side4 => exact HC1.out); rintro e w25 ⟨v273, rfl, ho0, hb⟩; refine ⟨_, rfl, ?_⟩; have n0_ := Ax (Kd.R_elder' (by (with_reducible repeat (first | apply Kd.R_alloc | apply Kd.R_drewN | apply Kd.R_drew)); exact HO270.out) (Kd.R_base ho0) hb); have n1_ := Ax (Kd.R_lower (Kd.R_newB (Kd.R_new' ho0 (Kd.R_lt (by (with_reducible repeat (first | apply Kd.R_alloc | apply Kd.R_drewN | apply Kd.R_drew)); exact HO270.out))) (g := gb264) (o := .cells #[.int .i64 a2_0, .int .i64 a2_1] 36 (0, 0)) (bf0 BK264.out)) (below_size (bw1 HB.out GE264.out))); have n2_ := Bx0 BK264 hb; have n3_ := Bs1 HB hb GE264.out; clear HO270; clear BK264; clear HB; have HO270 := n0_; have HO274 := n1_; have BK264 := n2_; have HB := n3_; clear n0_ n1_ n2_ n3_; (try clear hb); (try clear ho0)) | ((with_reducible refine gate_callee (f := 21) rfl ?_); refine goesL_ (some 40) rfl rfl Try.func21 (by kernel_rfl) rfl #[.slice A0 l0.length c0, .slice A1 l1.length c1] rfl gS ?_; (with_reducible refine (ivl_And.calls k _ _ l0 _ _ l1 t275 t276 _ ?side1 ?side2 ?side3 ?side4 A8.out).mono ?_); (case side1 => repeat (first | exact (Kd.C_below HR0.out HB.out) | (with_reducible refine Kd.C_alloc ?_ _) | (with_reducible refine Kd.C_drewN ?_ _) | (with_reducible refine Kd.C_drew ?_))); (case side2 => exact HC0.out); (case side3 => repeat (first | exact (Kd.C_below HR1.out HB.out) | (with_reducible refine Kd.C_alloc ?_ _) | (with_reducible refine Kd.C_drewN ?_ _) | (with_reducible refine Kd.C_drew ?_))); (case side4 => exact HC1.out); rintro e w26 ⟨v277, rfl, ho0, hb⟩; refine ⟨_, rfl, ?_⟩; have n0_ := Ax (Kd.R_elder' (by (with_reducible repeat (first | apply Kd.R_alloc | apply Kd.R_drewN | apply Kd.R_drew)); exact HO270.out) (Kd.R_base ho0) hb); have n1_ := Ax (Kd.R_elder' (by (with_reducible repeat (first | apply Kd.R_alloc | apply Kd.R_drewN | apply Kd.R_drew)); exact HO274.out) (Kd.R_base ho0) hb); have n2_ := Ax (Kd.R_lower (Kd.R_newB (Kd.R_new' (Kd.R_new' ho0 (Kd.R_lt (by (with_reducible repeat (first | apply Kd.R_alloc | apply Kd.R_drewN | apply Kd.R_drew)); exact HO270.out))) (Kd.R_lt (by (with_reducible repeat (first | apply Kd.R_alloc | apply Kd.R_drewN | apply Kd.R_drew)); exact HO274.out))) (g := gb264) (o := .cells #[.int .i64 a2_0, .int .i64 a2_1] 36 (0, 0)) (bf0 BK264.out)) (below_size (bw1 HB.out GE264.out))); have n3_ := Bx0 BK264 hb; have n4_ := Bs1 HB hb GE264.out; clear HO270; clear HO274; clear BK264; clear HB; have HO270 := n0_; have HO274 := n1_; have HO278 := n2_; have BK264 := n3_; have HB := n4_; clear n0_ n1_ n2_ n3_ n4_; (try clear hb); (try clear ho0)) | ((with_reducible refine gate_callee (f := 22) rfl ?_); refine goesL_ (some 46) rfl rfl Try.func22 (by kernel_rfl) rfl #[.slice A0 l0.length c0, .slice A1 l1.length c1] rfl gS ?_; (with_reducible refine (spoorref19_And.calls k _ _ l0 _ _ l1 t279 t280 _ ?side1 ?side2 ?side3 ?side4 A9.out).mono ?_); (case side1 => repeat (first | exact (Kd.C_below HR0.out HB.out) | (with_reducible refine Kd.C_alloc ?_ _) | (with_reducible refine Kd.C_drewN ?_ _) | (with_reducible refine Kd.C_drew ?_))); (case side2 => exact HC0.out); (case side3 => repeat (first | exact (Kd.C_below HR1.out HB.out) | (with_reducible refine Kd.C_alloc ?_ _) | (with_reducible refine Kd.C_drewN ?_ _) | (with_reducible refine Kd.C_drew ?_))); (case side4 => exact HC1.out); rintro e w27 ⟨v281, rfl, ho0, hb⟩; refine ⟨_, rfl, ?_⟩; have n0_ := Ax (Kd.R_elder' (by (with_reducible repeat (first | apply Kd.R_alloc | apply Kd.R_drewN | apply Kd.R_drew)); exact HO270.out) (Kd.R_base ho0) hb); have n1_ := Ax (Kd.R_elder' (by (with_reducible repeat (first | apply Kd.R_alloc | apply Kd.R_drewN | apply Kd.R_drew)); exact HO274.out) (Kd.R_base ho0) hb); have n2_ := Ax (Kd.R_elder' (by (with_reducible repeat (first | apply Kd.R_alloc | apply Kd.R_drewN | apply Kd.R_drew)); exact HO278.out) (Kd.R_base ho0) hb); have n3_ := Ax (Kd.R_lower (Kd.R_newB (Kd.R_new' (Kd.R_new' (Kd.R_new' ho0 (Kd.R_lt (by (with_reducible repeat (first | apply Kd.R_alloc | apply Kd.R_drewN | apply Kd.R_drew)); exact HO270.out))) (Kd.R_lt (by (with_reducible repeat (first | apply Kd.R_alloc | apply Kd.R_drewN | apply Kd.R_drew)); exact HO274.out))) (Kd.R_lt (by (with_reducible repeat (first | apply Kd.R_alloc | apply Kd.R_drewN | apply Kd.R_drew)); exact HO278.out))) (g := gb264) (o := .cells #[.int .i64 a2_0, .int .i64 a2_1] 36 (0, 0)) (bf0 BK264.out)) (below_size (bw1 HB.out GE264.out))); have n4_ := Bx0 BK264 hb; have n5_ := Bs1 HB hb GE264.out; clear HO270; clear HO274; clear HO278; clear BK264; clear HB; have HO270 := n0_; have HO274 := n1_; have HO278 := n2_; have HO282 := n3_; have BK264 := n4_; have HB := n5_; clear n0_ n1_ n2_ n3_ n4_ n5_; (try clear hb); (try clear ho0); obtain ⟨hcz28_0, hcz28_1, hfz28_0, hfz28_1⟩ := cl2 BK264) | ((with_reducible refine gate_callee (f := 23) rfl ?_); refine goesL_ (some 52) rfl rfl Try.func23 (by kernel_rfl) rfl #[.slice A0 l0.length c0, .agg #[.int .i64 a2_0, .int .i64 a2_1]] rfl gS ?_; (with_reducible refine (ivl_Not.calls k _ _ l0 a2_0 a2_1 t283 t286 _ ?side1 ?side2 A10.out).mono ?_); (case side1 => repeat (first | exact (Kd.C_below HR0.out HB.out) | (with_reducible refine Kd.C_alloc ?_ _) | (with_reducible refine Kd.C_drewN ?_ _) | (with_reducible refine Kd.C_drew ?_))); (case side2 => exact HC0.out); rintro e w29 ⟨v284, rfl, ho0, hb⟩; refine ⟨_, rfl, ?_⟩; have n0_ := Ax (Kd.R_elder' (by (with_reducible repeat (first | apply Kd.R_alloc | apply Kd.R_drewN | apply Kd.R_drew)); exact HO270.out) (Kd.R_base ho0) hb); have n1_ := Ax (Kd.R_elder' (by (with_reducible repeat (first | apply Kd.R_alloc | apply Kd.R_drewN | apply Kd.R_drew)); exact HO274.out) (Kd.R_base ho0) hb); have n2_ := Ax (Kd.R_elder' (by (with_reducible repeat (first | apply Kd.R_alloc | apply Kd.R_drewN | apply Kd.R_drew)); exact HO278.out) (Kd.R_base ho0) hb); have n3_ := Ax (Kd.R_elder' (by (with_reducible repeat (first | apply Kd.R_alloc | apply Kd.R_drewN | apply Kd.R_drew)); exact HO282.out) (Kd.R_base ho0) hb); have n4_ := Ax (Kd.R_lower (Kd.R_newB (Kd.R_new' (Kd.R_new' (Kd.R_new' (Kd.R_new' ho0 (Kd.R_lt (by (with_reducible repeat (first | apply Kd.R_alloc | apply Kd.R_drewN | apply Kd.R_drew)); exact HO270.out))) (Kd.R_lt (by (with_reducible repeat (first | apply Kd.R_alloc | apply Kd.R_drewN | apply Kd.R_drew)); exact HO274.out))) (Kd.R_lt (by (with_reducible repeat (first | apply Kd.R_alloc | apply Kd.R_drewN | apply Kd.R_drew)); exact HO278.out))) (Kd.R_lt (by (with_reducible repeat (first | apply Kd.R_alloc | apply Kd.R_drewN | apply Kd.R_drew)); exact HO282.out))) (g := gb264) (o := .cells #[.int .i64 a2_0, .int .i64 a2_1] 36 (0, 0)) (bf0 BK264.out)) (below_size (bw1 HB.out GE264.out))); have n5_ := Bx0 BK264 hb; have n6_ := Bs1 HB hb GE264.out; clear HO270; clear HO274; clear HO278; clear HO282; clear BK264; clear HB; have HO270 := n0_; have HO274 := n1_; have HO278 := n2_; have HO282 := n3_; have HO285 := n4_; have BK264 := n5_; have HB := n6_; clear n0_ n1_ n2_ n3_ n4_ n5_ n6_; (try clear hb); (try clear ho0); obtain ⟨hcz30_0, hcz30_1, hfz30_0, hfz30_1⟩ := cl2 BK264) | ((with_reducible refine gate_callee (f := 24) rfl ?_); refine goesL_ (some 58) rfl rfl Try.func24 (by kernel_rfl) rfl #[.slice A0 l0.length c0, .agg #[.int .i64 a2_0, .int .i64 a2_1]] rfl gS ?_; (with_reducible refine (spoorref19_Not.calls k _ _ l0 a2_0 a2_1 t287 t290 _ ?side1 ?side2 A11.out).mono ?_); (case side1 => repeat (first | exact (Kd.C_below HR0.out HB.out) | (with_reducible refine Kd.C_alloc ?_ _) | (with_reducible refine Kd.C_drewN ?_ _) | (with_reducible refine Kd.C_drew ?_))); (case side2 => exact HC0.out); rintro e w31 ⟨v288, rfl, ho0, hb⟩; refine ⟨_, rfl, ?_⟩; have n0_ := Ax (Kd.R_elder' (by (with_reducible repeat (first | apply Kd.R_alloc | apply Kd.R_drewN | apply Kd.R_drew)); exact HO270.out) (Kd.R_base ho0) hb); have n1_ := Ax (Kd.R_elder' (by (with_reducible repeat (first | apply Kd.R_alloc | apply Kd.R_drewN | apply Kd.R_drew)); exact HO274.out) (Kd.R_base ho0) hb); have n2_ := Ax (Kd.R_elder' (by (with_reducible repeat (first | apply Kd.R_alloc | apply Kd.R_drewN | apply Kd.R_drew)); exact HO278.out) (Kd.R_base ho0) hb); have n3_ := Ax (Kd.R_elder' (by (with_reducible repeat (first | apply Kd.R_alloc | apply Kd.R_drewN | apply Kd.R_drew)); exact HO282.out) (Kd.R_base ho0) hb); have n4_ := Ax (Kd.R_elder' (by (with_reducible repeat (first | apply Kd.R_alloc | apply Kd.R_drewN | apply Kd.R_drew)); exact HO285.out) (Kd.R_base ho0) hb); have n5_ := Ax (Kd.R_lower (Kd.R_newB (Kd.R_new' (Kd.R_new' (Kd.R_new' (Kd.R_new' (Kd.R_new' ho0 (Kd.R_lt (by (with_reducible repeat (first | apply Kd.R_alloc | apply Kd.R_drewN | apply Kd.R_drew)); exact HO270.out))) (Kd.R_lt (by (with_reducible repeat (first | apply Kd.R_alloc | apply Kd.R_drewN | apply Kd.R_drew)); exact HO274.out))) (Kd.R_lt (by (with_reducible repeat (first | apply Kd.R_alloc | apply Kd.R_drewN | apply Kd.R_drew)); exact HO278.out))) (Kd.R_lt (by (with_reducible repeat (first | apply Kd.R_alloc | apply Kd.R_drewN | apply Kd.R_drew)); exact HO282.out))) (Kd.R_lt (by (with_reducible repeat (first | apply Kd.R_alloc | apply Kd.R_drewN | apply Kd.R_drew)); exact HO285.out))) (g := gb264) (o := .cells #[.int .i64 a2_0, .int .i64 a2_1] 36 (0, 0)) (bf0 BK264.out)) (below_size (bw1 HB.out GE264.out))); have n6_ := Bx0 BK264 hb; have n7_ := Bs1 HB hb GE264.out; clear HO270; clear HO274; clear HO278; clear HO282; clear HO285; clear BK264; clear HB; have HO270 := n0_; have HO274 := n1_; have HO278 := n2_; have HO282 := n3_; have HO285 := n4_; have HO289 := n5_; have BK264 := n6_; have HB := n7_; clear n0_ n1_ n2_ n3_ n4_ n5_ n6_ n7_; (try clear hb); (try clear ho0)) | ((with_reducible refine gate_callee (f := 9) rfl ?_); refine goesL_ (some 61) rfl rfl Try.func9 (by kernel_rfl) rfl #[] rfl gS ?_; (with_reducible refine (spoorlaw19_lives.calls k  true _ A12.out).mono ?_); rintro e w32 ⟨rfl, hb⟩; refine ⟨_, rfl, ?_⟩; have n0_ := Ax (Kd.R_below (by (with_reducible repeat (first | apply Kd.R_alloc | apply Kd.R_drewN | apply Kd.R_drew)); exact HO270.out) hb); have n1_ := Ax (Kd.R_below (by (with_reducible repeat (first | apply Kd.R_alloc | apply Kd.R_drewN | apply Kd.R_drew)); exact HO274.out) hb); have n2_ := Ax (Kd.R_below (by (with_reducible repeat (first | apply Kd.R_alloc | apply Kd.R_drewN | apply Kd.R_drew)); exact HO278.out) hb); have n3_ := Ax (Kd.R_below (by (with_reducible repeat (first | apply Kd.R_alloc | apply Kd.R_drewN | apply Kd.R_drew)); exact HO282.out) hb); have n4_ := Ax (Kd.R_below (by (with_reducible repeat (first | apply Kd.R_alloc | apply Kd.R_drewN | apply Kd.R_drew)); exact HO285.out) hb); have n5_ := Ax (Kd.R_below (by (with_reducible repeat (first | apply Kd.R_alloc | apply Kd.R_drewN | apply Kd.R_drew)); exact HO289.out) hb); have n6_ := Bx0 BK264 hb; have n7_ := Bs1 HB hb GE264.out; clear HO270; clear HO274; clear HO278; clear HO282; clear HO285; clear HO289; clear BK264; clear HB; have HO270 := n0_; have HO274 := n1_; have HO278 := n2_; have HO282 := n3_; have HO285 := n4_; have HO289 := n5_; have BK264 := n6_; have HB := n7_; clear n0_ n1_ n2_ n3_ n4_ n5_ n6_ n7_; (try clear hb); obtain ⟨Ao33, co33, eo33⟩ := Kd.R_slice HO270.out; subst eo33; obtain ⟨Ao34, co34, eo34⟩ := Kd.R_slice HO274.out; subst eo34) | (go_at_call 16; (with_reducible refine (spoorref19_Same.calls k _ _ t267 _ _ t271 true _ ?side1 ?side2 ?side3 ?side4 A14.out).mono ?_); (case side1 => repeat (first | exact (Kd.R_reads' HO270.out).2.2 | (with_reducible refine Kd.C_alloc ?_ _) | (with_reducible refine Kd.C_drewN ?_ _) | (with_reducible refine Kd.C_drew ?_))); (case side2 => exact (Kd.R_reads' HO270.out).2.1); (case side3 => repeat (first | exact (Kd.R_reads' HO274.out).2.2 | (with_reducible refine Kd.C_alloc ?_ _) | (with_reducible refine Kd.C_drewN ?_ _) | (with_reducible refine Kd.C_drew ?_))); (case side4 => exact (Kd.R_reads' HO274.out).2.1); rintro e w' ⟨rfl, ⟨nd, rfl⟩⟩; obtain ⟨Ao35, co35, eo35⟩ := Kd.R_slice HO278.out; subst eo35; obtain ⟨Ao36, co36, eo36⟩ := Kd.R_slice HO282.out; subst eo36) | (go_at_call 16; (with_reducible refine (spoorref19_Same.calls k _ _ t275 _ _ t279 true _ ?side1 ?side2 ?side3 ?side4 A17.out).mono ?_); (case side1 => repeat (first | exact (Kd.R_reads' HO278.out).2.2 | (with_reducible refine Kd.C_alloc ?_ _) | (with_reducible refine Kd.C_drewN ?_ _) | (with_reducible refine Kd.C_drew ?_))); (case side2 => exact (Kd.R_reads' HO278.out).2.1); (case side3 => repeat (first | exact (Kd.R_reads' HO282.out).2.2 | (with_reducible refine Kd.C_alloc ?_ _) | (with_reducible refine Kd.C_drewN ?_ _) | (with_reducible refine Kd.C_drew ?_))); (case side4 => exact (Kd.R_reads' HO282.out).2.1); rintro e w' ⟨rfl, ⟨nd, rfl⟩⟩; obtain ⟨Ao37, co37, eo37⟩ := Kd.R_slice HO285.out; subst eo37; obtain ⟨Ao38, co38, eo38⟩ := Kd.R_slice HO289.out; subst eo38) | (go_at_call 16; (with_reducible refine (spoorref19_Same.calls k _ _ t283 _ _ t287 true _ ?side1 ?side2 ?side3 ?side4 A20.out).mono ?_); (case side1 => repeat (first | exact (Kd.R_reads' HO285.out).2.2 | (with_reducible refine Kd.C_alloc ?_ _) | (with_reducible refine Kd.C_drewN ?_ _) | (with_reducible refine Kd.C_drew ?_))); (case side2 => exact (Kd.R_reads' HO285.out).2.1); (case side3 => repeat (first | exact (Kd.R_reads' HO289.out).2.2 | (with_reducible refine Kd.C_alloc ?_ _) | (with_reducible refine Kd.C_drewN ?_ _) | (with_reducible refine Kd.C_drew ?_))); (case side4 => exact (Kd.R_reads' HO289.out).2.1); rintro e w' ⟨rfl, ⟨nd, rfl⟩⟩))
        go_ret
        exact ⟨eS, bw1 HB.out GE264.out⟩
       ·replace c21 := Bool.eq_false_iff.mpr c21
        subst c21
        have H1 : (none) = some r := by rw [if_neg (show ¬ (false = true) by decide)] at H; exact H
        clear H
        have H := H1
        clear H1
        exact absurd H (by simp)
      ·rw [if_neg c19] at H
       exact absurd H (by simp)
     ·replace c18 := Bool.eq_false_iff.mpr c18
      subst c18
      have H1 : (none) = some r := by rw [if_neg (show ¬ (false = true) by decide)] at H; exact H
      clear H
      have H := H1
      clear H1
      exact absurd H (by simp)
    ·rw [if_neg c16] at H
     exact absurd H (by simp)
   ·replace c15 := Bool.eq_false_iff.mpr c15
    subst c15
    have H1 : (none) = some r := by rw [if_neg (show ¬ (false = true) by decide)] at H; exact H
    clear H
    have H := H1
    clear H1
    exact absurd H (by simp)
  ·replace c13 := Bool.eq_false_iff.mpr c13
   subst c13
   have H1 : (none) = some r := by rw [if_neg (show ¬ (false = true) by decide)] at H; exact H
   clear H
   have H := H1
   clear H1
   exact absurd H (by simp)
 ·replace c5 := Bool.eq_false_iff.mpr c5
  subst c5
  have H1 : ((spoorlaw19_lives.f k).bind fun t266 => (some t266)) = some r := by rw [if_neg (show ¬ (false = true) by decide)] at H; exact H
  clear H
  have H := H1
  clear H1
  replace H := Option.bind_eq_some_iff.mp H
  obtain ⟨t266, A390, H⟩ := H
  replace H : (some t266) = some r := H
  have A39 := Ax A390
  clear A390
  obtain rfl := Option.some.inj H
  go_enter Try.func4, Try.ntmps4
  go_wp2_with (first | ((with_reducible refine gate_dst (N := 5) rfl ?_); refine box_event ?hg (N := 5) ?hd (cs := #[.int .i64 a2_0, .int .i64 a2_1]) (t := 36) ?hr ?_; (case hd => rfl); (case hg => rfl); (case hr => first | (go_simp; done) | (go_simp; rfl)); intro gb264 hg w40 hbox hb; have n0_ := Bs0 HB hb; have n1_ := Ax (hbox); have n2_ := Gw0 HB hg; have n3_ := Gw0 HB hg; clear HB; have HB := n0_; have BK264 := n1_; have GW264 := n2_; have GE264 := n3_; clear n0_ n1_ n2_ n3_; clear hb hbox hg) | (go_at_call 8; refine (spoorlaw19_few.calls2 k _ _ l0 _ _ l1 false _ ?side1 ?side2 ?side3 ?side4 A4.out).mono ?_; (case side1 => repeat (first | exact (Kd.C_below HR0.out HB.out) | (with_reducible refine Kd.C_alloc ?_ _) | (with_reducible refine Kd.C_drewN ?_ _) | (with_reducible refine Kd.C_drew ?_))); (case side2 => exact HC0.out); (case side3 => repeat (first | exact (Kd.C_below HR1.out HB.out) | (with_reducible refine Kd.C_alloc ?_ _) | (with_reducible refine Kd.C_drewN ?_ _) | (with_reducible refine Kd.C_drew ?_))); (case side4 => exact HC1.out); rintro e w41 ⟨rfl, hb⟩; replace BK264 := Bx0 BK264 hb; replace HB := Bs1 HB hb GE264.out; (try clear hb)) | ((with_reducible refine gate_callee (f := 9) rfl ?_); refine goesL_ (some 24) rfl rfl Try.func9 (by kernel_rfl) rfl #[] rfl gS ?_; (with_reducible refine (spoorlaw19_lives.calls k  t266 _ A39.out).mono ?_); rintro e w42 ⟨rfl, hb⟩; refine ⟨_, rfl, ?_⟩; replace BK264 := Bx0 BK264 hb; replace HB := Bs1 HB hb GE264.out; (try clear hb)))
  go_ret
  exact ⟨eS, bw1 HB.out GE264.out⟩
def spoorlaw19_IvlHas.j0 : Nat → List (S36) → List (S36) → Int → Bool → Int → Int → Option (Bool)
 | 0, _, _, _, _, _, _ => none
 | k + 1, x0, x1, x3, x44, x296000, x296001 => if x44 = true then (some true) else ((ivl_Has.f k x0 x3).bind fun bt299 => ((ivl_Has.f k x1 x3).bind fun bt301 => ((ivl_Or.f k x0 x1).bind fun bt303 => ((ivl_And.f k x0 x1).bind fun bt307 => ((ivl_Not.f k x0 x296000 x296001).bind fun bt311 => ((ivl_Has.f k bt303.1 x3).bind fun bt315 => ((ivl_Has.f k bt307.1 x3).bind fun bt317 => ((ivl_Has.f k bt311.1 x3).bind fun bt319 => (if bt303.2 = 0 then (if bt307.2 = 0 then (if bt315.2 = 0 then (if bt317.2 = 0 then (if bt299.1 = true then (if (bt315.1 != true) = true then (none) else (if (bt317.1 != bt301.1) = true then (none) else (if bt311.2 = 2 then (some true) else (if bt311.2 = 0 then (if bt319.2 = 0 then (some (bt319.1 == false)) else (none)) else (none))))) else (if (bt315.1 != bt301.1) = true then (none) else (if (bt317.1 != false) = true then (none) else (if bt311.2 = 2 then (some true) else (if bt311.2 = 0 then (if bt319.2 = 0 then (if x296000 ≤ x3 then (some (bt319.1 == (decide (x3 ≤ x296001)))) else (some (bt319.1 == false))) else (none)) else (none)))))) else (none)) else (none)) else (none)) else (none))))))))))
def spoorlaw19_IvlHas.f (k : Nat) (l0 : List (S36)) (l1 : List (S36)) (a2_0 : Int) (a2_1 : Int) (a3 : Int) : Option (Bool) := (spoorlaw19_lives.f k).bind fun t296 => (if t296 = true then ((ivl_Check.f k l0).bind fun t297 => (if t297 = 0 then ((ivl_Check.f k l1).bind fun t298 => (if t298 = 0 then (if (l0.length : Int) > 400 then (spoorlaw19_IvlHas.j0 k l0 l1 a3 true a2_0 a2_1) else (spoorlaw19_IvlHas.j0 k l0 l1 a3 (decide ((l1.length : Int) > 400)) a2_0 a2_1)) else (spoorlaw19_IvlHas.j0 k l0 l1 a3 true a2_0 a2_1))) else (spoorlaw19_IvlHas.j0 k l0 l1 a3 true a2_0 a2_1))) else (none))
set_option maxHeartbeats 8000000 in
set_option maxRecDepth 100000 in
theorem spoorlaw19_IvlHas.calls (k : Nat) (A0 : Option Addr) (c0 : Nat) (l0 : List (S36)) (A1 : Option Addr) (c1 : Nat) (l1 : List (S36)) (a2_0 : Int) (a2_1 : Int) (a3 : Int) (r : Bool) (w : World) (hr0 : Kd.C k36 w A0 l0.length l0) (hc0 : l0.length ≤ c0) (hr1 : Kd.C k36 w A1 l1.length l1) (hc1 : l1.length ≤ c1) (h : spoorlaw19_IvlHas.f k l0 l1 a2_0 a2_1 a3 = some r) :
  Calls Try.prog 5 #[.slice A0 l0.length c0, .slice A1 l1.length c1, .agg #[.int .i64 a2_0, .int .i64 a2_1], .int .i64 a3] w fun e w' => e = .returned (.bool r) ∧ Below w.heap.size w w' := by
 have hu36 := Try.underlying36
 have HR0 := Ax hr0
 have HC0 := Ax hc0
 clear hr0 hc0
 have HR1 := Ax hr1
 have HC1 := Ax hc1
 clear hr1 hc1
 have HB := Ax (Below.refl w.heap.size w)
 have H : ((spoorlaw19_lives.f k).bind fun t296 => (if t296 = true then ((ivl_Check.f k l0).bind fun t297 => (if t297 = 0 then ((ivl_Check.f k l1).bind fun t298 => (if t298 = 0 then (if (l0.length : Int) > 400 then (spoorlaw19_IvlHas.j0 k l0 l1 a3 true a2_0 a2_1) else (spoorlaw19_IvlHas.j0 k l0 l1 a3 (decide ((l1.length : Int) > 400)) a2_0 a2_1)) else (spoorlaw19_IvlHas.j0 k l0 l1 a3 true a2_0 a2_1))) else (spoorlaw19_IvlHas.j0 k l0 l1 a3 true a2_0 a2_1))) else (none))) = some r := h
 clear h
 replace H := Option.bind_eq_some_iff.mp H
 obtain ⟨t296, A50, H⟩ := H
 replace H : (if t296 = true then ((ivl_Check.f k l0).bind fun t297 => (if t297 = 0 then ((ivl_Check.f k l1).bind fun t298 => (if t298 = 0 then (if (l0.length : Int) > 400 then (spoorlaw19_IvlHas.j0 k l0 l1 a3 true a2_0 a2_1) else (spoorlaw19_IvlHas.j0 k l0 l1 a3 (decide ((l1.length : Int) > 400)) a2_0 a2_1)) else (spoorlaw19_IvlHas.j0 k l0 l1 a3 true a2_0 a2_1))) else (spoorlaw19_IvlHas.j0 k l0 l1 a3 true a2_0 a2_1))) else (none)) = some r := H
 have A5 := Ax A50
 clear A50
 by_cases c6 : t296 = true
 ·subst c6
  have H1 : ((ivl_Check.f k l0).bind fun t297 => (if t297 = 0 then ((ivl_Check.f k l1).bind fun t298 => (if t298 = 0 then (if (l0.length : Int) > 400 then (spoorlaw19_IvlHas.j0 k l0 l1 a3 true a2_0 a2_1) else (spoorlaw19_IvlHas.j0 k l0 l1 a3 (decide ((l1.length : Int) > 400)) a2_0 a2_1)) else (spoorlaw19_IvlHas.j0 k l0 l1 a3 true a2_0 a2_1))) else (spoorlaw19_IvlHas.j0 k l0 l1 a3 true a2_0 a2_1))) = some r := by rw [if_pos rfl] at H; exact H
  clear H
  have H := H1
  clear H1
  have HC7 := Ax H
  clear H
  go_enter Try.func5, Try.ntmps5
  go_upto_region 3 with (first | ((with_reducible refine gate_dst (N := 6) rfl ?_); refine box_event ?hg (N := 6) ?hd (cs := #[.int .i64 a2_0, .int .i64 a2_1]) (t := 36) ?hr ?_; (case hd => rfl); (case hg => rfl); (case hr => first | (go_simp; done) | (go_simp; rfl)); intro gb295 hg w8 hbox hb; have n0_ := Bs0 HB hb; have n1_ := Ax (hbox); have n2_ := Gw0 HB hg; have n3_ := Gw0 HB hg; clear HB; have HB := n0_; have BK295 := n1_; have GW295 := n2_; have GE295 := n3_; clear n0_ n1_ n2_ n3_; clear hb hbox hg) | ((with_reducible refine gate_callee (f := 9) rfl ?_); refine goesL_ (some 25) rfl rfl Try.func9 (by kernel_rfl) rfl #[] rfl gS ?_; (with_reducible refine (spoorlaw19_lives.calls k  true _ A5.out).mono ?_); rintro e w9 ⟨rfl, hb⟩; refine ⟨_, rfl, ?_⟩; replace BK295 := Bx0 BK295 hb; replace HB := Bs1 HB hb GE295.out; (try clear hb)))
  (try simp only [Act.put, List.setIfInBounds_toArray, List.set_cons_zero, List.set_cons_succ])
  go_cut [44] (fun v44 wc => ∃ (kq : Nat) (x44_6 : Bool), v44 = .bool x44_6 ∧ Aside0 (spoorlaw19_IvlHas.j0 kq l0 l1 a3 x44_6 a2_0 a2_1 = some r) ∧ Aside0 (kq ≤ k) ∧ Aside0 (wc.heap[gb295]? = some (.cells #[.int .i64 a2_0, .int .i64 a2_1] 36 (0, 0))) ∧ Aside0 (Below w.heap.size w wc))
  case first =>
   have H := HC7.out
   clear HC7
   replace H := Option.bind_eq_some_iff.mp H
   obtain ⟨t297, A100, H⟩ := H
   replace H : (if t297 = 0 then ((ivl_Check.f k l1).bind fun t298 => (if t298 = 0 then (if (l0.length : Int) > 400 then (spoorlaw19_IvlHas.j0 k l0 l1 a3 true a2_0 a2_1) else (spoorlaw19_IvlHas.j0 k l0 l1 a3 (decide ((l1.length : Int) > 400)) a2_0 a2_1)) else (spoorlaw19_IvlHas.j0 k l0 l1 a3 true a2_0 a2_1))) else (spoorlaw19_IvlHas.j0 k l0 l1 a3 true a2_0 a2_1)) = some r := H
   have A10 := Ax A100
   clear A100
   by_cases c11 : t297 = 0
   ·rw [if_pos c11] at H
    have c11b0 : (t297 == 0) = true := beq_iff_eq.mpr c11
    have c11b1 : (t297 != 0) = false := bne_eq_false_iff_eq.mpr c11
    clear c11
    (first | rw [c11b0] | (simp only [i64_w, i32_w]; rw [c11b0]) | skip)
    replace H := Option.bind_eq_some_iff.mp H
    obtain ⟨t298, A120, H⟩ := H
    replace H : (if t298 = 0 then (if (l0.length : Int) > 400 then (spoorlaw19_IvlHas.j0 k l0 l1 a3 true a2_0 a2_1) else (spoorlaw19_IvlHas.j0 k l0 l1 a3 (decide ((l1.length : Int) > 400)) a2_0 a2_1)) else (spoorlaw19_IvlHas.j0 k l0 l1 a3 true a2_0 a2_1)) = some r := H
    have A12 := Ax A120
    clear A120
    by_cases c13 : t298 = 0
    ·rw [if_pos c13] at H
     have c13b0 : (t298 == 0) = true := beq_iff_eq.mpr c13
     have c13b1 : (t298 != 0) = false := bne_eq_false_iff_eq.mpr c13
     clear c13
     by_cases c14 : (l0.length : Int) > 400
     ·rw [if_pos c14] at H
      have c14b0 : decide (400 < (l0.length : Int)) = true := decide_eq_true c14
      have c14b1 : decide (400 < l0.length) = true := decide_eq_true (by omega)
      clear c14
      have H' := Ax H
      clear H
      go_wp2_with (first | ((with_reducible refine gate_callee (f := 17) rfl ?_); refine goesL_ (some 28) rfl rfl Try.func17 (by kernel_rfl) rfl #[.slice A0 l0.length c0] rfl gS ?_; (with_reducible refine (ivl_Check.calls k _ _ l0 t297 _ ?side1 ?side2 A10.out).mono ?_); (case side1 => repeat (first | exact (Kd.C_below HR0.out HB.out) | (with_reducible refine Kd.C_alloc ?_ _) | (with_reducible refine Kd.C_drewN ?_ _) | (with_reducible refine Kd.C_drew ?_))); (case side2 => exact HC0.out); rintro e w15 ⟨rfl, hb⟩; refine ⟨_, rfl, ?_⟩; replace BK295 := Bx0 BK295 hb; replace HB := Bs1 HB hb GE295.out; (try clear hb)) | (go_at_call 17; (with_reducible refine (ivl_Check.calls k _ _ l1 t298 _ ?side1 ?side2 A12.out).mono ?_); (case side1 => repeat (first | exact (Kd.C_below HR1.out HB.out) | (with_reducible refine Kd.C_alloc ?_ _) | (with_reducible refine Kd.C_drewN ?_ _) | (with_reducible refine Kd.C_drew ?_))); (case side2 => exact HC1.out); rintro e w16 ⟨rfl, hb⟩; replace BK295 := Bx0 BK295 hb; replace HB := Bs1 HB hb GE295.out; (try clear hb)))
      go_meet
      case rel => exact ⟨_, (true), rS, H', ⟨by first | omega | exact Nat.le_refl _⟩, ⟨bf0 BK295.out⟩, ⟨bw1 HB.out GE295.out⟩⟩
     ·rw [if_neg c14] at H
      have c14b0 : decide (400 < (l0.length : Int)) = false := decide_eq_false c14
      have c14b1 : decide (400 < l0.length) = false := decide_eq_false (by omega)
      clear c14
      have H' := Ax H
      clear H
      go_wp2_with (first | ((with_reducible refine gate_callee (f := 17) rfl ?_); refine goesL_ (some 28) rfl rfl Try.func17 (by kernel_rfl) rfl #[.slice A0 l0.length c0] rfl gS ?_; (with_reducible refine (ivl_Check.calls k _ _ l0 t297 _ ?side1 ?side2 A10.out).mono ?_); (case side1 => repeat (first | exact (Kd.C_below HR0.out HB.out) | (with_reducible refine Kd.C_alloc ?_ _) | (with_reducible refine Kd.C_drewN ?_ _) | (with_reducible refine Kd.C_drew ?_))); (case side2 => exact HC0.out); rintro e w17 ⟨rfl, hb⟩; refine ⟨_, rfl, ?_⟩; replace BK295 := Bx0 BK295 hb; replace HB := Bs1 HB hb GE295.out; (try clear hb)) | (go_at_call 17; (with_reducible refine (ivl_Check.calls k _ _ l1 t298 _ ?side1 ?side2 A12.out).mono ?_); (case side1 => repeat (first | exact (Kd.C_below HR1.out HB.out) | (with_reducible refine Kd.C_alloc ?_ _) | (with_reducible refine Kd.C_drewN ?_ _) | (with_reducible refine Kd.C_drew ?_))); (case side2 => exact HC1.out); rintro e w18 ⟨rfl, hb⟩; replace BK295 := Bx0 BK295 hb; replace HB := Bs1 HB hb GE295.out; (try clear hb)))
      go_meet
      case rel => exact ⟨_, (decide ((l1.length : Int) > 400)), rS, H', ⟨by first | omega | exact Nat.le_refl _⟩, ⟨bf0 BK295.out⟩, ⟨bw1 HB.out GE295.out⟩⟩
    ·rw [if_neg c13] at H
     have c13b0 : (t298 == 0) = false := beq_eq_false_iff_ne.mpr c13
     have c13b1 : (t298 != 0) = true := bne_iff_ne.mpr c13
     have H' := Ax H
     clear H
     go_wp2_with (first | ((with_reducible refine gate_callee (f := 17) rfl ?_); refine goesL_ (some 28) rfl rfl Try.func17 (by kernel_rfl) rfl #[.slice A0 l0.length c0] rfl gS ?_; (with_reducible refine (ivl_Check.calls k _ _ l0 t297 _ ?side1 ?side2 A10.out).mono ?_); (case side1 => repeat (first | exact (Kd.C_below HR0.out HB.out) | (with_reducible refine Kd.C_alloc ?_ _) | (with_reducible refine Kd.C_drewN ?_ _) | (with_reducible refine Kd.C_drew ?_))); (case side2 => exact HC0.out); rintro e w19 ⟨rfl, hb⟩; refine ⟨_, rfl, ?_⟩; replace BK295 := Bx0 BK295 hb; replace HB := Bs1 HB hb GE295.out; (try clear hb)) | (go_at_call 17; (with_reducible refine (ivl_Check.calls k _ _ l1 t298 _ ?side1 ?side2 A12.out).mono ?_); (case side1 => repeat (first | exact (Kd.C_below HR1.out HB.out) | (with_reducible refine Kd.C_alloc ?_ _) | (with_reducible refine Kd.C_drewN ?_ _) | (with_reducible refine Kd.C_drew ?_))); (case side2 => exact HC1.out); rintro e w20 ⟨rfl, hb⟩; replace BK295 := Bx0 BK295 hb; replace HB := Bs1 HB hb GE295.out; (try clear hb)))
     go_meet
     case rel => exact ⟨_, (true), rS, H', ⟨by first | omega | exact Nat.le_refl _⟩, ⟨bf0 BK295.out⟩, ⟨bw1 HB.out GE295.out⟩⟩
   ·rw [if_neg c11] at H
    have c11b0 : (t297 == 0) = false := beq_eq_false_iff_ne.mpr c11
    have c11b1 : (t297 != 0) = true := bne_iff_ne.mpr c11
    (first | rw [c11b0] | (simp only [i64_w, i32_w]; rw [c11b0]) | skip)
    have H' := Ax H
    clear H
    go_wp2_with (first | ((with_reducible refine gate_callee (f := 17) rfl ?_); refine goesL_ (some 28) rfl rfl Try.func17 (by kernel_rfl) rfl #[.slice A0 l0.length c0] rfl gS ?_; (with_reducible refine (ivl_Check.calls k _ _ l0 t297 _ ?side1 ?side2 A10.out).mono ?_); (case side1 => repeat (first | exact (Kd.C_below HR0.out HB.out) | (with_reducible refine Kd.C_alloc ?_ _) | (with_reducible refine Kd.C_drewN ?_ _) | (with_reducible refine Kd.C_drew ?_))); (case side2 => exact HC0.out); rintro e w21 ⟨rfl, hb⟩; refine ⟨_, rfl, ?_⟩; replace BK295 := Bx0 BK295 hb; replace HB := Bs1 HB hb GE295.out; (try clear hb)))
    go_meet
    case rel => exact ⟨_, (true), rS, H', ⟨by first | omega | exact Nat.le_refl _⟩, ⟨bf0 BK295.out⟩, ⟨bw1 HB.out GE295.out⟩⟩
  case rest =>
   clear HC7
   try clear c1
   try clear p2
   try clear c5
   try clear c6
   try clear c9
   try clear c11
   try clear c11b0
   try clear c11b1
   try clear c13
   try clear c13b0
   try clear c13b1
   try clear c14
   try clear c14b0
   try clear c14b1
   try clear c17
   obtain ⟨kq, x44_6, rfl, HA, HJ6, BK295, HB⟩ := hcut
   cases kq with
   | zero => exact absurd HA.out (by simp [spoorlaw19_IvlHas.j0])
   | succ kj6 =>
    have H := HA.out
    clear HA
    simp only [spoorlaw19_IvlHas.j0] at H
    by_cases c22 : x44_6 = true
    ·subst c22
     have H1 : (some true) = some r := by rw [if_pos rfl] at H; exact H
     clear H
     have H := H1
     clear H1
     obtain rfl := Option.some.inj H
     go_wp2
     go_ret
     exact ⟨eS, bw1 HB.out GE295.out⟩
    ·replace c22 := Bool.eq_false_iff.mpr c22
     subst c22
     have H1 : ((ivl_Has.f kj6 l0 a3).bind fun bt299 => ((ivl_Has.f kj6 l1 a3).bind fun bt301 => ((ivl_Or.f kj6 l0 l1).bind fun bt303 => ((ivl_And.f kj6 l0 l1).bind fun bt307 => ((ivl_Not.f kj6 l0 a2_0 a2_1).bind fun bt311 => ((ivl_Has.f kj6 bt303.1 a3).bind fun bt315 => ((ivl_Has.f kj6 bt307.1 a3).bind fun bt317 => ((ivl_Has.f kj6 bt311.1 a3).bind fun bt319 => (if bt303.2 = 0 then (if bt307.2 = 0 then (if bt315.2 = 0 then (if bt317.2 = 0 then (if bt299.1 = true then (if (bt315.1 != true) = true then (none) else (if (bt317.1 != bt301.1) = true then (none) else (if bt311.2 = 2 then (some true) else (if bt311.2 = 0 then (if bt319.2 = 0 then (some (bt319.1 == false)) else (none)) else (none))))) else (if (bt315.1 != bt301.1) = true then (none) else (if (bt317.1 != false) = true then (none) else (if bt311.2 = 2 then (some true) else (if bt311.2 = 0 then (if bt319.2 = 0 then (if a2_0 ≤ a3 then (some (bt319.1 == (decide (a3 ≤ a2_1)))) else (some (bt319.1 == false))) else (none)) else (none)))))) else (none)) else (none)) else (none)) else (none)))))))))) = some r := by rw [if_neg (show ¬ (false = true) by decide)] at H; exact H
     clear H
     have H := H1
     clear H1
     replace H := Option.bind_eq_some_iff.mp H
     obtain ⟨⟨t299, t300⟩, A230, H⟩ := H
     replace H : ((ivl_Has.f kj6 l1 a3).bind fun bt301 => ((ivl_Or.f kj6 l0 l1).bind fun bt303 => ((ivl_And.f kj6 l0 l1).bind fun bt307 => ((ivl_Not.f kj6 l0 a2_0 a2_1).bind fun bt311 => ((ivl_Has.f kj6 bt303.1 a3).bind fun bt315 => ((ivl_Has.f kj6 bt307.1 a3).bind fun bt317 => ((ivl_Has.f kj6 bt311.1 a3).bind fun bt319 => (if bt303.2 = 0 then (if bt307.2 = 0 then (if bt315.2 = 0 then (if bt317.2 = 0 then (if t299 = true then (if (bt315.1 != true) = true then (none) else (if (bt317.1 != bt301.1) = true then (none) else (if bt311.2 = 2 then (some true) else (if bt311.2 = 0 then (if bt319.2 = 0 then (some (bt319.1 == false)) else (none)) else (none))))) else (if (bt315.1 != bt301.1) = true then (none) else (if (bt317.1 != false) = true then (none) else (if bt311.2 = 2 then (some true) else (if bt311.2 = 0 then (if bt319.2 = 0 then (if a2_0 ≤ a3 then (some (bt319.1 == (decide (a3 ≤ a2_1)))) else (some (bt319.1 == false))) else (none)) else (none)))))) else (none)) else (none)) else (none)) else (none))))))))) = some r := H
     have A23 := Ax A230
     clear A230
     replace H := Option.bind_eq_some_iff.mp H
     obtain ⟨⟨t301, t302⟩, A240, H⟩ := H
     replace H : ((ivl_Or.f kj6 l0 l1).bind fun bt303 => ((ivl_And.f kj6 l0 l1).bind fun bt307 => ((ivl_Not.f kj6 l0 a2_0 a2_1).bind fun bt311 => ((ivl_Has.f kj6 bt303.1 a3).bind fun bt315 => ((ivl_Has.f kj6 bt307.1 a3).bind fun bt317 => ((ivl_Has.f kj6 bt311.1 a3).bind fun bt319 => (if bt303.2 = 0 then (if bt307.2 = 0 then (if bt315.2 = 0 then (if bt317.2 = 0 then (if t299 = true then (if (bt315.1 != true) = true then (none) else (if (bt317.1 != t301) = true then (none) else (if bt311.2 = 2 then (some true) else (if bt311.2 = 0 then (if bt319.2 = 0 then (some (bt319.1 == false)) else (none)) else (none))))) else (if (bt315.1 != t301) = true then (none) else (if (bt317.1 != false) = true then (none) else (if bt311.2 = 2 then (some true) else (if bt311.2 = 0 then (if bt319.2 = 0 then (if a2_0 ≤ a3 then (some (bt319.1 == (decide (a3 ≤ a2_1)))) else (some (bt319.1 == false))) else (none)) else (none)))))) else (none)) else (none)) else (none)) else (none)))))))) = some r := H
     have A24 := Ax A240
     clear A240
     replace H := Option.bind_eq_some_iff.mp H
     obtain ⟨⟨t303, t304⟩, A250, H⟩ := H
     replace H : ((ivl_And.f kj6 l0 l1).bind fun bt307 => ((ivl_Not.f kj6 l0 a2_0 a2_1).bind fun bt311 => ((ivl_Has.f kj6 t303 a3).bind fun bt315 => ((ivl_Has.f kj6 bt307.1 a3).bind fun bt317 => ((ivl_Has.f kj6 bt311.1 a3).bind fun bt319 => (if t304 = 0 then (if bt307.2 = 0 then (if bt315.2 = 0 then (if bt317.2 = 0 then (if t299 = true then (if (bt315.1 != true) = true then (none) else (if (bt317.1 != t301) = true then (none) else (if bt311.2 = 2 then (some true) else (if bt311.2 = 0 then (if bt319.2 = 0 then (some (bt319.1 == false)) else (none)) else (none))))) else (if (bt315.1 != t301) = true then (none) else (if (bt317.1 != false) = true then (none) else (if bt311.2 = 2 then (some true) else (if bt311.2 = 0 then (if bt319.2 = 0 then (if a2_0 ≤ a3 then (some (bt319.1 == (decide (a3 ≤ a2_1)))) else (some (bt319.1 == false))) else (none)) else (none)))))) else (none)) else (none)) else (none)) else (none))))))) = some r := H
     have A25 := Ax A250
     clear A250
     replace H := Option.bind_eq_some_iff.mp H
     obtain ⟨⟨t307, t308⟩, A260, H⟩ := H
     replace H : ((ivl_Not.f kj6 l0 a2_0 a2_1).bind fun bt311 => ((ivl_Has.f kj6 t303 a3).bind fun bt315 => ((ivl_Has.f kj6 t307 a3).bind fun bt317 => ((ivl_Has.f kj6 bt311.1 a3).bind fun bt319 => (if t304 = 0 then (if t308 = 0 then (if bt315.2 = 0 then (if bt317.2 = 0 then (if t299 = true then (if (bt315.1 != true) = true then (none) else (if (bt317.1 != t301) = true then (none) else (if bt311.2 = 2 then (some true) else (if bt311.2 = 0 then (if bt319.2 = 0 then (some (bt319.1 == false)) else (none)) else (none))))) else (if (bt315.1 != t301) = true then (none) else (if (bt317.1 != false) = true then (none) else (if bt311.2 = 2 then (some true) else (if bt311.2 = 0 then (if bt319.2 = 0 then (if a2_0 ≤ a3 then (some (bt319.1 == (decide (a3 ≤ a2_1)))) else (some (bt319.1 == false))) else (none)) else (none)))))) else (none)) else (none)) else (none)) else (none)))))) = some r := H
     have A26 := Ax A260
     clear A260
     replace H := Option.bind_eq_some_iff.mp H
     obtain ⟨⟨t311, t314⟩, A270, H⟩ := H
     replace H : ((ivl_Has.f kj6 t303 a3).bind fun bt315 => ((ivl_Has.f kj6 t307 a3).bind fun bt317 => ((ivl_Has.f kj6 t311 a3).bind fun bt319 => (if t304 = 0 then (if t308 = 0 then (if bt315.2 = 0 then (if bt317.2 = 0 then (if t299 = true then (if (bt315.1 != true) = true then (none) else (if (bt317.1 != t301) = true then (none) else (if t314 = 2 then (some true) else (if t314 = 0 then (if bt319.2 = 0 then (some (bt319.1 == false)) else (none)) else (none))))) else (if (bt315.1 != t301) = true then (none) else (if (bt317.1 != false) = true then (none) else (if t314 = 2 then (some true) else (if t314 = 0 then (if bt319.2 = 0 then (if a2_0 ≤ a3 then (some (bt319.1 == (decide (a3 ≤ a2_1)))) else (some (bt319.1 == false))) else (none)) else (none)))))) else (none)) else (none)) else (none)) else (none))))) = some r := H
     have A27 := Ax A270
     clear A270
     replace H := Option.bind_eq_some_iff.mp H
     obtain ⟨⟨t315, t316⟩, A280, H⟩ := H
     replace H : ((ivl_Has.f kj6 t307 a3).bind fun bt317 => ((ivl_Has.f kj6 t311 a3).bind fun bt319 => (if t304 = 0 then (if t308 = 0 then (if t316 = 0 then (if bt317.2 = 0 then (if t299 = true then (if (t315 != true) = true then (none) else (if (bt317.1 != t301) = true then (none) else (if t314 = 2 then (some true) else (if t314 = 0 then (if bt319.2 = 0 then (some (bt319.1 == false)) else (none)) else (none))))) else (if (t315 != t301) = true then (none) else (if (bt317.1 != false) = true then (none) else (if t314 = 2 then (some true) else (if t314 = 0 then (if bt319.2 = 0 then (if a2_0 ≤ a3 then (some (bt319.1 == (decide (a3 ≤ a2_1)))) else (some (bt319.1 == false))) else (none)) else (none)))))) else (none)) else (none)) else (none)) else (none)))) = some r := H
     have A28 := Ax A280
     clear A280
     replace H := Option.bind_eq_some_iff.mp H
     obtain ⟨⟨t317, t318⟩, A290, H⟩ := H
     replace H : ((ivl_Has.f kj6 t311 a3).bind fun bt319 => (if t304 = 0 then (if t308 = 0 then (if t316 = 0 then (if t318 = 0 then (if t299 = true then (if (t315 != true) = true then (none) else (if (t317 != t301) = true then (none) else (if t314 = 2 then (some true) else (if t314 = 0 then (if bt319.2 = 0 then (some (bt319.1 == false)) else (none)) else (none))))) else (if (t315 != t301) = true then (none) else (if (t317 != false) = true then (none) else (if t314 = 2 then (some true) else (if t314 = 0 then (if bt319.2 = 0 then (if a2_0 ≤ a3 then (some (bt319.1 == (decide (a3 ≤ a2_1)))) else (some (bt319.1 == false))) else (none)) else (none)))))) else (none)) else (none)) else (none)) else (none))) = some r := H
     have A29 := Ax A290
     clear A290
     replace H := Option.bind_eq_some_iff.mp H
     obtain ⟨⟨t319, t320⟩, A300, H⟩ := H
     replace H : (if t304 = 0 then (if t308 = 0 then (if t316 = 0 then (if t318 = 0 then (if t299 = true then (if (t315 != true) = true then (none) else (if (t317 != t301) = true then (none) else (if t314 = 2 then (some true) else (if t314 = 0 then (if t320 = 0 then (some (t319 == false)) else (none)) else (none))))) else (if (t315 != t301) = true then (none) else (if (t317 != false) = true then (none) else (if t314 = 2 then (some true) else (if t314 = 0 then (if t320 = 0 then (if a2_0 ≤ a3 then (some (t319 == (decide (a3 ≤ a2_1)))) else (some (t319 == false))) else (none)) else (none)))))) else (none)) else (none)) else (none)) else (none)) = some r := H
     have A30 := Ax A300
     clear A300
     by_cases c31 : t304 = 0
     ·rw [if_pos c31] at H
      have c31b0 : (t304 == 0) = true := beq_iff_eq.mpr c31
      have c31b1 : (t304 != 0) = false := bne_eq_false_iff_eq.mpr c31
      clear c31
      by_cases c32 : t308 = 0
      ·rw [if_pos c32] at H
       have c32b0 : (t308 == 0) = true := beq_iff_eq.mpr c32
       have c32b1 : (t308 != 0) = false := bne_eq_false_iff_eq.mpr c32
       clear c32
       by_cases c33 : t316 = 0
       ·rw [if_pos c33] at H
        have c33b0 : (t316 == 0) = true := beq_iff_eq.mpr c33
        have c33b1 : (t316 != 0) = false := bne_eq_false_iff_eq.mpr c33
        clear c33
        by_cases c34 : t318 = 0
        ·rw [if_pos c34] at H
         have c34b0 : (t318 == 0) = true := beq_iff_eq.mpr c34
         have c34b1 : (t318 != 0) = false := bne_eq_false_iff_eq.mpr c34
         clear c34
         by_cases c35 : t299 = true
         ·subst c35
          have H1 : (if (t315 != true) = true then (none) else (if (t317 != t301) = true then (none) else (if t314 = 2 then (some true) else (if t314 = 0 then (if t320 = 0 then (some (t319 == false)) else (none)) else (none))))) = some r := by rw [if_pos rfl] at H; exact H
          clear H
          have H := H1
          clear H1
          by_cases c36 : (t315 != true) = true
          ·rw [if_pos c36] at H
           exact absurd H (by simp)
          ·rw [if_neg c36] at H
           have c36b0 : (t315 != true) = false := by simpa using c36
           (try (have c36b1 : decide (t315 = true) = true := by simpa using c36))
           (try (have c36b2 : (t315 == true) = true := by simpa using c36))
           clear c36
           by_cases c37 : (t317 != t301) = true
           ·rw [if_pos c37] at H
            exact absurd H (by simp)
           ·rw [if_neg c37] at H
            have c37b0 : (t317 != t301) = false := by simpa using c37
            (try (have c37b1 : decide (t317 = t301) = true := by simpa using c37))
            (try (have c37b2 : (t317 == t301) = true := by simpa using c37))
            clear c37
            by_cases c38 : t314 = 2
            ·rw [if_pos c38] at H
             have c38b0 : (t314 == 2) = true := beq_iff_eq.mpr c38
             have c38b1 : (t314 != 2) = false := bne_eq_false_iff_eq.mpr c38
             clear c38
             obtain rfl := Option.some.inj H
             go_wp2_with (first | ((with_reducible refine gate_callee (f := 12) rfl ?_); refine goesL_ (some 48) rfl rfl Try.func12 (by kernel_rfl) rfl #[.slice A0 l0.length c0, .int .i64 a3] rfl gS ?_; (with_reducible refine (ivl_Has.calls kj6 _ _ l0 a3 true t300 _ ?side1 ?side2 A23.out).mono ?_); (case side1 => repeat (first | exact (Kd.C_below HR0.out HB.out) | (with_reducible refine Kd.C_alloc ?_ _) | (with_reducible refine Kd.C_drewN ?_ _) | (with_reducible refine Kd.C_drew ?_))); (case side2 => exact HC0.out); rintro e w39 ⟨rfl, hb⟩; refine ⟨_, rfl, ?_⟩; replace BK295 := Bx0 BK295 hb; replace HB := Bs1 HB hb GE295.out; (try clear hb)) | ((with_reducible refine gate_callee (f := 12) rfl ?_); refine goesL_ (some 54) rfl rfl Try.func12 (by kernel_rfl) rfl #[.slice A1 l1.length c1, .int .i64 a3] rfl gS ?_; (with_reducible refine (ivl_Has.calls kj6 _ _ l1 a3 t301 t302 _ ?side1 ?side2 A24.out).mono ?_); (case side1 => repeat (first | exact (Kd.C_below HR1.out HB.out) | (with_reducible refine Kd.C_alloc ?_ _) | (with_reducible refine Kd.C_drewN ?_ _) | (with_reducible refine Kd.C_drew ?_))); (case side2 => exact HC1.out); rintro e w40 ⟨rfl, hb⟩; refine ⟨_, rfl, ?_⟩; replace BK295 := Bx0 BK295 hb; replace HB := Bs1 HB hb GE295.out; (try clear hb)) | ((with_reducible refine gate_callee (f := 19) rfl ?_); refine goesL_ (some 60) rfl rfl Try.func19 (by kernel_rfl) rfl #[.slice A0 l0.length c0, .slice A1 l1.length c1] rfl gS ?_; (with_reducible refine (ivl_Or.calls kj6 _ _ l0 _ _ l1 t303 t304 _ ?side1 ?side2 ?side3 ?side4 A25.out).mono ?_); (case side1 => repeat (first | exact (Kd.C_below HR0.out HB.out) | (with_reducible refine Kd.C_alloc ?_ _) | (with_reducible refine Kd.C_drewN ?_ _) | (with_reducible refine Kd.C_drew ?_))); (case side2 => exact HC0.out); (case side3 => repeat (first | exact (Kd.C_below HR1.out HB.out) | (with_reducible refine Kd.C_alloc ?_ _) | (with_reducible refine Kd.C_drewN ?_ _) | (with_reducible refine Kd.C_drew ?_))); (case side4 => exact HC1.out); rintro e w41 ⟨v305, rfl, ho0, hb⟩; refine ⟨_, rfl, ?_⟩; have HO306 := Ax (Kd.R_lower (Kd.R_newB ho0 (g := gb295) (o := .cells #[.int .i64 a2_0, .int .i64 a2_1] 36 (0, 0)) (bf0 BK295.out)) (below_size (bw1 HB.out GE295.out))); replace BK295 := Bx0 BK295 hb; replace HB := Bs1 HB hb GE295.out; (try clear hb); (try clear ho0)) | ((with_reducible refine gate_callee (f := 21) rfl ?_); refine goesL_ (some 66) rfl rfl Try.func21 (by kernel_rfl) rfl #[.slice A0 l0.length c0, .slice A1 l1.length c1] rfl gS ?_; (with_reducible refine (ivl_And.calls kj6 _ _ l0 _ _ l1 t307 t308 _ ?side1 ?side2 ?side3 ?side4 A26.out).mono ?_); (case side1 => repeat (first | exact (Kd.C_below HR0.out HB.out) | (with_reducible refine Kd.C_alloc ?_ _) | (with_reducible refine Kd.C_drewN ?_ _) | (with_reducible refine Kd.C_drew ?_))); (case side2 => exact HC0.out); (case side3 => repeat (first | exact (Kd.C_below HR1.out HB.out) | (with_reducible refine Kd.C_alloc ?_ _) | (with_reducible refine Kd.C_drewN ?_ _) | (with_reducible refine Kd.C_drew ?_))); (case side4 => exact HC1.out); rintro e w42 ⟨v309, rfl, ho0, hb⟩; refine ⟨_, rfl, ?_⟩; have n0_ := Ax (Kd.R_elder' (by (with_reducible repeat (first | apply Kd.R_alloc | apply Kd.R_drewN | apply Kd.R_drew)); exact HO306.out) (Kd.R_base ho0) hb); have n1_ := Ax (Kd.R_lower (Kd.R_newB (Kd.R_new' ho0 (Kd.R_lt (by (with_reducible repeat (first | apply Kd.R_alloc | apply Kd.R_drewN | apply Kd.R_drew)); exact HO306.out))) (g := gb295) (o := .cells #[.int .i64 a2_0, .int .i64 a2_1] 36 (0, 0)) (bf0 BK295.out)) (below_size (bw1 HB.out GE295.out))); have n2_ := Bx0 BK295 hb; have n3_ := Bs1 HB hb GE295.out; clear HO306; clear BK295; clear HB; have HO306 := n0_; have HO310 := n1_; have BK295 := n2_; have HB := n3_; clear n0_ n1_ n2_ n3_; (try clear hb); (try clear ho0); obtain ⟨hcz43_0, hcz43_1, hfz43_0, hfz43_1⟩ := cl2 BK295) | ((with_reducible refine gate_callee (f := 23) rfl ?_); refine goesL_ (some 72) rfl rfl Try.func23 (by kernel_rfl) rfl #[.slice A0 l0.length c0, .agg #[.int .i64 a2_0, .int .i64 a2_1]] rfl gS ?_; (with_reducible refine (ivl_Not.calls kj6 _ _ l0 a2_0 a2_1 t311 t314 _ ?side1 ?side2 A27.out).mono ?_); (case side1 => repeat (first | exact (Kd.C_below HR0.out HB.out) | (with_reducible refine Kd.C_alloc ?_ _) | (with_reducible refine Kd.C_drewN ?_ _) | (with_reducible refine Kd.C_drew ?_))); (case side2 => exact HC0.out); rintro e w44 ⟨v312, rfl, ho0, hb⟩; refine ⟨_, rfl, ?_⟩; have n0_ := Ax (Kd.R_elder' (by (with_reducible repeat (first | apply Kd.R_alloc | apply Kd.R_drewN | apply Kd.R_drew)); exact HO306.out) (Kd.R_base ho0) hb); have n1_ := Ax (Kd.R_elder' (by (with_reducible repeat (first | apply Kd.R_alloc | apply Kd.R_drewN | apply Kd.R_drew)); exact HO310.out) (Kd.R_base ho0) hb); have n2_ := Ax (Kd.R_lower (Kd.R_newB (Kd.R_new' (Kd.R_new' ho0 (Kd.R_lt (by (with_reducible repeat (first | apply Kd.R_alloc | apply Kd.R_drewN | apply Kd.R_drew)); exact HO306.out))) (Kd.R_lt (by (with_reducible repeat (first | apply Kd.R_alloc | apply Kd.R_drewN | apply Kd.R_drew)); exact HO310.out))) (g := gb295) (o := .cells #[.int .i64 a2_0, .int .i64 a2_1] 36 (0, 0)) (bf0 BK295.out)) (below_size (bw1 HB.out GE295.out))); have n3_ := Bx0 BK295 hb; have n4_ := Bs1 HB hb GE295.out; clear HO306; clear HO310; clear BK295; clear HB; have HO306 := n0_; have HO310 := n1_; have HO313 := n2_; have BK295 := n3_; have HB := n4_; clear n0_ n1_ n2_ n3_ n4_; (try clear hb); (try clear ho0); obtain ⟨Ao45, co45, eo45⟩ := Kd.R_slice HO306.out; subst eo45) | ((with_reducible refine gate_callee (f := 12) rfl ?_); refine goesL_ (some 78) rfl rfl Try.func12 (by kernel_rfl) rfl #[.slice Ao45 t303.length co45, .int .i64 a3] rfl gS ?_; (with_reducible refine (ivl_Has.calls kj6 _ _ t303 a3 t315 t316 _ ?side1 ?side2 A28.out).mono ?_); (case side1 => repeat (first | exact (Kd.R_reads' HO306.out).2.2 | (with_reducible refine Kd.C_alloc ?_ _) | (with_reducible refine Kd.C_drewN ?_ _) | (with_reducible refine Kd.C_drew ?_))); (case side2 => exact (Kd.R_reads' HO306.out).2.1); rintro e w46 ⟨rfl, hb⟩; refine ⟨_, rfl, ?_⟩; have n0_ := Ax (Kd.R_below (by (with_reducible repeat (first | apply Kd.R_alloc | apply Kd.R_drewN | apply Kd.R_drew)); exact HO306.out) hb); have n1_ := Ax (Kd.R_below (by (with_reducible repeat (first | apply Kd.R_alloc | apply Kd.R_drewN | apply Kd.R_drew)); exact HO310.out) hb); have n2_ := Ax (Kd.R_below (by (with_reducible repeat (first | apply Kd.R_alloc | apply Kd.R_drewN | apply Kd.R_drew)); exact HO313.out) hb); have n3_ := Bx0 BK295 hb; have n4_ := Bs1 HB hb GE295.out; clear HO306; clear HO310; clear HO313; clear BK295; clear HB; have HO306 := n0_; have HO310 := n1_; have HO313 := n2_; have BK295 := n3_; have HB := n4_; clear n0_ n1_ n2_ n3_ n4_; (try clear hb); obtain ⟨Ao47, co47, eo47⟩ := Kd.R_slice HO310.out; subst eo47) | ((with_reducible refine gate_callee (f := 12) rfl ?_); refine goesL_ (some 84) rfl rfl Try.func12 (by kernel_rfl) rfl #[.slice Ao47 t307.length co47, .int .i64 a3] rfl gS ?_; (with_reducible refine (ivl_Has.calls kj6 _ _ t307 a3 t317 t318 _ ?side1 ?side2 A29.out).mono ?_); (case side1 => repeat (first | exact (Kd.R_reads' HO310.out).2.2 | (with_reducible refine Kd.C_alloc ?_ _) | (with_reducible refine Kd.C_drewN ?_ _) | (with_reducible refine Kd.C_drew ?_))); (case side2 => exact (Kd.R_reads' HO310.out).2.1); rintro e w48 ⟨rfl, hb⟩; refine ⟨_, rfl, ?_⟩; have n0_ := Ax (Kd.R_below (by (with_reducible repeat (first | apply Kd.R_alloc | apply Kd.R_drewN | apply Kd.R_drew)); exact HO306.out) hb); have n1_ := Ax (Kd.R_below (by (with_reducible repeat (first | apply Kd.R_alloc | apply Kd.R_drewN | apply Kd.R_drew)); exact HO310.out) hb); have n2_ := Ax (Kd.R_below (by (with_reducible repeat (first | apply Kd.R_alloc | apply Kd.R_drewN | apply Kd.R_drew)); exact HO313.out) hb); have n3_ := Bx0 BK295 hb; have n4_ := Bs1 HB hb GE295.out; clear HO306; clear HO310; clear HO313; clear BK295; clear HB; have HO306 := n0_; have HO310 := n1_; have HO313 := n2_; have BK295 := n3_; have HB := n4_; clear n0_ n1_ n2_ n3_ n4_; (try clear hb); obtain ⟨Ao49, co49, eo49⟩ := Kd.R_slice HO313.out; subst eo49) | ((with_reducible refine gate_callee (f := 12) rfl ?_); refine goesL_ (some 90) rfl rfl Try.func12 (by kernel_rfl) rfl #[.slice Ao49 t311.length co49, .int .i64 a3] rfl gS ?_; (with_reducible refine (ivl_Has.calls kj6 _ _ t311 a3 t319 t320 _ ?side1 ?side2 A30.out).mono ?_); (case side1 => repeat (first | exact (Kd.R_reads' HO313.out).2.2 | (with_reducible refine Kd.C_alloc ?_ _) | (with_reducible refine Kd.C_drewN ?_ _) | (with_reducible refine Kd.C_drew ?_))); (case side2 => exact (Kd.R_reads' HO313.out).2.1); rintro e w50 ⟨rfl, hb⟩; refine ⟨_, rfl, ?_⟩; have n0_ := Ax (Kd.R_below (by (with_reducible repeat (first | apply Kd.R_alloc | apply Kd.R_drewN | apply Kd.R_drew)); exact HO306.out) hb); have n1_ := Ax (Kd.R_below (by (with_reducible repeat (first | apply Kd.R_alloc | apply Kd.R_drewN | apply Kd.R_drew)); exact HO310.out) hb); have n2_ := Ax (Kd.R_below (by (with_reducible repeat (first | apply Kd.R_alloc | apply Kd.R_drewN | apply Kd.R_drew)); exact HO313.out) hb); have n3_ := Bx0 BK295 hb; have n4_ := Bs1 HB hb GE295.out; clear HO306; clear HO310; clear HO313; clear BK295; clear HB; have HO306 := n0_; have HO310 := n1_; have HO313 := n2_; have BK295 := n3_; have HB := n4_; clear n0_ n1_ n2_ n3_ n4_; (try clear hb)))
             go_ret
             exact ⟨eS, bw1 HB.out GE295.out⟩
            ·rw [if_neg c38] at H
             have c38b0 : (t314 == 2) = false := beq_eq_false_iff_ne.mpr c38
             have c38b1 : (t314 != 2) = true := bne_iff_ne.mpr c38
             by_cases c51 : t314 = 0
             ·rw [if_pos c51] at H
              have c51b0 : (t314 == 0) = true := beq_iff_eq.mpr c51
              have c51b1 : (t314 != 0) = false := bne_eq_false_iff_eq.mpr c51
              clear c51
              by_cases c52 : t320 = 0
              ·rw [if_pos c52] at H
               have c52b0 : (t320 == 0) = true := beq_iff_eq.mpr c52
               have c52b1 : (t320 != 0) = false := bne_eq_false_iff_eq.mpr c52
               clear c52
               obtain rfl := Option.some.inj H
               go_wp2_with (first | ((with_reducible refine gate_callee (f := 12) rfl ?_); refine goesL_ (some 48) rfl rfl Try.func12 (by kernel_rfl) rfl #[.slice A0 l0.length c0, .int .i64 a3] rfl gS ?_; (with_reducible refine (ivl_Has.calls kj6 _ _ l0 a3 true t300 _ ?side1 ?side2 A23.out).mono ?_); (case side1 => repeat (first | exact (Kd.C_below HR0.out HB.out) | (with_reducible refine Kd.C_alloc ?_ _) | (with_reducible refine Kd.C_drewN ?_ _) | (with_reducible refine Kd.C_drew ?_))); (case side2 => exact HC0.out); rintro e w53 ⟨rfl, hb⟩; refine ⟨_, rfl, ?_⟩; replace BK295 := Bx0 BK295 hb; replace HB := Bs1 HB hb GE295.out; (try clear hb)) | ((with_reducible refine gate_callee (f := 12) rfl ?_); refine goesL_ (some 54) rfl rfl Try.func12 (by kernel_rfl) rfl #[.slice A1 l1.length c1, .int .i64 a3] rfl gS ?_; (with_reducible refine (ivl_Has.calls kj6 _ _ l1 a3 t301 t302 _ ?side1 ?side2 A24.out).mono ?_); (case side1 => repeat (first | exact (Kd.C_below HR1.out HB.out) | (with_reducible refine Kd.C_alloc ?_ _) | (with_reducible refine Kd.C_drewN ?_ _) | (with_reducible refine Kd.C_drew ?_))); (case side2 => exact HC1.out); rintro e w54 ⟨rfl, hb⟩; refine ⟨_, rfl, ?_⟩; replace BK295 := Bx0 BK295 hb; replace HB := Bs1 HB hb GE295.out; (try clear hb)) | ((with_reducible refine gate_callee (f := 19) rfl ?_); refine goesL_ (some 60) rfl rfl Try.func19 (by kernel_rfl) rfl #[.slice A0 l0.length c0, .slice A1 l1.length c1] rfl gS ?_; (with_reducible refine (ivl_Or.calls kj6 _ _ l0 _ _ l1 t303 t304 _ ?side1 ?side2 ?side3 ?side4 A25.out).mono ?_); (case side1 => repeat (first | exact (Kd.C_below HR0.out HB.out) | (with_reducible refine Kd.C_alloc ?_ _) | (with_reducible refine Kd.C_drewN ?_ _) | (with_reducible refine Kd.C_drew ?_))); (case side2 => exact HC0.out); (case side3 => repeat (first | exact (Kd.C_below HR1.out HB.out) | (with_reducible refine Kd.C_alloc ?_ _) | (with_reducible refine Kd.C_drewN ?_ _) | (with_reducible refine Kd.C_drew ?_))); (case side4 => exact HC1.out); rintro e w55 ⟨v305, rfl, ho0, hb⟩; refine ⟨_, rfl, ?_⟩; have HO306 := Ax (Kd.R_lower (Kd.R_newB ho0 (g := gb295) (o := .cells #[.int .i64 a2_0, .int .i64 a2_1] 36 (0, 0)) (bf0 BK295.out)) (below_size (bw1 HB.out GE295.out))); replace BK295 := Bx0 BK295 hb; replace HB := Bs1 HB hb GE295.out; (try clear hb); (try clear ho0)) | ((with_reducible refine gate_callee (f := 21) rfl ?_); refine goesL_ (some 66) rfl rfl Try.func21 (by kernel_rfl) rfl #[.slice A0 l0.length c0, .slice A1 l1.length c1] rfl gS ?_; (with_reducible refine (ivl_And.calls kj6 _ _ l0 _ _ l1 t307 t308 _ ?side1 ?side2 ?side3 ?side4 A26.out).mono ?_); (case side1 => repeat (first | exact (Kd.C_below HR0.out HB.out) | (with_reducible refine Kd.C_alloc ?_ _) | (with_reducible refine Kd.C_drewN ?_ _) | (with_reducible refine Kd.C_drew ?_))); (case side2 => exact HC0.out); (case side3 => repeat (first | exact (Kd.C_below HR1.out HB.out) | (with_reducible refine Kd.C_alloc ?_ _) | (with_reducible refine Kd.C_drewN ?_ _) | (with_reducible refine Kd.C_drew ?_))); (case side4 => exact HC1.out); rintro e w56 ⟨v309, rfl, ho0, hb⟩; refine ⟨_, rfl, ?_⟩; have n0_ := Ax (Kd.R_elder' (by (with_reducible repeat (first | apply Kd.R_alloc | apply Kd.R_drewN | apply Kd.R_drew)); exact HO306.out) (Kd.R_base ho0) hb); have n1_ := Ax (Kd.R_lower (Kd.R_newB (Kd.R_new' ho0 (Kd.R_lt (by (with_reducible repeat (first | apply Kd.R_alloc | apply Kd.R_drewN | apply Kd.R_drew)); exact HO306.out))) (g := gb295) (o := .cells #[.int .i64 a2_0, .int .i64 a2_1] 36 (0, 0)) (bf0 BK295.out)) (below_size (bw1 HB.out GE295.out))); have n2_ := Bx0 BK295 hb; have n3_ := Bs1 HB hb GE295.out; clear HO306; clear BK295; clear HB; have HO306 := n0_; have HO310 := n1_; have BK295 := n2_; have HB := n3_; clear n0_ n1_ n2_ n3_; (try clear hb); (try clear ho0); obtain ⟨hcz57_0, hcz57_1, hfz57_0, hfz57_1⟩ := cl2 BK295) | ((with_reducible refine gate_callee (f := 23) rfl ?_); refine goesL_ (some 72) rfl rfl Try.func23 (by kernel_rfl) rfl #[.slice A0 l0.length c0, .agg #[.int .i64 a2_0, .int .i64 a2_1]] rfl gS ?_; (with_reducible refine (ivl_Not.calls kj6 _ _ l0 a2_0 a2_1 t311 t314 _ ?side1 ?side2 A27.out).mono ?_); (case side1 => repeat (first | exact (Kd.C_below HR0.out HB.out) | (with_reducible refine Kd.C_alloc ?_ _) | (with_reducible refine Kd.C_drewN ?_ _) | (with_reducible refine Kd.C_drew ?_))); (case side2 => exact HC0.out); rintro e w58 ⟨v312, rfl, ho0, hb⟩; refine ⟨_, rfl, ?_⟩; have n0_ := Ax (Kd.R_elder' (by (with_reducible repeat (first | apply Kd.R_alloc | apply Kd.R_drewN | apply Kd.R_drew)); exact HO306.out) (Kd.R_base ho0) hb); have n1_ := Ax (Kd.R_elder' (by (with_reducible repeat (first | apply Kd.R_alloc | apply Kd.R_drewN | apply Kd.R_drew)); exact HO310.out) (Kd.R_base ho0) hb); have n2_ := Ax (Kd.R_lower (Kd.R_newB (Kd.R_new' (Kd.R_new' ho0 (Kd.R_lt (by (with_reducible repeat (first | apply Kd.R_alloc | apply Kd.R_drewN | apply Kd.R_drew)); exact HO306.out))) (Kd.R_lt (by (with_reducible repeat (first | apply Kd.R_alloc | apply Kd.R_drewN | apply Kd.R_drew)); exact HO310.out))) (g := gb295) (o := .cells #[.int .i64 a2_0, .int .i64 a2_1] 36 (0, 0)) (bf0 BK295.out)) (below_size (bw1 HB.out GE295.out))); have n3_ := Bx0 BK295 hb; have n4_ := Bs1 HB hb GE295.out; clear HO306; clear HO310; clear BK295; clear HB; have HO306 := n0_; have HO310 := n1_; have HO313 := n2_; have BK295 := n3_; have HB := n4_; clear n0_ n1_ n2_ n3_ n4_; (try clear hb); (try clear ho0); obtain ⟨Ao59, co59, eo59⟩ := Kd.R_slice HO306.out; subst eo59) | ((with_reducible refine gate_callee (f := 12) rfl ?_); refine goesL_ (some 78) rfl rfl Try.func12 (by kernel_rfl) rfl #[.slice Ao59 t303.length co59, .int .i64 a3] rfl gS ?_; (with_reducible refine (ivl_Has.calls kj6 _ _ t303 a3 t315 t316 _ ?side1 ?side2 A28.out).mono ?_); (case side1 => repeat (first | exact (Kd.R_reads' HO306.out).2.2 | (with_reducible refine Kd.C_alloc ?_ _) | (with_reducible refine Kd.C_drewN ?_ _) | (with_reducible refine Kd.C_drew ?_))); (case side2 => exact (Kd.R_reads' HO306.out).2.1); rintro e w60 ⟨rfl, hb⟩; refine ⟨_, rfl, ?_⟩; have n0_ := Ax (Kd.R_below (by (with_reducible repeat (first | apply Kd.R_alloc | apply Kd.R_drewN | apply Kd.R_drew)); exact HO306.out) hb); have n1_ := Ax (Kd.R_below (by (with_reducible repeat (first | apply Kd.R_alloc | apply Kd.R_drewN | apply Kd.R_drew)); exact HO310.out) hb); have n2_ := Ax (Kd.R_below (by (with_reducible repeat (first | apply Kd.R_alloc | apply Kd.R_drewN | apply Kd.R_drew)); exact HO313.out) hb); have n3_ := Bx0 BK295 hb; have n4_ := Bs1 HB hb GE295.out; clear HO306; clear HO310; clear HO313; clear BK295; clear HB; have HO306 := n0_; have HO310 := n1_; have HO313 := n2_; have BK295 := n3_; have HB := n4_; clear n0_ n1_ n2_ n3_ n4_; (try clear hb); obtain ⟨Ao61, co61, eo61⟩ := Kd.R_slice HO310.out; subst eo61) | ((with_reducible refine gate_callee (f := 12) rfl ?_); refine goesL_ (some 84) rfl rfl Try.func12 (by kernel_rfl) rfl #[.slice Ao61 t307.length co61, .int .i64 a3] rfl gS ?_; (with_reducible refine (ivl_Has.calls kj6 _ _ t307 a3 t317 t318 _ ?side1 ?side2 A29.out).mono ?_); (case side1 => repeat (first | exact (Kd.R_reads' HO310.out).2.2 | (with_reducible refine Kd.C_alloc ?_ _) | (with_reducible refine Kd.C_drewN ?_ _) | (with_reducible refine Kd.C_drew ?_))); (case side2 => exact (Kd.R_reads' HO310.out).2.1); rintro e w62 ⟨rfl, hb⟩; refine ⟨_, rfl, ?_⟩; have n0_ := Ax (Kd.R_below (by (with_reducible repeat (first | apply Kd.R_alloc | apply Kd.R_drewN | apply Kd.R_drew)); exact HO306.out) hb); have n1_ := Ax (Kd.R_below (by (with_reducible repeat (first | apply Kd.R_alloc | apply Kd.R_drewN | apply Kd.R_drew)); exact HO310.out) hb); have n2_ := Ax (Kd.R_below (by (with_reducible repeat (first | apply Kd.R_alloc | apply Kd.R_drewN | apply Kd.R_drew)); exact HO313.out) hb); have n3_ := Bx0 BK295 hb; have n4_ := Bs1 HB hb GE295.out; clear HO306; clear HO310; clear HO313; clear BK295; clear HB; have HO306 := n0_; have HO310 := n1_; have HO313 := n2_; have BK295 := n3_; have HB := n4_; clear n0_ n1_ n2_ n3_ n4_; (try clear hb); obtain ⟨Ao63, co63, eo63⟩ := Kd.R_slice HO313.out; subst eo63) | ((with_reducible refine gate_callee (f := 12) rfl ?_); refine goesL_ (some 90) rfl rfl Try.func12 (by kernel_rfl) rfl #[.slice Ao63 t311.length co63, .int .i64 a3] rfl gS ?_; (with_reducible refine (ivl_Has.calls kj6 _ _ t311 a3 t319 t320 _ ?side1 ?side2 A30.out).mono ?_); (case side1 => repeat (first | exact (Kd.R_reads' HO313.out).2.2 | (with_reducible refine Kd.C_alloc ?_ _) | (with_reducible refine Kd.C_drewN ?_ _) | (with_reducible refine Kd.C_drew ?_))); (case side2 => exact (Kd.R_reads' HO313.out).2.1); rintro e w64 ⟨rfl, hb⟩; refine ⟨_, rfl, ?_⟩; have n0_ := Ax (Kd.R_below (by (with_reducible repeat (first | apply Kd.R_alloc | apply Kd.R_drewN | apply Kd.R_drew)); exact HO306.out) hb); have n1_ := Ax (Kd.R_below (by (with_reducible repeat (first | apply Kd.R_alloc | apply Kd.R_drewN | apply Kd.R_drew)); exact HO310.out) hb); have n2_ := Ax (Kd.R_below (by (with_reducible repeat (first | apply Kd.R_alloc | apply Kd.R_drewN | apply Kd.R_drew)); exact HO313.out) hb); have n3_ := Bx0 BK295 hb; have n4_ := Bs1 HB hb GE295.out; clear HO306; clear HO310; clear HO313; clear BK295; clear HB; have HO306 := n0_; have HO310 := n1_; have HO313 := n2_; have BK295 := n3_; have HB := n4_; clear n0_ n1_ n2_ n3_ n4_; (try clear hb)))
               go_ret
               exact ⟨eS, bw1 HB.out GE295.out⟩
              ·rw [if_neg c52] at H
               exact absurd H (by simp)
             ·rw [if_neg c51] at H
              exact absurd H (by simp)
         ·replace c35 := Bool.eq_false_iff.mpr c35
          subst c35
          have H1 : (if (t315 != t301) = true then (none) else (if (t317 != false) = true then (none) else (if t314 = 2 then (some true) else (if t314 = 0 then (if t320 = 0 then (if a2_0 ≤ a3 then (some (t319 == (decide (a3 ≤ a2_1)))) else (some (t319 == false))) else (none)) else (none))))) = some r := by rw [if_neg (show ¬ (false = true) by decide)] at H; exact H
          clear H
          have H := H1
          clear H1
          by_cases c65 : (t315 != t301) = true
          ·rw [if_pos c65] at H
           exact absurd H (by simp)
          ·rw [if_neg c65] at H
           have c65b0 : (t315 != t301) = false := by simpa using c65
           (try (have c65b1 : decide (t315 = t301) = true := by simpa using c65))
           (try (have c65b2 : (t315 == t301) = true := by simpa using c65))
           clear c65
           by_cases c66 : (t317 != false) = true
           ·rw [if_pos c66] at H
            exact absurd H (by simp)
           ·rw [if_neg c66] at H
            have c66b0 : (t317 != false) = false := by simpa using c66
            (try (have c66b1 : decide (t317 = false) = true := by simpa using c66))
            (try (have c66b2 : (t317 == false) = true := by simpa using c66))
            clear c66
            by_cases c67 : t314 = 2
            ·rw [if_pos c67] at H
             have c67b0 : (t314 == 2) = true := beq_iff_eq.mpr c67
             have c67b1 : (t314 != 2) = false := bne_eq_false_iff_eq.mpr c67
             clear c67
             obtain rfl := Option.some.inj H
             go_wp2_with (first | ((with_reducible refine gate_callee (f := 12) rfl ?_); refine goesL_ (some 48) rfl rfl Try.func12 (by kernel_rfl) rfl #[.slice A0 l0.length c0, .int .i64 a3] rfl gS ?_; (with_reducible refine (ivl_Has.calls kj6 _ _ l0 a3 false t300 _ ?side1 ?side2 A23.out).mono ?_); (case side1 => repeat (first | exact (Kd.C_below HR0.out HB.out) | (with_reducible refine Kd.C_alloc ?_ _) | (with_reducible refine Kd.C_drewN ?_ _) | (with_reducible refine Kd.C_drew ?_))); (case side2 => exact HC0.out); rintro e w68 ⟨rfl, hb⟩; refine ⟨_, rfl, ?_⟩; replace BK295 := Bx0 BK295 hb; replace HB := Bs1 HB hb GE295.out; (try clear hb)) | ((with_reducible refine gate_callee (f := 12) rfl ?_); refine goesL_ (some 54) rfl rfl Try.func12 (by kernel_rfl) rfl #[.slice A1 l1.length c1, .int .i64 a3] rfl gS ?_; (with_reducible refine (ivl_Has.calls kj6 _ _ l1 a3 t301 t302 _ ?side1 ?side2 A24.out).mono ?_); (case side1 => repeat (first | exact (Kd.C_below HR1.out HB.out) | (with_reducible refine Kd.C_alloc ?_ _) | (with_reducible refine Kd.C_drewN ?_ _) | (with_reducible refine Kd.C_drew ?_))); (case side2 => exact HC1.out); rintro e w69 ⟨rfl, hb⟩; refine ⟨_, rfl, ?_⟩; replace BK295 := Bx0 BK295 hb; replace HB := Bs1 HB hb GE295.out; (try clear hb)) | ((with_reducible refine gate_callee (f := 19) rfl ?_); refine goesL_ (some 60) rfl rfl Try.func19 (by kernel_rfl) rfl #[.slice A0 l0.length c0, .slice A1 l1.length c1] rfl gS ?_; (with_reducible refine (ivl_Or.calls kj6 _ _ l0 _ _ l1 t303 t304 _ ?side1 ?side2 ?side3 ?side4 A25.out).mono ?_); (case side1 => repeat (first | exact (Kd.C_below HR0.out HB.out) | (with_reducible refine Kd.C_alloc ?_ _) | (with_reducible refine Kd.C_drewN ?_ _) | (with_reducible refine Kd.C_drew ?_))); (case side2 => exact HC0.out); (case side3 => repeat (first | exact (Kd.C_below HR1.out HB.out) | (with_reducible refine Kd.C_alloc ?_ _) | (with_reducible refine Kd.C_drewN ?_ _) | (with_reducible refine Kd.C_drew ?_))); (case side4 => exact HC1.out); rintro e w70 ⟨v305, rfl, ho0, hb⟩; refine ⟨_, rfl, ?_⟩; have HO306 := Ax (Kd.R_lower (Kd.R_newB ho0 (g := gb295) (o := .cells #[.int .i64 a2_0, .int .i64 a2_1] 36 (0, 0)) (bf0 BK295.out)) (below_size (bw1 HB.out GE295.out))); replace BK295 := Bx0 BK295 hb; replace HB := Bs1 HB hb GE295.out; (try clear hb); (try clear ho0)) | ((with_reducible refine gate_callee (f := 21) rfl ?_); refine goesL_ (some 66) rfl rfl Try.func21 (by kernel_rfl) rfl #[.slice A0 l0.length c0, .slice A1 l1.length c1] rfl gS ?_; (with_reducible refine (ivl_And.calls kj6 _ _ l0 _ _ l1 t307 t308 _ ?side1 ?side2 ?side3 ?side4 A26.out).mono ?_); (case side1 => repeat (first | exact (Kd.C_below HR0.out HB.out) | (with_reducible refine Kd.C_alloc ?_ _) | (with_reducible refine Kd.C_drewN ?_ _) | (with_reducible refine Kd.C_drew ?_))); (case side2 => exact HC0.out); (case side3 => repeat (first | exact (Kd.C_below HR1.out HB.out) | (with_reducible refine Kd.C_alloc ?_ _) | (with_reducible refine Kd.C_drewN ?_ _) | (with_reducible refine Kd.C_drew ?_))); (case side4 => exact HC1.out); rintro e w71 ⟨v309, rfl, ho0, hb⟩; refine ⟨_, rfl, ?_⟩; have n0_ := Ax (Kd.R_elder' (by (with_reducible repeat (first | apply Kd.R_alloc | apply Kd.R_drewN | apply Kd.R_drew)); exact HO306.out) (Kd.R_base ho0) hb); have n1_ := Ax (Kd.R_lower (Kd.R_newB (Kd.R_new' ho0 (Kd.R_lt (by (with_reducible repeat (first | apply Kd.R_alloc | apply Kd.R_drewN | apply Kd.R_drew)); exact HO306.out))) (g := gb295) (o := .cells #[.int .i64 a2_0, .int .i64 a2_1] 36 (0, 0)) (bf0 BK295.out)) (below_size (bw1 HB.out GE295.out))); have n2_ := Bx0 BK295 hb; have n3_ := Bs1 HB hb GE295.out; clear HO306; clear BK295; clear HB; have HO306 := n0_; have HO310 := n1_; have BK295 := n2_; have HB := n3_; clear n0_ n1_ n2_ n3_; (try clear hb); (try clear ho0); obtain ⟨hcz72_0, hcz72_1, hfz72_0, hfz72_1⟩ := cl2 BK295) | ((with_reducible refine gate_callee (f := 23) rfl ?_); refine goesL_ (some 72) rfl rfl Try.func23 (by kernel_rfl) rfl #[.slice A0 l0.length c0, .agg #[.int .i64 a2_0, .int .i64 a2_1]] rfl gS ?_; (with_reducible refine (ivl_Not.calls kj6 _ _ l0 a2_0 a2_1 t311 t314 _ ?side1 ?side2 A27.out).mono ?_); (case side1 => repeat (first | exact (Kd.C_below HR0.out HB.out) | (with_reducible refine Kd.C_alloc ?_ _) | (with_reducible refine Kd.C_drewN ?_ _) | (with_reducible refine Kd.C_drew ?_))); (case side2 => exact HC0.out); rintro e w73 ⟨v312, rfl, ho0, hb⟩; refine ⟨_, rfl, ?_⟩; have n0_ := Ax (Kd.R_elder' (by (with_reducible repeat (first | apply Kd.R_alloc | apply Kd.R_drewN | apply Kd.R_drew)); exact HO306.out) (Kd.R_base ho0) hb); have n1_ := Ax (Kd.R_elder' (by (with_reducible repeat (first | apply Kd.R_alloc | apply Kd.R_drewN | apply Kd.R_drew)); exact HO310.out) (Kd.R_base ho0) hb); have n2_ := Ax (Kd.R_lower (Kd.R_newB (Kd.R_new' (Kd.R_new' ho0 (Kd.R_lt (by (with_reducible repeat (first | apply Kd.R_alloc | apply Kd.R_drewN | apply Kd.R_drew)); exact HO306.out))) (Kd.R_lt (by (with_reducible repeat (first | apply Kd.R_alloc | apply Kd.R_drewN | apply Kd.R_drew)); exact HO310.out))) (g := gb295) (o := .cells #[.int .i64 a2_0, .int .i64 a2_1] 36 (0, 0)) (bf0 BK295.out)) (below_size (bw1 HB.out GE295.out))); have n3_ := Bx0 BK295 hb; have n4_ := Bs1 HB hb GE295.out; clear HO306; clear HO310; clear BK295; clear HB; have HO306 := n0_; have HO310 := n1_; have HO313 := n2_; have BK295 := n3_; have HB := n4_; clear n0_ n1_ n2_ n3_ n4_; (try clear hb); (try clear ho0); obtain ⟨Ao74, co74, eo74⟩ := Kd.R_slice HO306.out; subst eo74) | ((with_reducible refine gate_callee (f := 12) rfl ?_); refine goesL_ (some 78) rfl rfl Try.func12 (by kernel_rfl) rfl #[.slice Ao74 t303.length co74, .int .i64 a3] rfl gS ?_; (with_reducible refine (ivl_Has.calls kj6 _ _ t303 a3 t315 t316 _ ?side1 ?side2 A28.out).mono ?_); (case side1 => repeat (first | exact (Kd.R_reads' HO306.out).2.2 | (with_reducible refine Kd.C_alloc ?_ _) | (with_reducible refine Kd.C_drewN ?_ _) | (with_reducible refine Kd.C_drew ?_))); (case side2 => exact (Kd.R_reads' HO306.out).2.1); rintro e w75 ⟨rfl, hb⟩; refine ⟨_, rfl, ?_⟩; have n0_ := Ax (Kd.R_below (by (with_reducible repeat (first | apply Kd.R_alloc | apply Kd.R_drewN | apply Kd.R_drew)); exact HO306.out) hb); have n1_ := Ax (Kd.R_below (by (with_reducible repeat (first | apply Kd.R_alloc | apply Kd.R_drewN | apply Kd.R_drew)); exact HO310.out) hb); have n2_ := Ax (Kd.R_below (by (with_reducible repeat (first | apply Kd.R_alloc | apply Kd.R_drewN | apply Kd.R_drew)); exact HO313.out) hb); have n3_ := Bx0 BK295 hb; have n4_ := Bs1 HB hb GE295.out; clear HO306; clear HO310; clear HO313; clear BK295; clear HB; have HO306 := n0_; have HO310 := n1_; have HO313 := n2_; have BK295 := n3_; have HB := n4_; clear n0_ n1_ n2_ n3_ n4_; (try clear hb); obtain ⟨Ao76, co76, eo76⟩ := Kd.R_slice HO310.out; subst eo76) | ((with_reducible refine gate_callee (f := 12) rfl ?_); refine goesL_ (some 84) rfl rfl Try.func12 (by kernel_rfl) rfl #[.slice Ao76 t307.length co76, .int .i64 a3] rfl gS ?_; (with_reducible refine (ivl_Has.calls kj6 _ _ t307 a3 t317 t318 _ ?side1 ?side2 A29.out).mono ?_); (case side1 => repeat (first | exact (Kd.R_reads' HO310.out).2.2 | (with_reducible refine Kd.C_alloc ?_ _) | (with_reducible refine Kd.C_drewN ?_ _) | (with_reducible refine Kd.C_drew ?_))); (case side2 => exact (Kd.R_reads' HO310.out).2.1); rintro e w77 ⟨rfl, hb⟩; refine ⟨_, rfl, ?_⟩; have n0_ := Ax (Kd.R_below (by (with_reducible repeat (first | apply Kd.R_alloc | apply Kd.R_drewN | apply Kd.R_drew)); exact HO306.out) hb); have n1_ := Ax (Kd.R_below (by (with_reducible repeat (first | apply Kd.R_alloc | apply Kd.R_drewN | apply Kd.R_drew)); exact HO310.out) hb); have n2_ := Ax (Kd.R_below (by (with_reducible repeat (first | apply Kd.R_alloc | apply Kd.R_drewN | apply Kd.R_drew)); exact HO313.out) hb); have n3_ := Bx0 BK295 hb; have n4_ := Bs1 HB hb GE295.out; clear HO306; clear HO310; clear HO313; clear BK295; clear HB; have HO306 := n0_; have HO310 := n1_; have HO313 := n2_; have BK295 := n3_; have HB := n4_; clear n0_ n1_ n2_ n3_ n4_; (try clear hb); obtain ⟨Ao78, co78, eo78⟩ := Kd.R_slice HO313.out; subst eo78) | ((with_reducible refine gate_callee (f := 12) rfl ?_); refine goesL_ (some 90) rfl rfl Try.func12 (by kernel_rfl) rfl #[.slice Ao78 t311.length co78, .int .i64 a3] rfl gS ?_; (with_reducible refine (ivl_Has.calls kj6 _ _ t311 a3 t319 t320 _ ?side1 ?side2 A30.out).mono ?_); (case side1 => repeat (first | exact (Kd.R_reads' HO313.out).2.2 | (with_reducible refine Kd.C_alloc ?_ _) | (with_reducible refine Kd.C_drewN ?_ _) | (with_reducible refine Kd.C_drew ?_))); (case side2 => exact (Kd.R_reads' HO313.out).2.1); rintro e w79 ⟨rfl, hb⟩; refine ⟨_, rfl, ?_⟩; have n0_ := Ax (Kd.R_below (by (with_reducible repeat (first | apply Kd.R_alloc | apply Kd.R_drewN | apply Kd.R_drew)); exact HO306.out) hb); have n1_ := Ax (Kd.R_below (by (with_reducible repeat (first | apply Kd.R_alloc | apply Kd.R_drewN | apply Kd.R_drew)); exact HO310.out) hb); have n2_ := Ax (Kd.R_below (by (with_reducible repeat (first | apply Kd.R_alloc | apply Kd.R_drewN | apply Kd.R_drew)); exact HO313.out) hb); have n3_ := Bx0 BK295 hb; have n4_ := Bs1 HB hb GE295.out; clear HO306; clear HO310; clear HO313; clear BK295; clear HB; have HO306 := n0_; have HO310 := n1_; have HO313 := n2_; have BK295 := n3_; have HB := n4_; clear n0_ n1_ n2_ n3_ n4_; (try clear hb)))
             go_ret
             exact ⟨eS, bw1 HB.out GE295.out⟩
            ·rw [if_neg c67] at H
             have c67b0 : (t314 == 2) = false := beq_eq_false_iff_ne.mpr c67
             have c67b1 : (t314 != 2) = true := bne_iff_ne.mpr c67
             by_cases c80 : t314 = 0
             ·rw [if_pos c80] at H
              have c80b0 : (t314 == 0) = true := beq_iff_eq.mpr c80
              have c80b1 : (t314 != 0) = false := bne_eq_false_iff_eq.mpr c80
              clear c80
              by_cases c81 : t320 = 0
              ·rw [if_pos c81] at H
               have c81b0 : (t320 == 0) = true := beq_iff_eq.mpr c81
               have c81b1 : (t320 != 0) = false := bne_eq_false_iff_eq.mpr c81
               clear c81
               by_cases c82 : a2_0 ≤ a3
               ·rw [if_pos c82] at H
                have c82b0 : decide (a2_0 ≤ a3) = true := decide_eq_true c82
                clear c82
                obtain rfl := Option.some.inj H
                go_wp2_with (first | ((with_reducible refine gate_callee (f := 12) rfl ?_); refine goesL_ (some 48) rfl rfl Try.func12 (by kernel_rfl) rfl #[.slice A0 l0.length c0, .int .i64 a3] rfl gS ?_; (with_reducible refine (ivl_Has.calls kj6 _ _ l0 a3 false t300 _ ?side1 ?side2 A23.out).mono ?_); (case side1 => repeat (first | exact (Kd.C_below HR0.out HB.out) | (with_reducible refine Kd.C_alloc ?_ _) | (with_reducible refine Kd.C_drewN ?_ _) | (with_reducible refine Kd.C_drew ?_))); (case side2 => exact HC0.out); rintro e w83 ⟨rfl, hb⟩; refine ⟨_, rfl, ?_⟩; replace BK295 := Bx0 BK295 hb; replace HB := Bs1 HB hb GE295.out; (try clear hb)) | ((with_reducible refine gate_callee (f := 12) rfl ?_); refine goesL_ (some 54) rfl rfl Try.func12 (by kernel_rfl) rfl #[.slice A1 l1.length c1, .int .i64 a3] rfl gS ?_; (with_reducible refine (ivl_Has.calls kj6 _ _ l1 a3 t301 t302 _ ?side1 ?side2 A24.out).mono ?_); (case side1 => repeat (first | exact (Kd.C_below HR1.out HB.out) | (with_reducible refine Kd.C_alloc ?_ _) | (with_reducible refine Kd.C_drewN ?_ _) | (with_reducible refine Kd.C_drew ?_))); (case side2 => exact HC1.out); rintro e w84 ⟨rfl, hb⟩; refine ⟨_, rfl, ?_⟩; replace BK295 := Bx0 BK295 hb; replace HB := Bs1 HB hb GE295.out; (try clear hb)) | ((with_reducible refine gate_callee (f := 19) rfl ?_); refine goesL_ (some 60) rfl rfl Try.func19 (by kernel_rfl) rfl #[.slice A0 l0.length c0, .slice A1 l1.length c1] rfl gS ?_; (with_reducible refine (ivl_Or.calls kj6 _ _ l0 _ _ l1 t303 t304 _ ?side1 ?side2 ?side3 ?side4 A25.out).mono ?_); (case side1 => repeat (first | exact (Kd.C_below HR0.out HB.out) | (with_reducible refine Kd.C_alloc ?_ _) | (with_reducible refine Kd.C_drewN ?_ _) | (with_reducible refine Kd.C_drew ?_))); (case side2 => exact HC0.out); (case side3 => repeat (first | exact (Kd.C_below HR1.out HB.out) | (with_reducible refine Kd.C_alloc ?_ _) | (with_reducible refine Kd.C_drewN ?_ _) | (with_reducible refine Kd.C_drew ?_))); (case side4 => exact HC1.out); rintro e w85 ⟨v305, rfl, ho0, hb⟩; refine ⟨_, rfl, ?_⟩; have HO306 := Ax (Kd.R_lower (Kd.R_newB ho0 (g := gb295) (o := .cells #[.int .i64 a2_0, .int .i64 a2_1] 36 (0, 0)) (bf0 BK295.out)) (below_size (bw1 HB.out GE295.out))); replace BK295 := Bx0 BK295 hb; replace HB := Bs1 HB hb GE295.out; (try clear hb); (try clear ho0)) | ((with_reducible refine gate_callee (f := 21) rfl ?_); refine goesL_ (some 66) rfl rfl Try.func21 (by kernel_rfl) rfl #[.slice A0 l0.length c0, .slice A1 l1.length c1] rfl gS ?_; (with_reducible refine (ivl_And.calls kj6 _ _ l0 _ _ l1 t307 t308 _ ?side1 ?side2 ?side3 ?side4 A26.out).mono ?_); (case side1 => repeat (first | exact (Kd.C_below HR0.out HB.out) | (with_reducible refine Kd.C_alloc ?_ _) | (with_reducible refine Kd.C_drewN ?_ _) | (with_reducible refine Kd.C_drew ?_))); (case side2 => exact HC0.out); (case side3 => repeat (first | exact (Kd.C_below HR1.out HB.out) | (with_reducible refine Kd.C_alloc ?_ _) | (with_reducible refine Kd.C_drewN ?_ _) | (with_reducible refine Kd.C_drew ?_))); (case side4 => exact HC1.out); rintro e w86 ⟨v309, rfl, ho0, hb⟩; refine ⟨_, rfl, ?_⟩; have n0_ := Ax (Kd.R_elder' (by (with_reducible repeat (first | apply Kd.R_alloc | apply Kd.R_drewN | apply Kd.R_drew)); exact HO306.out) (Kd.R_base ho0) hb); have n1_ := Ax (Kd.R_lower (Kd.R_newB (Kd.R_new' ho0 (Kd.R_lt (by (with_reducible repeat (first | apply Kd.R_alloc | apply Kd.R_drewN | apply Kd.R_drew)); exact HO306.out))) (g := gb295) (o := .cells #[.int .i64 a2_0, .int .i64 a2_1] 36 (0, 0)) (bf0 BK295.out)) (below_size (bw1 HB.out GE295.out))); have n2_ := Bx0 BK295 hb; have n3_ := Bs1 HB hb GE295.out; clear HO306; clear BK295; clear HB; have HO306 := n0_; have HO310 := n1_; have BK295 := n2_; have HB := n3_; clear n0_ n1_ n2_ n3_; (try clear hb); (try clear ho0); obtain ⟨hcz87_0, hcz87_1, hfz87_0, hfz87_1⟩ := cl2 BK295) | ((with_reducible refine gate_callee (f := 23) rfl ?_); refine goesL_ (some 72) rfl rfl Try.func23 (by kernel_rfl) rfl #[.slice A0 l0.length c0, .agg #[.int .i64 a2_0, .int .i64 a2_1]] rfl gS ?_; (with_reducible refine (ivl_Not.calls kj6 _ _ l0 a2_0 a2_1 t311 t314 _ ?side1 ?side2 A27.out).mono ?_); (case side1 => repeat (first | exact (Kd.C_below HR0.out HB.out) | (with_reducible refine Kd.C_alloc ?_ _) | (with_reducible refine Kd.C_drewN ?_ _) | (with_reducible refine Kd.C_drew ?_))); (case side2 => exact HC0.out); rintro e w88 ⟨v312, rfl, ho0, hb⟩; refine ⟨_, rfl, ?_⟩; have n0_ := Ax (Kd.R_elder' (by (with_reducible repeat (first | apply Kd.R_alloc | apply Kd.R_drewN | apply Kd.R_drew)); exact HO306.out) (Kd.R_base ho0) hb); have n1_ := Ax (Kd.R_elder' (by (with_reducible repeat (first | apply Kd.R_alloc | apply Kd.R_drewN | apply Kd.R_drew)); exact HO310.out) (Kd.R_base ho0) hb); have n2_ := Ax (Kd.R_lower (Kd.R_newB (Kd.R_new' (Kd.R_new' ho0 (Kd.R_lt (by (with_reducible repeat (first | apply Kd.R_alloc | apply Kd.R_drewN | apply Kd.R_drew)); exact HO306.out))) (Kd.R_lt (by (with_reducible repeat (first | apply Kd.R_alloc | apply Kd.R_drewN | apply Kd.R_drew)); exact HO310.out))) (g := gb295) (o := .cells #[.int .i64 a2_0, .int .i64 a2_1] 36 (0, 0)) (bf0 BK295.out)) (below_size (bw1 HB.out GE295.out))); have n3_ := Bx0 BK295 hb; have n4_ := Bs1 HB hb GE295.out; clear HO306; clear HO310; clear BK295; clear HB; have HO306 := n0_; have HO310 := n1_; have HO313 := n2_; have BK295 := n3_; have HB := n4_; clear n0_ n1_ n2_ n3_ n4_; (try clear hb); (try clear ho0); obtain ⟨Ao89, co89, eo89⟩ := Kd.R_slice HO306.out; subst eo89) | ((with_reducible refine gate_callee (f := 12) rfl ?_); refine goesL_ (some 78) rfl rfl Try.func12 (by kernel_rfl) rfl #[.slice Ao89 t303.length co89, .int .i64 a3] rfl gS ?_; (with_reducible refine (ivl_Has.calls kj6 _ _ t303 a3 t315 t316 _ ?side1 ?side2 A28.out).mono ?_); (case side1 => repeat (first | exact (Kd.R_reads' HO306.out).2.2 | (with_reducible refine Kd.C_alloc ?_ _) | (with_reducible refine Kd.C_drewN ?_ _) | (with_reducible refine Kd.C_drew ?_))); (case side2 => exact (Kd.R_reads' HO306.out).2.1); rintro e w90 ⟨rfl, hb⟩; refine ⟨_, rfl, ?_⟩; have n0_ := Ax (Kd.R_below (by (with_reducible repeat (first | apply Kd.R_alloc | apply Kd.R_drewN | apply Kd.R_drew)); exact HO306.out) hb); have n1_ := Ax (Kd.R_below (by (with_reducible repeat (first | apply Kd.R_alloc | apply Kd.R_drewN | apply Kd.R_drew)); exact HO310.out) hb); have n2_ := Ax (Kd.R_below (by (with_reducible repeat (first | apply Kd.R_alloc | apply Kd.R_drewN | apply Kd.R_drew)); exact HO313.out) hb); have n3_ := Bx0 BK295 hb; have n4_ := Bs1 HB hb GE295.out; clear HO306; clear HO310; clear HO313; clear BK295; clear HB; have HO306 := n0_; have HO310 := n1_; have HO313 := n2_; have BK295 := n3_; have HB := n4_; clear n0_ n1_ n2_ n3_ n4_; (try clear hb); obtain ⟨Ao91, co91, eo91⟩ := Kd.R_slice HO310.out; subst eo91) | ((with_reducible refine gate_callee (f := 12) rfl ?_); refine goesL_ (some 84) rfl rfl Try.func12 (by kernel_rfl) rfl #[.slice Ao91 t307.length co91, .int .i64 a3] rfl gS ?_; (with_reducible refine (ivl_Has.calls kj6 _ _ t307 a3 t317 t318 _ ?side1 ?side2 A29.out).mono ?_); (case side1 => repeat (first | exact (Kd.R_reads' HO310.out).2.2 | (with_reducible refine Kd.C_alloc ?_ _) | (with_reducible refine Kd.C_drewN ?_ _) | (with_reducible refine Kd.C_drew ?_))); (case side2 => exact (Kd.R_reads' HO310.out).2.1); rintro e w92 ⟨rfl, hb⟩; refine ⟨_, rfl, ?_⟩; have n0_ := Ax (Kd.R_below (by (with_reducible repeat (first | apply Kd.R_alloc | apply Kd.R_drewN | apply Kd.R_drew)); exact HO306.out) hb); have n1_ := Ax (Kd.R_below (by (with_reducible repeat (first | apply Kd.R_alloc | apply Kd.R_drewN | apply Kd.R_drew)); exact HO310.out) hb); have n2_ := Ax (Kd.R_below (by (with_reducible repeat (first | apply Kd.R_alloc | apply Kd.R_drewN | apply Kd.R_drew)); exact HO313.out) hb); have n3_ := Bx0 BK295 hb; have n4_ := Bs1 HB hb GE295.out; clear HO306; clear HO310; clear HO313; clear BK295; clear HB; have HO306 := n0_; have HO310 := n1_; have HO313 := n2_; have BK295 := n3_; have HB := n4_; clear n0_ n1_ n2_ n3_ n4_; (try clear hb); obtain ⟨Ao93, co93, eo93⟩ := Kd.R_slice HO313.out; subst eo93) | ((with_reducible refine gate_callee (f := 12) rfl ?_); refine goesL_ (some 90) rfl rfl Try.func12 (by kernel_rfl) rfl #[.slice Ao93 t311.length co93, .int .i64 a3] rfl gS ?_; (with_reducible refine (ivl_Has.calls kj6 _ _ t311 a3 t319 t320 _ ?side1 ?side2 A30.out).mono ?_); (case side1 => repeat (first | exact (Kd.R_reads' HO313.out).2.2 | (with_reducible refine Kd.C_alloc ?_ _) | (with_reducible refine Kd.C_drewN ?_ _) | (with_reducible refine Kd.C_drew ?_))); (case side2 => exact (Kd.R_reads' HO313.out).2.1); rintro e w94 ⟨rfl, hb⟩; refine ⟨_, rfl, ?_⟩; have n0_ := Ax (Kd.R_below (by (with_reducible repeat (first | apply Kd.R_alloc | apply Kd.R_drewN | apply Kd.R_drew)); exact HO306.out) hb); have n1_ := Ax (Kd.R_below (by (with_reducible repeat (first | apply Kd.R_alloc | apply Kd.R_drewN | apply Kd.R_drew)); exact HO310.out) hb); have n2_ := Ax (Kd.R_below (by (with_reducible repeat (first | apply Kd.R_alloc | apply Kd.R_drewN | apply Kd.R_drew)); exact HO313.out) hb); have n3_ := Bx0 BK295 hb; have n4_ := Bs1 HB hb GE295.out; clear HO306; clear HO310; clear HO313; clear BK295; clear HB; have HO306 := n0_; have HO310 := n1_; have HO313 := n2_; have BK295 := n3_; have HB := n4_; clear n0_ n1_ n2_ n3_ n4_; (try clear hb); obtain ⟨hcz95_0, hcz95_1, hfz95_0, hfz95_1⟩ := cl2 BK295))
                go_ret
                exact ⟨eS, bw1 HB.out GE295.out⟩
               ·rw [if_neg c82] at H
                have c82b0 : decide (a2_0 ≤ a3) = false := decide_eq_false c82
                clear c82
                obtain rfl := Option.some.inj H
                go_wp2_with (first | ((with_reducible refine gate_callee (f := 12) rfl ?_); refine goesL_ (some 48) rfl rfl Try.func12 (by kernel_rfl) rfl #[.slice A0 l0.length c0, .int .i64 a3] rfl gS ?_; (with_reducible refine (ivl_Has.calls kj6 _ _ l0 a3 false t300 _ ?side1 ?side2 A23.out).mono ?_); (case side1 => repeat (first | exact (Kd.C_below HR0.out HB.out) | (with_reducible refine Kd.C_alloc ?_ _) | (with_reducible refine Kd.C_drewN ?_ _) | (with_reducible refine Kd.C_drew ?_))); (case side2 => exact HC0.out); rintro e w96 ⟨rfl, hb⟩; refine ⟨_, rfl, ?_⟩; replace BK295 := Bx0 BK295 hb; replace HB := Bs1 HB hb GE295.out; (try clear hb)) | ((with_reducible refine gate_callee (f := 12) rfl ?_); refine goesL_ (some 54) rfl rfl Try.func12 (by kernel_rfl) rfl #[.slice A1 l1.length c1, .int .i64 a3] rfl gS ?_; (with_reducible refine (ivl_Has.calls kj6 _ _ l1 a3 t301 t302 _ ?side1 ?side2 A24.out).mono ?_); (case side1 => repeat (first | exact (Kd.C_below HR1.out HB.out) | (with_reducible refine Kd.C_alloc ?_ _) | (with_reducible refine Kd.C_drewN ?_ _) | (with_reducible refine Kd.C_drew ?_))); (case side2 => exact HC1.out); rintro e w97 ⟨rfl, hb⟩; refine ⟨_, rfl, ?_⟩; replace BK295 := Bx0 BK295 hb; replace HB := Bs1 HB hb GE295.out; (try clear hb)) | ((with_reducible refine gate_callee (f := 19) rfl ?_); refine goesL_ (some 60) rfl rfl Try.func19 (by kernel_rfl) rfl #[.slice A0 l0.length c0, .slice A1 l1.length c1] rfl gS ?_; (with_reducible refine (ivl_Or.calls kj6 _ _ l0 _ _ l1 t303 t304 _ ?side1 ?side2 ?side3 ?side4 A25.out).mono ?_); (case side1 => repeat (first | exact (Kd.C_below HR0.out HB.out) | (with_reducible refine Kd.C_alloc ?_ _) | (with_reducible refine Kd.C_drewN ?_ _) | (with_reducible refine Kd.C_drew ?_))); (case side2 => exact HC0.out); (case side3 => repeat (first | exact (Kd.C_below HR1.out HB.out) | (with_reducible refine Kd.C_alloc ?_ _) | (with_reducible refine Kd.C_drewN ?_ _) | (with_reducible refine Kd.C_drew ?_))); (case side4 => exact HC1.out); rintro e w98 ⟨v305, rfl, ho0, hb⟩; refine ⟨_, rfl, ?_⟩; have HO306 := Ax (Kd.R_lower (Kd.R_newB ho0 (g := gb295) (o := .cells #[.int .i64 a2_0, .int .i64 a2_1] 36 (0, 0)) (bf0 BK295.out)) (below_size (bw1 HB.out GE295.out))); replace BK295 := Bx0 BK295 hb; replace HB := Bs1 HB hb GE295.out; (try clear hb); (try clear ho0)) | ((with_reducible refine gate_callee (f := 21) rfl ?_); refine goesL_ (some 66) rfl rfl Try.func21 (by kernel_rfl) rfl #[.slice A0 l0.length c0, .slice A1 l1.length c1] rfl gS ?_; (with_reducible refine (ivl_And.calls kj6 _ _ l0 _ _ l1 t307 t308 _ ?side1 ?side2 ?side3 ?side4 A26.out).mono ?_); (case side1 => repeat (first | exact (Kd.C_below HR0.out HB.out) | (with_reducible refine Kd.C_alloc ?_ _) | (with_reducible refine Kd.C_drewN ?_ _) | (with_reducible refine Kd.C_drew ?_))); (case side2 => exact HC0.out); (case side3 => repeat (first | exact (Kd.C_below HR1.out HB.out) | (with_reducible refine Kd.C_alloc ?_ _) | (with_reducible refine Kd.C_drewN ?_ _) | (with_reducible refine Kd.C_drew ?_))); (case side4 => exact HC1.out); rintro e w99 ⟨v309, rfl, ho0, hb⟩; refine ⟨_, rfl, ?_⟩; have n0_ := Ax (Kd.R_elder' (by (with_reducible repeat (first | apply Kd.R_alloc | apply Kd.R_drewN | apply Kd.R_drew)); exact HO306.out) (Kd.R_base ho0) hb); have n1_ := Ax (Kd.R_lower (Kd.R_newB (Kd.R_new' ho0 (Kd.R_lt (by (with_reducible repeat (first | apply Kd.R_alloc | apply Kd.R_drewN | apply Kd.R_drew)); exact HO306.out))) (g := gb295) (o := .cells #[.int .i64 a2_0, .int .i64 a2_1] 36 (0, 0)) (bf0 BK295.out)) (below_size (bw1 HB.out GE295.out))); have n2_ := Bx0 BK295 hb; have n3_ := Bs1 HB hb GE295.out; clear HO306; clear BK295; clear HB; have HO306 := n0_; have HO310 := n1_; have BK295 := n2_; have HB := n3_; clear n0_ n1_ n2_ n3_; (try clear hb); (try clear ho0); obtain ⟨hcz100_0, hcz100_1, hfz100_0, hfz100_1⟩ := cl2 BK295) | ((with_reducible refine gate_callee (f := 23) rfl ?_); refine goesL_ (some 72) rfl rfl Try.func23 (by kernel_rfl) rfl #[.slice A0 l0.length c0, .agg #[.int .i64 a2_0, .int .i64 a2_1]] rfl gS ?_; (with_reducible refine (ivl_Not.calls kj6 _ _ l0 a2_0 a2_1 t311 t314 _ ?side1 ?side2 A27.out).mono ?_); (case side1 => repeat (first | exact (Kd.C_below HR0.out HB.out) | (with_reducible refine Kd.C_alloc ?_ _) | (with_reducible refine Kd.C_drewN ?_ _) | (with_reducible refine Kd.C_drew ?_))); (case side2 => exact HC0.out); rintro e w101 ⟨v312, rfl, ho0, hb⟩; refine ⟨_, rfl, ?_⟩; have n0_ := Ax (Kd.R_elder' (by (with_reducible repeat (first | apply Kd.R_alloc | apply Kd.R_drewN | apply Kd.R_drew)); exact HO306.out) (Kd.R_base ho0) hb); have n1_ := Ax (Kd.R_elder' (by (with_reducible repeat (first | apply Kd.R_alloc | apply Kd.R_drewN | apply Kd.R_drew)); exact HO310.out) (Kd.R_base ho0) hb); have n2_ := Ax (Kd.R_lower (Kd.R_newB (Kd.R_new' (Kd.R_new' ho0 (Kd.R_lt (by (with_reducible repeat (first | apply Kd.R_alloc | apply Kd.R_drewN | apply Kd.R_drew)); exact HO306.out))) (Kd.R_lt (by (with_reducible repeat (first | apply Kd.R_alloc | apply Kd.R_drewN | apply Kd.R_drew)); exact HO310.out))) (g := gb295) (o := .cells #[.int .i64 a2_0, .int .i64 a2_1] 36 (0, 0)) (bf0 BK295.out)) (below_size (bw1 HB.out GE295.out))); have n3_ := Bx0 BK295 hb; have n4_ := Bs1 HB hb GE295.out; clear HO306; clear HO310; clear BK295; clear HB; have HO306 := n0_; have HO310 := n1_; have HO313 := n2_; have BK295 := n3_; have HB := n4_; clear n0_ n1_ n2_ n3_ n4_; (try clear hb); (try clear ho0); obtain ⟨Ao102, co102, eo102⟩ := Kd.R_slice HO306.out; subst eo102) | ((with_reducible refine gate_callee (f := 12) rfl ?_); refine goesL_ (some 78) rfl rfl Try.func12 (by kernel_rfl) rfl #[.slice Ao102 t303.length co102, .int .i64 a3] rfl gS ?_; (with_reducible refine (ivl_Has.calls kj6 _ _ t303 a3 t315 t316 _ ?side1 ?side2 A28.out).mono ?_); (case side1 => repeat (first | exact (Kd.R_reads' HO306.out).2.2 | (with_reducible refine Kd.C_alloc ?_ _) | (with_reducible refine Kd.C_drewN ?_ _) | (with_reducible refine Kd.C_drew ?_))); (case side2 => exact (Kd.R_reads' HO306.out).2.1); rintro e w103 ⟨rfl, hb⟩; refine ⟨_, rfl, ?_⟩; have n0_ := Ax (Kd.R_below (by (with_reducible repeat (first | apply Kd.R_alloc | apply Kd.R_drewN | apply Kd.R_drew)); exact HO306.out) hb); have n1_ := Ax (Kd.R_below (by (with_reducible repeat (first | apply Kd.R_alloc | apply Kd.R_drewN | apply Kd.R_drew)); exact HO310.out) hb); have n2_ := Ax (Kd.R_below (by (with_reducible repeat (first | apply Kd.R_alloc | apply Kd.R_drewN | apply Kd.R_drew)); exact HO313.out) hb); have n3_ := Bx0 BK295 hb; have n4_ := Bs1 HB hb GE295.out; clear HO306; clear HO310; clear HO313; clear BK295; clear HB; have HO306 := n0_; have HO310 := n1_; have HO313 := n2_; have BK295 := n3_; have HB := n4_; clear n0_ n1_ n2_ n3_ n4_; (try clear hb); obtain ⟨Ao104, co104, eo104⟩ := Kd.R_slice HO310.out; subst eo104) | ((with_reducible refine gate_callee (f := 12) rfl ?_); refine goesL_ (some 84) rfl rfl Try.func12 (by kernel_rfl) rfl #[.slice Ao104 t307.length co104, .int .i64 a3] rfl gS ?_; (with_reducible refine (ivl_Has.calls kj6 _ _ t307 a3 t317 t318 _ ?side1 ?side2 A29.out).mono ?_); (case side1 => repeat (first | exact (Kd.R_reads' HO310.out).2.2 | (with_reducible refine Kd.C_alloc ?_ _) | (with_reducible refine Kd.C_drewN ?_ _) | (with_reducible refine Kd.C_drew ?_))); (case side2 => exact (Kd.R_reads' HO310.out).2.1); rintro e w105 ⟨rfl, hb⟩; refine ⟨_, rfl, ?_⟩; have n0_ := Ax (Kd.R_below (by (with_reducible repeat (first | apply Kd.R_alloc | apply Kd.R_drewN | apply Kd.R_drew)); exact HO306.out) hb); have n1_ := Ax (Kd.R_below (by (with_reducible repeat (first | apply Kd.R_alloc | apply Kd.R_drewN | apply Kd.R_drew)); exact HO310.out) hb); have n2_ := Ax (Kd.R_below (by (with_reducible repeat (first | apply Kd.R_alloc | apply Kd.R_drewN | apply Kd.R_drew)); exact HO313.out) hb); have n3_ := Bx0 BK295 hb; have n4_ := Bs1 HB hb GE295.out; clear HO306; clear HO310; clear HO313; clear BK295; clear HB; have HO306 := n0_; have HO310 := n1_; have HO313 := n2_; have BK295 := n3_; have HB := n4_; clear n0_ n1_ n2_ n3_ n4_; (try clear hb); obtain ⟨Ao106, co106, eo106⟩ := Kd.R_slice HO313.out; subst eo106) | ((with_reducible refine gate_callee (f := 12) rfl ?_); refine goesL_ (some 90) rfl rfl Try.func12 (by kernel_rfl) rfl #[.slice Ao106 t311.length co106, .int .i64 a3] rfl gS ?_; (with_reducible refine (ivl_Has.calls kj6 _ _ t311 a3 t319 t320 _ ?side1 ?side2 A30.out).mono ?_); (case side1 => repeat (first | exact (Kd.R_reads' HO313.out).2.2 | (with_reducible refine Kd.C_alloc ?_ _) | (with_reducible refine Kd.C_drewN ?_ _) | (with_reducible refine Kd.C_drew ?_))); (case side2 => exact (Kd.R_reads' HO313.out).2.1); rintro e w107 ⟨rfl, hb⟩; refine ⟨_, rfl, ?_⟩; have n0_ := Ax (Kd.R_below (by (with_reducible repeat (first | apply Kd.R_alloc | apply Kd.R_drewN | apply Kd.R_drew)); exact HO306.out) hb); have n1_ := Ax (Kd.R_below (by (with_reducible repeat (first | apply Kd.R_alloc | apply Kd.R_drewN | apply Kd.R_drew)); exact HO310.out) hb); have n2_ := Ax (Kd.R_below (by (with_reducible repeat (first | apply Kd.R_alloc | apply Kd.R_drewN | apply Kd.R_drew)); exact HO313.out) hb); have n3_ := Bx0 BK295 hb; have n4_ := Bs1 HB hb GE295.out; clear HO306; clear HO310; clear HO313; clear BK295; clear HB; have HO306 := n0_; have HO310 := n1_; have HO313 := n2_; have BK295 := n3_; have HB := n4_; clear n0_ n1_ n2_ n3_ n4_; (try clear hb); obtain ⟨hcz108_0, hcz108_1, hfz108_0, hfz108_1⟩ := cl2 BK295))
                go_ret
                exact ⟨eS, bw1 HB.out GE295.out⟩
              ·rw [if_neg c81] at H
               exact absurd H (by simp)
             ·rw [if_neg c80] at H
              exact absurd H (by simp)
        ·rw [if_neg c34] at H
         exact absurd H (by simp)
       ·rw [if_neg c33] at H
        exact absurd H (by simp)
      ·rw [if_neg c32] at H
       exact absurd H (by simp)
     ·rw [if_neg c31] at H
      exact absurd H (by simp)
 ·replace c6 := Bool.eq_false_iff.mpr c6
  subst c6
  have H1 : (none) = some r := by rw [if_neg (show ¬ (false = true) by decide)] at H; exact H
  clear H
  have H := H1
  clear H1
  exact absurd H (by simp)
mutual
def spoorlaw19_IvlLong.j0 : Nat → List (S36) → List (S36) → Bool → Int → Int → Option (Bool)
 | 0, _, _, _, _, _ => none
 | k + 1, x0, x1, x43, x322000, x322001 => if x43 = true then (some true) else ((ivl_Or.f k x0 x1).bind fun bt325 => ((ivl_And.f k x0 x1).bind fun bt329 => ((ivl_Long.f k x0).bind fun bt333 => ((ivl_Long.f k x1).bind fun bt335 => ((ivl_Long.f k bt325.1).bind fun bt337 => ((ivl_Long.f k bt329.1).bind fun bt339 => (if bt333.2 = 0 then (if bt335.2 = 0 then (if bt337.2 = 0 then (if bt339.2 = 0 then (spoorlaw19_IvlLong.j1 k x0 bt333.1 ((wrap64 (bt333.1 + bt335.1)) != (wrap64 (bt337.1 + bt339.1))) x322000 x322001) else (spoorlaw19_IvlLong.j1 k x0 bt333.1 true x322000 x322001)) else (spoorlaw19_IvlLong.j1 k x0 bt333.1 true x322000 x322001)) else (spoorlaw19_IvlLong.j1 k x0 bt333.1 true x322000 x322001)) else (spoorlaw19_IvlLong.j1 k x0 bt333.1 true x322000 x322001))))))))
def spoorlaw19_IvlLong.j1 : Nat → List (S36) → Int → Bool → Int → Int → Option (Bool)
 | 0, _, _, _, _, _ => none
 | k + 1, x0, x11, x98, x322000, x322001 => if x98 = true then (none) else ((ivl_Not.f k x0 x322000 x322001).bind fun bt341 => ((ivl_Long.f k bt341.1).bind fun bt345 => (if bt341.2 = 0 then (if (x0.length : Int) > 0 then (if 0 < (x0.length : Int) then (if ((rd_T36 x0 0).f0) < x322000 then (some true) else (if 0 ≤ (wrap64 ((x0.length : Int) - 1)) then (if (wrap64 ((x0.length : Int) - 1)) < (x0.length : Int) then (if ((rd_T36 x0 (wrap64 ((x0.length : Int) - 1))).f1) > x322001 then (some true) else (if bt345.2 = 0 then (some ((wrap64 (x11 + bt345.1)) == (wrap64 ((wrap64 (x322001 - x322000)) + 1)))) else (none))) else (none)) else (none))) else (none)) else (if bt345.2 = 0 then (some ((wrap64 (x11 + bt345.1)) == (wrap64 ((wrap64 (x322001 - x322000)) + 1)))) else (none))) else (some true))))
end
def spoorlaw19_IvlLong.f (k : Nat) (l0 : List (S36)) (l1 : List (S36)) (a2_0 : Int) (a2_1 : Int) : Option (Bool) := (spoorlaw19_lives.f k).bind fun t322 => (if t322 = true then ((ivl_Check.f k l0).bind fun t323 => (if t323 = 0 then ((ivl_Check.f k l1).bind fun t324 => (if t324 = 0 then (if (l0.length : Int) > 400 then (spoorlaw19_IvlLong.j0 k l0 l1 true a2_0 a2_1) else (spoorlaw19_IvlLong.j0 k l0 l1 (decide ((l1.length : Int) > 400)) a2_0 a2_1)) else (spoorlaw19_IvlLong.j0 k l0 l1 true a2_0 a2_1))) else (spoorlaw19_IvlLong.j0 k l0 l1 true a2_0 a2_1))) else (none))
set_option maxHeartbeats 8000000 in
set_option maxRecDepth 100000 in
theorem spoorlaw19_IvlLong.calls (k : Nat) (A0 : Option Addr) (c0 : Nat) (l0 : List (S36)) (A1 : Option Addr) (c1 : Nat) (l1 : List (S36)) (a2_0 : Int) (a2_1 : Int) (r : Bool) (w : World) (hr0 : Kd.C k36 w A0 l0.length l0) (hc0 : l0.length ≤ c0) (hr1 : Kd.C k36 w A1 l1.length l1) (hc1 : l1.length ≤ c1) (h : spoorlaw19_IvlLong.f k l0 l1 a2_0 a2_1 = some r) :
  Calls Try.prog 6 #[.slice A0 l0.length c0, .slice A1 l1.length c1, .agg #[.int .i64 a2_0, .int .i64 a2_1]] w fun e w' => e = .returned (.bool r) ∧ Below w.heap.size w w' := by
 have hu36 := Try.underlying36
 have HR0 := Ax hr0
 have HC0 := Ax hc0
 clear hr0 hc0
 have HR1 := Ax hr1
 have HC1 := Ax hc1
 clear hr1 hc1
 have HB := Ax (Below.refl w.heap.size w)
 have H : ((spoorlaw19_lives.f k).bind fun t322 => (if t322 = true then ((ivl_Check.f k l0).bind fun t323 => (if t323 = 0 then ((ivl_Check.f k l1).bind fun t324 => (if t324 = 0 then (if (l0.length : Int) > 400 then (spoorlaw19_IvlLong.j0 k l0 l1 true a2_0 a2_1) else (spoorlaw19_IvlLong.j0 k l0 l1 (decide ((l1.length : Int) > 400)) a2_0 a2_1)) else (spoorlaw19_IvlLong.j0 k l0 l1 true a2_0 a2_1))) else (spoorlaw19_IvlLong.j0 k l0 l1 true a2_0 a2_1))) else (none))) = some r := h
 clear h
 replace H := Option.bind_eq_some_iff.mp H
 obtain ⟨t322, A40, H⟩ := H
 replace H : (if t322 = true then ((ivl_Check.f k l0).bind fun t323 => (if t323 = 0 then ((ivl_Check.f k l1).bind fun t324 => (if t324 = 0 then (if (l0.length : Int) > 400 then (spoorlaw19_IvlLong.j0 k l0 l1 true a2_0 a2_1) else (spoorlaw19_IvlLong.j0 k l0 l1 (decide ((l1.length : Int) > 400)) a2_0 a2_1)) else (spoorlaw19_IvlLong.j0 k l0 l1 true a2_0 a2_1))) else (spoorlaw19_IvlLong.j0 k l0 l1 true a2_0 a2_1))) else (none)) = some r := H
 have A4 := Ax A40
 clear A40
 by_cases c5 : t322 = true
 ·subst c5
  have H1 : ((ivl_Check.f k l0).bind fun t323 => (if t323 = 0 then ((ivl_Check.f k l1).bind fun t324 => (if t324 = 0 then (if (l0.length : Int) > 400 then (spoorlaw19_IvlLong.j0 k l0 l1 true a2_0 a2_1) else (spoorlaw19_IvlLong.j0 k l0 l1 (decide ((l1.length : Int) > 400)) a2_0 a2_1)) else (spoorlaw19_IvlLong.j0 k l0 l1 true a2_0 a2_1))) else (spoorlaw19_IvlLong.j0 k l0 l1 true a2_0 a2_1))) = some r := by rw [if_pos rfl] at H; exact H
  clear H
  have H := H1
  clear H1
  have HC6 := Ax H
  clear H
  go_enter Try.func6, Try.ntmps6
  go_upto_region 3 with (first | ((with_reducible refine gate_dst (N := 5) rfl ?_); refine box_event ?hg (N := 5) ?hd (cs := #[.int .i64 a2_0, .int .i64 a2_1]) (t := 36) ?hr ?_; (case hd => rfl); (case hg => rfl); (case hr => first | (go_simp; done) | (go_simp; rfl)); intro gb321 hg w7 hbox hb; have n0_ := Bs0 HB hb; have n1_ := Ax (hbox); have n2_ := Gw0 HB hg; have n3_ := Gw0 HB hg; clear HB; have HB := n0_; have BK321 := n1_; have GW321 := n2_; have GE321 := n3_; clear n0_ n1_ n2_ n3_; clear hb hbox hg) | (go_at_call 9; (with_reducible refine (spoorlaw19_lives.calls k  true _ A4.out).mono ?_); rintro e w8 ⟨rfl, hb⟩; replace BK321 := Bx0 BK321 hb; replace HB := Bs1 HB hb GE321.out; (try clear hb)))
  repeat (go_quiet (first | ((with_reducible refine gate_dst (N := 5) rfl ?_); refine box_event ?hg (N := 5) ?hd (cs := #[.int .i64 a2_0, .int .i64 a2_1]) (t := 36) ?hr ?_; (case hd => rfl); (case hg => rfl); (case hr => first | (go_simp; done) | (go_simp; rfl)); intro gb321 hg w7 hbox hb; have n0_ := Bs0 HB hb; have n1_ := Ax (hbox); have n2_ := Gw0 HB hg; have n3_ := Gw0 HB hg; clear HB; have HB := n0_; have BK321 := n1_; have GW321 := n2_; have GE321 := n3_; clear n0_ n1_ n2_ n3_; clear hb hbox hg) | (go_at_call 9; (with_reducible refine (spoorlaw19_lives.calls k  true _ A4.out).mono ?_); rintro e w8 ⟨rfl, hb⟩; replace BK321 := Bx0 BK321 hb; replace HB := Bs1 HB hb GE321.out; (try clear hb))); go_upto_region 3 with (first | ((with_reducible refine gate_dst (N := 5) rfl ?_); refine box_event ?hg (N := 5) ?hd (cs := #[.int .i64 a2_0, .int .i64 a2_1]) (t := 36) ?hr ?_; (case hd => rfl); (case hg => rfl); (case hr => first | (go_simp; done) | (go_simp; rfl)); intro gb321 hg w7 hbox hb; have n0_ := Bs0 HB hb; have n1_ := Ax (hbox); have n2_ := Gw0 HB hg; have n3_ := Gw0 HB hg; clear HB; have HB := n0_; have BK321 := n1_; have GW321 := n2_; have GE321 := n3_; clear n0_ n1_ n2_ n3_; clear hb hbox hg) | (go_at_call 9; (with_reducible refine (spoorlaw19_lives.calls k  true _ A4.out).mono ?_); rintro e w8 ⟨rfl, hb⟩; replace BK321 := Bx0 BK321 hb; replace HB := Bs1 HB hb GE321.out; (try clear hb))))
  (try simp only [Act.put, List.setIfInBounds_toArray, List.set_cons_zero, List.set_cons_succ])
  go_cut [43] (fun v43 wc => ∃ (kq : Nat) (x43_5 : Bool), v43 = .bool x43_5 ∧ Aside0 (spoorlaw19_IvlLong.j0 kq l0 l1 x43_5 a2_0 a2_1 = some r) ∧ Aside0 (kq ≤ k) ∧ Aside0 (wc.heap[gb321]? = some (.cells #[.int .i64 a2_0, .int .i64 a2_1] 36 (0, 0))) ∧ Aside0 (Below w.heap.size w wc))
  case first =>
   have H := HC6.out
   clear HC6
   replace H := Option.bind_eq_some_iff.mp H
   obtain ⟨t323, A90, H⟩ := H
   replace H : (if t323 = 0 then ((ivl_Check.f k l1).bind fun t324 => (if t324 = 0 then (if (l0.length : Int) > 400 then (spoorlaw19_IvlLong.j0 k l0 l1 true a2_0 a2_1) else (spoorlaw19_IvlLong.j0 k l0 l1 (decide ((l1.length : Int) > 400)) a2_0 a2_1)) else (spoorlaw19_IvlLong.j0 k l0 l1 true a2_0 a2_1))) else (spoorlaw19_IvlLong.j0 k l0 l1 true a2_0 a2_1)) = some r := H
   have A9 := Ax A90
   clear A90
   by_cases c10 : t323 = 0
   ·rw [if_pos c10] at H
    have c10b0 : (t323 == 0) = true := beq_iff_eq.mpr c10
    have c10b1 : (t323 != 0) = false := bne_eq_false_iff_eq.mpr c10
    clear c10
    (first | rw [c10b0] | (simp only [i64_w, i32_w]; rw [c10b0]) | skip)
    replace H := Option.bind_eq_some_iff.mp H
    obtain ⟨t324, A110, H⟩ := H
    replace H : (if t324 = 0 then (if (l0.length : Int) > 400 then (spoorlaw19_IvlLong.j0 k l0 l1 true a2_0 a2_1) else (spoorlaw19_IvlLong.j0 k l0 l1 (decide ((l1.length : Int) > 400)) a2_0 a2_1)) else (spoorlaw19_IvlLong.j0 k l0 l1 true a2_0 a2_1)) = some r := H
    have A11 := Ax A110
    clear A110
    by_cases c12 : t324 = 0
    ·rw [if_pos c12] at H
     have c12b0 : (t324 == 0) = true := beq_iff_eq.mpr c12
     have c12b1 : (t324 != 0) = false := bne_eq_false_iff_eq.mpr c12
     clear c12
     by_cases c13 : (l0.length : Int) > 400
     ·rw [if_pos c13] at H
      have c13b0 : decide (400 < (l0.length : Int)) = true := decide_eq_true c13
      have c13b1 : decide (400 < l0.length) = true := decide_eq_true (by omega)
      clear c13
      have H' := Ax H
      clear H
      go_wp2_with (first | (go_at_call 17; (with_reducible refine (ivl_Check.calls k _ _ l0 t323 _ ?side1 ?side2 A9.out).mono ?_); (case side1 => repeat (first | exact (Kd.C_below HR0.out HB.out) | (with_reducible refine Kd.C_alloc ?_ _) | (with_reducible refine Kd.C_drewN ?_ _) | (with_reducible refine Kd.C_drew ?_))); (case side2 => exact HC0.out); rintro e w14 ⟨rfl, hb⟩; replace BK321 := Bx0 BK321 hb; replace HB := Bs1 HB hb GE321.out; (try clear hb)) | (go_at_call 17; (with_reducible refine (ivl_Check.calls k _ _ l1 t324 _ ?side1 ?side2 A11.out).mono ?_); (case side1 => repeat (first | exact (Kd.C_below HR1.out HB.out) | (with_reducible refine Kd.C_alloc ?_ _) | (with_reducible refine Kd.C_drewN ?_ _) | (with_reducible refine Kd.C_drew ?_))); (case side2 => exact HC1.out); rintro e w15 ⟨rfl, hb⟩; replace BK321 := Bx0 BK321 hb; replace HB := Bs1 HB hb GE321.out; (try clear hb)))
      repeat (go_quiet (first | (go_at_call 17; (with_reducible refine (ivl_Check.calls k _ _ l0 t323 _ ?side1 ?side2 A9.out).mono ?_); (case side1 => repeat (first | exact (Kd.C_below HR0.out HB.out) | (with_reducible refine Kd.C_alloc ?_ _) | (with_reducible refine Kd.C_drewN ?_ _) | (with_reducible refine Kd.C_drew ?_))); (case side2 => exact HC0.out); rintro e w14 ⟨rfl, hb⟩; replace BK321 := Bx0 BK321 hb; replace HB := Bs1 HB hb GE321.out; (try clear hb)) | (go_at_call 17; (with_reducible refine (ivl_Check.calls k _ _ l1 t324 _ ?side1 ?side2 A11.out).mono ?_); (case side1 => repeat (first | exact (Kd.C_below HR1.out HB.out) | (with_reducible refine Kd.C_alloc ?_ _) | (with_reducible refine Kd.C_drewN ?_ _) | (with_reducible refine Kd.C_drew ?_))); (case side2 => exact HC1.out); rintro e w15 ⟨rfl, hb⟩; replace BK321 := Bx0 BK321 hb; replace HB := Bs1 HB hb GE321.out; (try clear hb))); try go_wp2_with (first | (go_at_call 17; (with_reducible refine (ivl_Check.calls k _ _ l0 t323 _ ?side1 ?side2 A9.out).mono ?_); (case side1 => repeat (first | exact (Kd.C_below HR0.out HB.out) | (with_reducible refine Kd.C_alloc ?_ _) | (with_reducible refine Kd.C_drewN ?_ _) | (with_reducible refine Kd.C_drew ?_))); (case side2 => exact HC0.out); rintro e w14 ⟨rfl, hb⟩; replace BK321 := Bx0 BK321 hb; replace HB := Bs1 HB hb GE321.out; (try clear hb)) | (go_at_call 17; (with_reducible refine (ivl_Check.calls k _ _ l1 t324 _ ?side1 ?side2 A11.out).mono ?_); (case side1 => repeat (first | exact (Kd.C_below HR1.out HB.out) | (with_reducible refine Kd.C_alloc ?_ _) | (with_reducible refine Kd.C_drewN ?_ _) | (with_reducible refine Kd.C_drew ?_))); (case side2 => exact HC1.out); rintro e w15 ⟨rfl, hb⟩; replace BK321 := Bx0 BK321 hb; replace HB := Bs1 HB hb GE321.out; (try clear hb))))
      go_meet
      case rel => exact ⟨_, (true), rS, H', ⟨by first | omega | exact Nat.le_refl _⟩, ⟨bf0 BK321.out⟩, ⟨bw1 HB.out GE321.out⟩⟩
     ·rw [if_neg c13] at H
      have c13b0 : decide (400 < (l0.length : Int)) = false := decide_eq_false c13
      have c13b1 : decide (400 < l0.length) = false := decide_eq_false (by omega)
      clear c13
      have H' := Ax H
      clear H
      go_wp2_with (first | (go_at_call 17; (with_reducible refine (ivl_Check.calls k _ _ l0 t323 _ ?side1 ?side2 A9.out).mono ?_); (case side1 => repeat (first | exact (Kd.C_below HR0.out HB.out) | (with_reducible refine Kd.C_alloc ?_ _) | (with_reducible refine Kd.C_drewN ?_ _) | (with_reducible refine Kd.C_drew ?_))); (case side2 => exact HC0.out); rintro e w16 ⟨rfl, hb⟩; replace BK321 := Bx0 BK321 hb; replace HB := Bs1 HB hb GE321.out; (try clear hb)) | (go_at_call 17; (with_reducible refine (ivl_Check.calls k _ _ l1 t324 _ ?side1 ?side2 A11.out).mono ?_); (case side1 => repeat (first | exact (Kd.C_below HR1.out HB.out) | (with_reducible refine Kd.C_alloc ?_ _) | (with_reducible refine Kd.C_drewN ?_ _) | (with_reducible refine Kd.C_drew ?_))); (case side2 => exact HC1.out); rintro e w17 ⟨rfl, hb⟩; replace BK321 := Bx0 BK321 hb; replace HB := Bs1 HB hb GE321.out; (try clear hb)))
      repeat (go_quiet (first | (go_at_call 17; (with_reducible refine (ivl_Check.calls k _ _ l0 t323 _ ?side1 ?side2 A9.out).mono ?_); (case side1 => repeat (first | exact (Kd.C_below HR0.out HB.out) | (with_reducible refine Kd.C_alloc ?_ _) | (with_reducible refine Kd.C_drewN ?_ _) | (with_reducible refine Kd.C_drew ?_))); (case side2 => exact HC0.out); rintro e w16 ⟨rfl, hb⟩; replace BK321 := Bx0 BK321 hb; replace HB := Bs1 HB hb GE321.out; (try clear hb)) | (go_at_call 17; (with_reducible refine (ivl_Check.calls k _ _ l1 t324 _ ?side1 ?side2 A11.out).mono ?_); (case side1 => repeat (first | exact (Kd.C_below HR1.out HB.out) | (with_reducible refine Kd.C_alloc ?_ _) | (with_reducible refine Kd.C_drewN ?_ _) | (with_reducible refine Kd.C_drew ?_))); (case side2 => exact HC1.out); rintro e w17 ⟨rfl, hb⟩; replace BK321 := Bx0 BK321 hb; replace HB := Bs1 HB hb GE321.out; (try clear hb))); try go_wp2_with (first | (go_at_call 17; (with_reducible refine (ivl_Check.calls k _ _ l0 t323 _ ?side1 ?side2 A9.out).mono ?_); (case side1 => repeat (first | exact (Kd.C_below HR0.out HB.out) | (with_reducible refine Kd.C_alloc ?_ _) | (with_reducible refine Kd.C_drewN ?_ _) | (with_reducible refine Kd.C_drew ?_))); (case side2 => exact HC0.out); rintro e w16 ⟨rfl, hb⟩; replace BK321 := Bx0 BK321 hb; replace HB := Bs1 HB hb GE321.out; (try clear hb)) | (go_at_call 17; (with_reducible refine (ivl_Check.calls k _ _ l1 t324 _ ?side1 ?side2 A11.out).mono ?_); (case side1 => repeat (first | exact (Kd.C_below HR1.out HB.out) | (with_reducible refine Kd.C_alloc ?_ _) | (with_reducible refine Kd.C_drewN ?_ _) | (with_reducible refine Kd.C_drew ?_))); (case side2 => exact HC1.out); rintro e w17 ⟨rfl, hb⟩; replace BK321 := Bx0 BK321 hb; replace HB := Bs1 HB hb GE321.out; (try clear hb))))
      go_meet
      case rel => exact ⟨_, (decide ((l1.length : Int) > 400)), rS, H', ⟨by first | omega | exact Nat.le_refl _⟩, ⟨bf0 BK321.out⟩, ⟨bw1 HB.out GE321.out⟩⟩
    ·rw [if_neg c12] at H
     have c12b0 : (t324 == 0) = false := beq_eq_false_iff_ne.mpr c12
     have c12b1 : (t324 != 0) = true := bne_iff_ne.mpr c12
     have H' := Ax H
     clear H
     go_wp2_with (first | (go_at_call 17; (with_reducible refine (ivl_Check.calls k _ _ l0 t323 _ ?side1 ?side2 A9.out).mono ?_); (case side1 => repeat (first | exact (Kd.C_below HR0.out HB.out) | (with_reducible refine Kd.C_alloc ?_ _) | (with_reducible refine Kd.C_drewN ?_ _) | (with_reducible refine Kd.C_drew ?_))); (case side2 => exact HC0.out); rintro e w18 ⟨rfl, hb⟩; replace BK321 := Bx0 BK321 hb; replace HB := Bs1 HB hb GE321.out; (try clear hb)) | (go_at_call 17; (with_reducible refine (ivl_Check.calls k _ _ l1 t324 _ ?side1 ?side2 A11.out).mono ?_); (case side1 => repeat (first | exact (Kd.C_below HR1.out HB.out) | (with_reducible refine Kd.C_alloc ?_ _) | (with_reducible refine Kd.C_drewN ?_ _) | (with_reducible refine Kd.C_drew ?_))); (case side2 => exact HC1.out); rintro e w19 ⟨rfl, hb⟩; replace BK321 := Bx0 BK321 hb; replace HB := Bs1 HB hb GE321.out; (try clear hb)))
     repeat (go_quiet (first | (go_at_call 17; (with_reducible refine (ivl_Check.calls k _ _ l0 t323 _ ?side1 ?side2 A9.out).mono ?_); (case side1 => repeat (first | exact (Kd.C_below HR0.out HB.out) | (with_reducible refine Kd.C_alloc ?_ _) | (with_reducible refine Kd.C_drewN ?_ _) | (with_reducible refine Kd.C_drew ?_))); (case side2 => exact HC0.out); rintro e w18 ⟨rfl, hb⟩; replace BK321 := Bx0 BK321 hb; replace HB := Bs1 HB hb GE321.out; (try clear hb)) | (go_at_call 17; (with_reducible refine (ivl_Check.calls k _ _ l1 t324 _ ?side1 ?side2 A11.out).mono ?_); (case side1 => repeat (first | exact (Kd.C_below HR1.out HB.out) | (with_reducible refine Kd.C_alloc ?_ _) | (with_reducible refine Kd.C_drewN ?_ _) | (with_reducible refine Kd.C_drew ?_))); (case side2 => exact HC1.out); rintro e w19 ⟨rfl, hb⟩; replace BK321 := Bx0 BK321 hb; replace HB := Bs1 HB hb GE321.out; (try clear hb))); try go_wp2_with (first | (go_at_call 17; (with_reducible refine (ivl_Check.calls k _ _ l0 t323 _ ?side1 ?side2 A9.out).mono ?_); (case side1 => repeat (first | exact (Kd.C_below HR0.out HB.out) | (with_reducible refine Kd.C_alloc ?_ _) | (with_reducible refine Kd.C_drewN ?_ _) | (with_reducible refine Kd.C_drew ?_))); (case side2 => exact HC0.out); rintro e w18 ⟨rfl, hb⟩; replace BK321 := Bx0 BK321 hb; replace HB := Bs1 HB hb GE321.out; (try clear hb)) | (go_at_call 17; (with_reducible refine (ivl_Check.calls k _ _ l1 t324 _ ?side1 ?side2 A11.out).mono ?_); (case side1 => repeat (first | exact (Kd.C_below HR1.out HB.out) | (with_reducible refine Kd.C_alloc ?_ _) | (with_reducible refine Kd.C_drewN ?_ _) | (with_reducible refine Kd.C_drew ?_))); (case side2 => exact HC1.out); rintro e w19 ⟨rfl, hb⟩; replace BK321 := Bx0 BK321 hb; replace HB := Bs1 HB hb GE321.out; (try clear hb))))
     go_meet
     case rel => exact ⟨_, (true), rS, H', ⟨by first | omega | exact Nat.le_refl _⟩, ⟨bf0 BK321.out⟩, ⟨bw1 HB.out GE321.out⟩⟩
   ·rw [if_neg c10] at H
    have c10b0 : (t323 == 0) = false := beq_eq_false_iff_ne.mpr c10
    have c10b1 : (t323 != 0) = true := bne_iff_ne.mpr c10
    (first | rw [c10b0] | (simp only [i64_w, i32_w]; rw [c10b0]) | skip)
    have H' := Ax H
    clear H
    go_wp2_with (first | (go_at_call 17; (with_reducible refine (ivl_Check.calls k _ _ l0 t323 _ ?side1 ?side2 A9.out).mono ?_); (case side1 => repeat (first | exact (Kd.C_below HR0.out HB.out) | (with_reducible refine Kd.C_alloc ?_ _) | (with_reducible refine Kd.C_drewN ?_ _) | (with_reducible refine Kd.C_drew ?_))); (case side2 => exact HC0.out); rintro e w20 ⟨rfl, hb⟩; replace BK321 := Bx0 BK321 hb; replace HB := Bs1 HB hb GE321.out; (try clear hb)))
    repeat (go_quiet (first | (go_at_call 17; (with_reducible refine (ivl_Check.calls k _ _ l0 t323 _ ?side1 ?side2 A9.out).mono ?_); (case side1 => repeat (first | exact (Kd.C_below HR0.out HB.out) | (with_reducible refine Kd.C_alloc ?_ _) | (with_reducible refine Kd.C_drewN ?_ _) | (with_reducible refine Kd.C_drew ?_))); (case side2 => exact HC0.out); rintro e w20 ⟨rfl, hb⟩; replace BK321 := Bx0 BK321 hb; replace HB := Bs1 HB hb GE321.out; (try clear hb))); try go_wp2_with (first | (go_at_call 17; (with_reducible refine (ivl_Check.calls k _ _ l0 t323 _ ?side1 ?side2 A9.out).mono ?_); (case side1 => repeat (first | exact (Kd.C_below HR0.out HB.out) | (with_reducible refine Kd.C_alloc ?_ _) | (with_reducible refine Kd.C_drewN ?_ _) | (with_reducible refine Kd.C_drew ?_))); (case side2 => exact HC0.out); rintro e w20 ⟨rfl, hb⟩; replace BK321 := Bx0 BK321 hb; replace HB := Bs1 HB hb GE321.out; (try clear hb))))
    go_meet
    case rel => exact ⟨_, (true), rS, H', ⟨by first | omega | exact Nat.le_refl _⟩, ⟨bf0 BK321.out⟩, ⟨bw1 HB.out GE321.out⟩⟩
  case rest =>
   clear HC6
   try clear c1
   try clear p2
   try clear c5
   try clear c6
   try clear c10
   try clear c10b0
   try clear c10b1
   try clear c12
   try clear c12b0
   try clear c12b1
   try clear c13
   try clear c13b0
   try clear c13b1
   obtain ⟨kq, x43_5, rfl, HA, HJ5, BK321, HB⟩ := hcut
   cases kq with
   | zero => exact absurd HA.out (by simp [spoorlaw19_IvlLong.j0])
   | succ kj5 =>
    have H := HA.out
    clear HA
    simp only [spoorlaw19_IvlLong.j0] at H
    by_cases c21 : x43_5 = true
    ·subst c21
     have H1 : (some true) = some r := by rw [if_pos rfl] at H; exact H
     clear H
     have H := H1
     clear H1
     obtain rfl := Option.some.inj H
     go_wp2
     repeat (go_quiet (fail); try go_wp2)
     go_ret
     exact ⟨eS, bw1 HB.out GE321.out⟩
    ·replace c21 := Bool.eq_false_iff.mpr c21
     subst c21
     have H1 : ((ivl_Or.f kj5 l0 l1).bind fun bt325 => ((ivl_And.f kj5 l0 l1).bind fun bt329 => ((ivl_Long.f kj5 l0).bind fun bt333 => ((ivl_Long.f kj5 l1).bind fun bt335 => ((ivl_Long.f kj5 bt325.1).bind fun bt337 => ((ivl_Long.f kj5 bt329.1).bind fun bt339 => (if bt333.2 = 0 then (if bt335.2 = 0 then (if bt337.2 = 0 then (if bt339.2 = 0 then (spoorlaw19_IvlLong.j1 kj5 l0 bt333.1 ((wrap64 (bt333.1 + bt335.1)) != (wrap64 (bt337.1 + bt339.1))) a2_0 a2_1) else (spoorlaw19_IvlLong.j1 kj5 l0 bt333.1 true a2_0 a2_1)) else (spoorlaw19_IvlLong.j1 kj5 l0 bt333.1 true a2_0 a2_1)) else (spoorlaw19_IvlLong.j1 kj5 l0 bt333.1 true a2_0 a2_1)) else (spoorlaw19_IvlLong.j1 kj5 l0 bt333.1 true a2_0 a2_1)))))))) = some r := by rw [if_neg (show ¬ (false = true) by decide)] at H; exact H
     clear H
     have H := H1
     clear H1
     replace H := Option.bind_eq_some_iff.mp H
     obtain ⟨⟨t325, t326⟩, A220, H⟩ := H
     replace H : ((ivl_And.f kj5 l0 l1).bind fun bt329 => ((ivl_Long.f kj5 l0).bind fun bt333 => ((ivl_Long.f kj5 l1).bind fun bt335 => ((ivl_Long.f kj5 t325).bind fun bt337 => ((ivl_Long.f kj5 bt329.1).bind fun bt339 => (if bt333.2 = 0 then (if bt335.2 = 0 then (if bt337.2 = 0 then (if bt339.2 = 0 then (spoorlaw19_IvlLong.j1 kj5 l0 bt333.1 ((wrap64 (bt333.1 + bt335.1)) != (wrap64 (bt337.1 + bt339.1))) a2_0 a2_1) else (spoorlaw19_IvlLong.j1 kj5 l0 bt333.1 true a2_0 a2_1)) else (spoorlaw19_IvlLong.j1 kj5 l0 bt333.1 true a2_0 a2_1)) else (spoorlaw19_IvlLong.j1 kj5 l0 bt333.1 true a2_0 a2_1)) else (spoorlaw19_IvlLong.j1 kj5 l0 bt333.1 true a2_0 a2_1))))))) = some r := H
     have A22 := Ax A220
     clear A220
     replace H := Option.bind_eq_some_iff.mp H
     obtain ⟨⟨t329, t330⟩, A230, H⟩ := H
     replace H : ((ivl_Long.f kj5 l0).bind fun bt333 => ((ivl_Long.f kj5 l1).bind fun bt335 => ((ivl_Long.f kj5 t325).bind fun bt337 => ((ivl_Long.f kj5 t329).bind fun bt339 => (if bt333.2 = 0 then (if bt335.2 = 0 then (if bt337.2 = 0 then (if bt339.2 = 0 then (spoorlaw19_IvlLong.j1 kj5 l0 bt333.1 ((wrap64 (bt333.1 + bt335.1)) != (wrap64 (bt337.1 + bt339.1))) a2_0 a2_1) else (spoorlaw19_IvlLong.j1 kj5 l0 bt333.1 true a2_0 a2_1)) else (spoorlaw19_IvlLong.j1 kj5 l0 bt333.1 true a2_0 a2_1)) else (spoorlaw19_IvlLong.j1 kj5 l0 bt333.1 true a2_0 a2_1)) else (spoorlaw19_IvlLong.j1 kj5 l0 bt333.1 true a2_0 a2_1)))))) = some r := H
     have A23 := Ax A230
     clear A230
     replace H := Option.bind_eq_some_iff.mp H
     obtain ⟨⟨t333, t334⟩, A240, H⟩ := H
     replace H : ((ivl_Long.f kj5 l1).bind fun bt335 => ((ivl_Long.f kj5 t325).bind fun bt337 => ((ivl_Long.f kj5 t329).bind fun bt339 => (if t334 = 0 then (if bt335.2 = 0 then (if bt337.2 = 0 then (if bt339.2 = 0 then (spoorlaw19_IvlLong.j1 kj5 l0 t333 ((wrap64 (t333 + bt335.1)) != (wrap64 (bt337.1 + bt339.1))) a2_0 a2_1) else (spoorlaw19_IvlLong.j1 kj5 l0 t333 true a2_0 a2_1)) else (spoorlaw19_IvlLong.j1 kj5 l0 t333 true a2_0 a2_1)) else (spoorlaw19_IvlLong.j1 kj5 l0 t333 true a2_0 a2_1)) else (spoorlaw19_IvlLong.j1 kj5 l0 t333 true a2_0 a2_1))))) = some r := H
     have A24 := Ax A240
     clear A240
     replace H := Option.bind_eq_some_iff.mp H
     obtain ⟨⟨t335, t336⟩, A250, H⟩ := H
     replace H : ((ivl_Long.f kj5 t325).bind fun bt337 => ((ivl_Long.f kj5 t329).bind fun bt339 => (if t334 = 0 then (if t336 = 0 then (if bt337.2 = 0 then (if bt339.2 = 0 then (spoorlaw19_IvlLong.j1 kj5 l0 t333 ((wrap64 (t333 + t335)) != (wrap64 (bt337.1 + bt339.1))) a2_0 a2_1) else (spoorlaw19_IvlLong.j1 kj5 l0 t333 true a2_0 a2_1)) else (spoorlaw19_IvlLong.j1 kj5 l0 t333 true a2_0 a2_1)) else (spoorlaw19_IvlLong.j1 kj5 l0 t333 true a2_0 a2_1)) else (spoorlaw19_IvlLong.j1 kj5 l0 t333 true a2_0 a2_1)))) = some r := H
     have A25 := Ax A250
     clear A250
     replace H := Option.bind_eq_some_iff.mp H
     obtain ⟨⟨t337, t338⟩, A260, H⟩ := H
     replace H : ((ivl_Long.f kj5 t329).bind fun bt339 => (if t334 = 0 then (if t336 = 0 then (if t338 = 0 then (if bt339.2 = 0 then (spoorlaw19_IvlLong.j1 kj5 l0 t333 ((wrap64 (t333 + t335)) != (wrap64 (t337 + bt339.1))) a2_0 a2_1) else (spoorlaw19_IvlLong.j1 kj5 l0 t333 true a2_0 a2_1)) else (spoorlaw19_IvlLong.j1 kj5 l0 t333 true a2_0 a2_1)) else (spoorlaw19_IvlLong.j1 kj5 l0 t333 true a2_0 a2_1)) else (spoorlaw19_IvlLong.j1 kj5 l0 t333 true a2_0 a2_1))) = some r := H
     have A26 := Ax A260
     clear A260
     replace H := Option.bind_eq_some_iff.mp H
     obtain ⟨⟨t339, t340⟩, A270, H⟩ := H
     replace H : (if t334 = 0 then (if t336 = 0 then (if t338 = 0 then (if t340 = 0 then (spoorlaw19_IvlLong.j1 kj5 l0 t333 ((wrap64 (t333 + t335)) != (wrap64 (t337 + t339))) a2_0 a2_1) else (spoorlaw19_IvlLong.j1 kj5 l0 t333 true a2_0 a2_1)) else (spoorlaw19_IvlLong.j1 kj5 l0 t333 true a2_0 a2_1)) else (spoorlaw19_IvlLong.j1 kj5 l0 t333 true a2_0 a2_1)) else (spoorlaw19_IvlLong.j1 kj5 l0 t333 true a2_0 a2_1)) = some r := H
     have A27 := Ax A270
     clear A270
     have HC28 := Ax H
     clear H
     go_upto_region 11 with (first | (go_at_call 19; (with_reducible refine (ivl_Or.calls kj5 _ _ l0 _ _ l1 t325 t326 _ ?side1 ?side2 ?side3 ?side4 A22.out).mono ?_); (case side1 => repeat (first | exact (Kd.C_below HR0.out HB.out) | (with_reducible refine Kd.C_alloc ?_ _) | (with_reducible refine Kd.C_drewN ?_ _) | (with_reducible refine Kd.C_drew ?_))); (case side2 => exact HC0.out); (case side3 => repeat (first | exact (Kd.C_below HR1.out HB.out) | (with_reducible refine Kd.C_alloc ?_ _) | (with_reducible refine Kd.C_drewN ?_ _) | (with_reducible refine Kd.C_drew ?_))); (case side4 => exact HC1.out); rintro e w29 ⟨v327, rfl, ho0, hb⟩; have HO328 := Ax (Kd.R_lower (Kd.R_newB ho0 (g := gb321) (o := .cells #[.int .i64 a2_0, .int .i64 a2_1] 36 (0, 0)) (bf0 BK321.out)) (below_size (bw1 HB.out GE321.out))); replace BK321 := Bx0 BK321 hb; replace HB := Bs1 HB hb GE321.out; (try clear hb); (try clear ho0)) | (go_at_call 21; (with_reducible refine (ivl_And.calls kj5 _ _ l0 _ _ l1 t329 t330 _ ?side1 ?side2 ?side3 ?side4 A23.out).mono ?_); (case side1 => repeat (first | exact (Kd.C_below HR0.out HB.out) | (with_reducible refine Kd.C_alloc ?_ _) | (with_reducible refine Kd.C_drewN ?_ _) | (with_reducible refine Kd.C_drew ?_))); (case side2 => exact HC0.out); (case side3 => repeat (first | exact (Kd.C_below HR1.out HB.out) | (with_reducible refine Kd.C_alloc ?_ _) | (with_reducible refine Kd.C_drewN ?_ _) | (with_reducible refine Kd.C_drew ?_))); (case side4 => exact HC1.out); rintro e w30 ⟨v331, rfl, ho0, hb⟩; have n0_ := Ax (Kd.R_elder' (by (with_reducible repeat (first | apply Kd.R_alloc | apply Kd.R_drewN | apply Kd.R_drew)); exact HO328.out) (Kd.R_base ho0) hb); have n1_ := Ax (Kd.R_lower (Kd.R_newB (Kd.R_new' ho0 (Kd.R_lt (by (with_reducible repeat (first | apply Kd.R_alloc | apply Kd.R_drewN | apply Kd.R_drew)); exact HO328.out))) (g := gb321) (o := .cells #[.int .i64 a2_0, .int .i64 a2_1] 36 (0, 0)) (bf0 BK321.out)) (below_size (bw1 HB.out GE321.out))); have n2_ := Bx0 BK321 hb; have n3_ := Bs1 HB hb GE321.out; clear HO328; clear BK321; clear HB; have HO328 := n0_; have HO332 := n1_; have BK321 := n2_; have HB := n3_; clear n0_ n1_ n2_ n3_; (try clear hb); (try clear ho0)) | (go_at_call 14; (with_reducible refine (ivl_Long.calls kj5 _ _ l0 t333 t334 _ ?side1 ?side2 A24.out).mono ?_); (case side1 => repeat (first | exact (Kd.C_below HR0.out HB.out) | (with_reducible refine Kd.C_alloc ?_ _) | (with_reducible refine Kd.C_drewN ?_ _) | (with_reducible refine Kd.C_drew ?_))); (case side2 => exact HC0.out); rintro e w31 ⟨rfl, hb⟩; have n0_ := Ax (Kd.R_below (by (with_reducible repeat (first | apply Kd.R_alloc | apply Kd.R_drewN | apply Kd.R_drew)); exact HO328.out) hb); have n1_ := Ax (Kd.R_below (by (with_reducible repeat (first | apply Kd.R_alloc | apply Kd.R_drewN | apply Kd.R_drew)); exact HO332.out) hb); have n2_ := Bx0 BK321 hb; have n3_ := Bs1 HB hb GE321.out; clear HO328; clear HO332; clear BK321; clear HB; have HO328 := n0_; have HO332 := n1_; have BK321 := n2_; have HB := n3_; clear n0_ n1_ n2_ n3_; (try clear hb)) | (go_at_call 14; (with_reducible refine (ivl_Long.calls kj5 _ _ l1 t335 t336 _ ?side1 ?side2 A25.out).mono ?_); (case side1 => repeat (first | exact (Kd.C_below HR1.out HB.out) | (with_reducible refine Kd.C_alloc ?_ _) | (with_reducible refine Kd.C_drewN ?_ _) | (with_reducible refine Kd.C_drew ?_))); (case side2 => exact HC1.out); rintro e w32 ⟨rfl, hb⟩; have n0_ := Ax (Kd.R_below (by (with_reducible repeat (first | apply Kd.R_alloc | apply Kd.R_drewN | apply Kd.R_drew)); exact HO328.out) hb); have n1_ := Ax (Kd.R_below (by (with_reducible repeat (first | apply Kd.R_alloc | apply Kd.R_drewN | apply Kd.R_drew)); exact HO332.out) hb); have n2_ := Bx0 BK321 hb; have n3_ := Bs1 HB hb GE321.out; clear HO328; clear HO332; clear BK321; clear HB; have HO328 := n0_; have HO332 := n1_; have BK321 := n2_; have HB := n3_; clear n0_ n1_ n2_ n3_; (try clear hb); obtain ⟨Ao33, co33, eo33⟩ := Kd.R_slice HO328.out; subst eo33) | (go_at_call 14; (with_reducible refine (ivl_Long.calls kj5 _ _ t325 t337 t338 _ ?side1 ?side2 A26.out).mono ?_); (case side1 => repeat (first | exact (Kd.R_reads' HO328.out).2.2 | (with_reducible refine Kd.C_alloc ?_ _) | (with_reducible refine Kd.C_drewN ?_ _) | (with_reducible refine Kd.C_drew ?_))); (case side2 => exact (Kd.R_reads' HO328.out).2.1); rintro e w34 ⟨rfl, hb⟩; have n0_ := Ax (Kd.R_below (by (with_reducible repeat (first | apply Kd.R_alloc | apply Kd.R_drewN | apply Kd.R_drew)); exact HO328.out) hb); have n1_ := Ax (Kd.R_below (by (with_reducible repeat (first | apply Kd.R_alloc | apply Kd.R_drewN | apply Kd.R_drew)); exact HO332.out) hb); have n2_ := Bx0 BK321 hb; have n3_ := Bs1 HB hb GE321.out; clear HO328; clear HO332; clear BK321; clear HB; have HO328 := n0_; have HO332 := n1_; have BK321 := n2_; have HB := n3_; clear n0_ n1_ n2_ n3_; (try clear hb); obtain ⟨Ao35, co35, eo35⟩ := Kd.R_slice HO332.out; subst eo35) | (go_at_call 14; (with_reducible refine (ivl_Long.calls kj5 _ _ t329 t339 t340 _ ?side1 ?side2 A27.out).mono ?_); (case side1 => repeat (first | exact (Kd.R_reads' HO332.out).2.2 | (with_reducible refine Kd.C_alloc ?_ _) | (with_reducible refine Kd.C_drewN ?_ _) | (with_reducible refine Kd.C_drew ?_))); (case side2 => exact (Kd.R_reads' HO332.out).2.1); rintro e w36 ⟨rfl, hb⟩; have n0_ := Ax (Kd.R_below (by (with_reducible repeat (first | apply Kd.R_alloc | apply Kd.R_drewN | apply Kd.R_drew)); exact HO328.out) hb); have n1_ := Ax (Kd.R_below (by (with_reducible repeat (first | apply Kd.R_alloc | apply Kd.R_drewN | apply Kd.R_drew)); exact HO332.out) hb); have n2_ := Bx0 BK321 hb; have n3_ := Bs1 HB hb GE321.out; clear HO328; clear HO332; clear BK321; clear HB; have HO328 := n0_; have HO332 := n1_; have BK321 := n2_; have HB := n3_; clear n0_ n1_ n2_ n3_; (try clear hb)))
     repeat (go_quiet (first | (go_at_call 19; (with_reducible refine (ivl_Or.calls kj5 _ _ l0 _ _ l1 t325 t326 _ ?side1 ?side2 ?side3 ?side4 A22.out).mono ?_); (case side1 => repeat (first | exact (Kd.C_below HR0.out HB.out) | (with_reducible refine Kd.C_alloc ?_ _) | (with_reducible refine Kd.C_drewN ?_ _) | (with_reducible refine Kd.C_drew ?_))); (case side2 => exact HC0.out); (case side3 => repeat (first | exact (Kd.C_below HR1.out HB.out) | (with_reducible refine Kd.C_alloc ?_ _) | (with_reducible refine Kd.C_drewN ?_ _) | (with_reducible refine Kd.C_drew ?_))); (case side4 => exact HC1.out); rintro e w29 ⟨v327, rfl, ho0, hb⟩; have HO328 := Ax (Kd.R_lower (Kd.R_newB ho0 (g := gb321) (o := .cells #[.int .i64 a2_0, .int .i64 a2_1] 36 (0, 0)) (bf0 BK321.out)) (below_size (bw1 HB.out GE321.out))); replace BK321 := Bx0 BK321 hb; replace HB := Bs1 HB hb GE321.out; (try clear hb); (try clear ho0)) | (go_at_call 21; (with_reducible refine (ivl_And.calls kj5 _ _ l0 _ _ l1 t329 t330 _ ?side1 ?side2 ?side3 ?side4 A23.out).mono ?_); (case side1 => repeat (first | exact (Kd.C_below HR0.out HB.out) | (with_reducible refine Kd.C_alloc ?_ _) | (with_reducible refine Kd.C_drewN ?_ _) | (with_reducible refine Kd.C_drew ?_))); (case side2 => exact HC0.out); (case side3 => repeat (first | exact (Kd.C_below HR1.out HB.out) | (with_reducible refine Kd.C_alloc ?_ _) | (with_reducible refine Kd.C_drewN ?_ _) | (with_reducible refine Kd.C_drew ?_))); (case side4 => exact HC1.out); rintro e w30 ⟨v331, rfl, ho0, hb⟩; have n0_ := Ax (Kd.R_elder' (by (with_reducible repeat (first | apply Kd.R_alloc | apply Kd.R_drewN | apply Kd.R_drew)); exact HO328.out) (Kd.R_base ho0) hb); have n1_ := Ax (Kd.R_lower (Kd.R_newB (Kd.R_new' ho0 (Kd.R_lt (by (with_reducible repeat (first | apply Kd.R_alloc | apply Kd.R_drewN | apply Kd.R_drew)); exact HO328.out))) (g := gb321) (o := .cells #[.int .i64 a2_0, .int .i64 a2_1] 36 (0, 0)) (bf0 BK321.out)) (below_size (bw1 HB.out GE321.out))); have n2_ := Bx0 BK321 hb; have n3_ := Bs1 HB hb GE321.out; clear HO328; clear BK321; clear HB; have HO328 := n0_; have HO332 := n1_; have BK321 := n2_; have HB := n3_; clear n0_ n1_ n2_ n3_; (try clear hb); (try clear ho0)) | (go_at_call 14; (with_reducible refine (ivl_Long.calls kj5 _ _ l0 t333 t334 _ ?side1 ?side2 A24.out).mono ?_); (case side1 => repeat (first | exact (Kd.C_below HR0.out HB.out) | (with_reducible refine Kd.C_alloc ?_ _) | (with_reducible refine Kd.C_drewN ?_ _) | (with_reducible refine Kd.C_drew ?_))); (case side2 => exact HC0.out); rintro e w31 ⟨rfl, hb⟩; have n0_ := Ax (Kd.R_below (by (with_reducible repeat (first | apply Kd.R_alloc | apply Kd.R_drewN | apply Kd.R_drew)); exact HO328.out) hb); have n1_ := Ax (Kd.R_below (by (with_reducible repeat (first | apply Kd.R_alloc | apply Kd.R_drewN | apply Kd.R_drew)); exact HO332.out) hb); have n2_ := Bx0 BK321 hb; have n3_ := Bs1 HB hb GE321.out; clear HO328; clear HO332; clear BK321; clear HB; have HO328 := n0_; have HO332 := n1_; have BK321 := n2_; have HB := n3_; clear n0_ n1_ n2_ n3_; (try clear hb)) | (go_at_call 14; (with_reducible refine (ivl_Long.calls kj5 _ _ l1 t335 t336 _ ?side1 ?side2 A25.out).mono ?_); (case side1 => repeat (first | exact (Kd.C_below HR1.out HB.out) | (with_reducible refine Kd.C_alloc ?_ _) | (with_reducible refine Kd.C_drewN ?_ _) | (with_reducible refine Kd.C_drew ?_))); (case side2 => exact HC1.out); rintro e w32 ⟨rfl, hb⟩; have n0_ := Ax (Kd.R_below (by (with_reducible repeat (first | apply Kd.R_alloc | apply Kd.R_drewN | apply Kd.R_drew)); exact HO328.out) hb); have n1_ := Ax (Kd.R_below (by (with_reducible repeat (first | apply Kd.R_alloc | apply Kd.R_drewN | apply Kd.R_drew)); exact HO332.out) hb); have n2_ := Bx0 BK321 hb; have n3_ := Bs1 HB hb GE321.out; clear HO328; clear HO332; clear BK321; clear HB; have HO328 := n0_; have HO332 := n1_; have BK321 := n2_; have HB := n3_; clear n0_ n1_ n2_ n3_; (try clear hb); obtain ⟨Ao33, co33, eo33⟩ := Kd.R_slice HO328.out; subst eo33) | (go_at_call 14; (with_reducible refine (ivl_Long.calls kj5 _ _ t325 t337 t338 _ ?side1 ?side2 A26.out).mono ?_); (case side1 => repeat (first | exact (Kd.R_reads' HO328.out).2.2 | (with_reducible refine Kd.C_alloc ?_ _) | (with_reducible refine Kd.C_drewN ?_ _) | (with_reducible refine Kd.C_drew ?_))); (case side2 => exact (Kd.R_reads' HO328.out).2.1); rintro e w34 ⟨rfl, hb⟩; have n0_ := Ax (Kd.R_below (by (with_reducible repeat (first | apply Kd.R_alloc | apply Kd.R_drewN | apply Kd.R_drew)); exact HO328.out) hb); have n1_ := Ax (Kd.R_below (by (with_reducible repeat (first | apply Kd.R_alloc | apply Kd.R_drewN | apply Kd.R_drew)); exact HO332.out) hb); have n2_ := Bx0 BK321 hb; have n3_ := Bs1 HB hb GE321.out; clear HO328; clear HO332; clear BK321; clear HB; have HO328 := n0_; have HO332 := n1_; have BK321 := n2_; have HB := n3_; clear n0_ n1_ n2_ n3_; (try clear hb); obtain ⟨Ao35, co35, eo35⟩ := Kd.R_slice HO332.out; subst eo35) | (go_at_call 14; (with_reducible refine (ivl_Long.calls kj5 _ _ t329 t339 t340 _ ?side1 ?side2 A27.out).mono ?_); (case side1 => repeat (first | exact (Kd.R_reads' HO332.out).2.2 | (with_reducible refine Kd.C_alloc ?_ _) | (with_reducible refine Kd.C_drewN ?_ _) | (with_reducible refine Kd.C_drew ?_))); (case side2 => exact (Kd.R_reads' HO332.out).2.1); rintro e w36 ⟨rfl, hb⟩; have n0_ := Ax (Kd.R_below (by (with_reducible repeat (first | apply Kd.R_alloc | apply Kd.R_drewN | apply Kd.R_drew)); exact HO328.out) hb); have n1_ := Ax (Kd.R_below (by (with_reducible repeat (first | apply Kd.R_alloc | apply Kd.R_drewN | apply Kd.R_drew)); exact HO332.out) hb); have n2_ := Bx0 BK321 hb; have n3_ := Bs1 HB hb GE321.out; clear HO328; clear HO332; clear BK321; clear HB; have HO328 := n0_; have HO332 := n1_; have BK321 := n2_; have HB := n3_; clear n0_ n1_ n2_ n3_; (try clear hb))); go_upto_region 11 with (first | (go_at_call 19; (with_reducible refine (ivl_Or.calls kj5 _ _ l0 _ _ l1 t325 t326 _ ?side1 ?side2 ?side3 ?side4 A22.out).mono ?_); (case side1 => repeat (first | exact (Kd.C_below HR0.out HB.out) | (with_reducible refine Kd.C_alloc ?_ _) | (with_reducible refine Kd.C_drewN ?_ _) | (with_reducible refine Kd.C_drew ?_))); (case side2 => exact HC0.out); (case side3 => repeat (first | exact (Kd.C_below HR1.out HB.out) | (with_reducible refine Kd.C_alloc ?_ _) | (with_reducible refine Kd.C_drewN ?_ _) | (with_reducible refine Kd.C_drew ?_))); (case side4 => exact HC1.out); rintro e w29 ⟨v327, rfl, ho0, hb⟩; have HO328 := Ax (Kd.R_lower (Kd.R_newB ho0 (g := gb321) (o := .cells #[.int .i64 a2_0, .int .i64 a2_1] 36 (0, 0)) (bf0 BK321.out)) (below_size (bw1 HB.out GE321.out))); replace BK321 := Bx0 BK321 hb; replace HB := Bs1 HB hb GE321.out; (try clear hb); (try clear ho0)) | (go_at_call 21; (with_reducible refine (ivl_And.calls kj5 _ _ l0 _ _ l1 t329 t330 _ ?side1 ?side2 ?side3 ?side4 A23.out).mono ?_); (case side1 => repeat (first | exact (Kd.C_below HR0.out HB.out) | (with_reducible refine Kd.C_alloc ?_ _) | (with_reducible refine Kd.C_drewN ?_ _) | (with_reducible refine Kd.C_drew ?_))); (case side2 => exact HC0.out); (case side3 => repeat (first | exact (Kd.C_below HR1.out HB.out) | (with_reducible refine Kd.C_alloc ?_ _) | (with_reducible refine Kd.C_drewN ?_ _) | (with_reducible refine Kd.C_drew ?_))); (case side4 => exact HC1.out); rintro e w30 ⟨v331, rfl, ho0, hb⟩; have n0_ := Ax (Kd.R_elder' (by (with_reducible repeat (first | apply Kd.R_alloc | apply Kd.R_drewN | apply Kd.R_drew)); exact HO328.out) (Kd.R_base ho0) hb); have n1_ := Ax (Kd.R_lower (Kd.R_newB (Kd.R_new' ho0 (Kd.R_lt (by (with_reducible repeat (first | apply Kd.R_alloc | apply Kd.R_drewN | apply Kd.R_drew)); exact HO328.out))) (g := gb321) (o := .cells #[.int .i64 a2_0, .int .i64 a2_1] 36 (0, 0)) (bf0 BK321.out)) (below_size (bw1 HB.out GE321.out))); have n2_ := Bx0 BK321 hb; have n3_ := Bs1 HB hb GE321.out; clear HO328; clear BK321; clear HB; have HO328 := n0_; have HO332 := n1_; have BK321 := n2_; have HB := n3_; clear n0_ n1_ n2_ n3_; (try clear hb); (try clear ho0)) | (go_at_call 14; (with_reducible refine (ivl_Long.calls kj5 _ _ l0 t333 t334 _ ?side1 ?side2 A24.out).mono ?_); (case side1 => repeat (first | exact (Kd.C_below HR0.out HB.out) | (with_reducible refine Kd.C_alloc ?_ _) | (with_reducible refine Kd.C_drewN ?_ _) | (with_reducible refine Kd.C_drew ?_))); (case side2 => exact HC0.out); rintro e w31 ⟨rfl, hb⟩; have n0_ := Ax (Kd.R_below (by (with_reducible repeat (first | apply Kd.R_alloc | apply Kd.R_drewN | apply Kd.R_drew)); exact HO328.out) hb); have n1_ := Ax (Kd.R_below (by (with_reducible repeat (first | apply Kd.R_alloc | apply Kd.R_drewN | apply Kd.R_drew)); exact HO332.out) hb); have n2_ := Bx0 BK321 hb; have n3_ := Bs1 HB hb GE321.out; clear HO328; clear HO332; clear BK321; clear HB; have HO328 := n0_; have HO332 := n1_; have BK321 := n2_; have HB := n3_; clear n0_ n1_ n2_ n3_; (try clear hb)) | (go_at_call 14; (with_reducible refine (ivl_Long.calls kj5 _ _ l1 t335 t336 _ ?side1 ?side2 A25.out).mono ?_); (case side1 => repeat (first | exact (Kd.C_below HR1.out HB.out) | (with_reducible refine Kd.C_alloc ?_ _) | (with_reducible refine Kd.C_drewN ?_ _) | (with_reducible refine Kd.C_drew ?_))); (case side2 => exact HC1.out); rintro e w32 ⟨rfl, hb⟩; have n0_ := Ax (Kd.R_below (by (with_reducible repeat (first | apply Kd.R_alloc | apply Kd.R_drewN | apply Kd.R_drew)); exact HO328.out) hb); have n1_ := Ax (Kd.R_below (by (with_reducible repeat (first | apply Kd.R_alloc | apply Kd.R_drewN | apply Kd.R_drew)); exact HO332.out) hb); have n2_ := Bx0 BK321 hb; have n3_ := Bs1 HB hb GE321.out; clear HO328; clear HO332; clear BK321; clear HB; have HO328 := n0_; have HO332 := n1_; have BK321 := n2_; have HB := n3_; clear n0_ n1_ n2_ n3_; (try clear hb); obtain ⟨Ao33, co33, eo33⟩ := Kd.R_slice HO328.out; subst eo33) | (go_at_call 14; (with_reducible refine (ivl_Long.calls kj5 _ _ t325 t337 t338 _ ?side1 ?side2 A26.out).mono ?_); (case side1 => repeat (first | exact (Kd.R_reads' HO328.out).2.2 | (with_reducible refine Kd.C_alloc ?_ _) | (with_reducible refine Kd.C_drewN ?_ _) | (with_reducible refine Kd.C_drew ?_))); (case side2 => exact (Kd.R_reads' HO328.out).2.1); rintro e w34 ⟨rfl, hb⟩; have n0_ := Ax (Kd.R_below (by (with_reducible repeat (first | apply Kd.R_alloc | apply Kd.R_drewN | apply Kd.R_drew)); exact HO328.out) hb); have n1_ := Ax (Kd.R_below (by (with_reducible repeat (first | apply Kd.R_alloc | apply Kd.R_drewN | apply Kd.R_drew)); exact HO332.out) hb); have n2_ := Bx0 BK321 hb; have n3_ := Bs1 HB hb GE321.out; clear HO328; clear HO332; clear BK321; clear HB; have HO328 := n0_; have HO332 := n1_; have BK321 := n2_; have HB := n3_; clear n0_ n1_ n2_ n3_; (try clear hb); obtain ⟨Ao35, co35, eo35⟩ := Kd.R_slice HO332.out; subst eo35) | (go_at_call 14; (with_reducible refine (ivl_Long.calls kj5 _ _ t329 t339 t340 _ ?side1 ?side2 A27.out).mono ?_); (case side1 => repeat (first | exact (Kd.R_reads' HO332.out).2.2 | (with_reducible refine Kd.C_alloc ?_ _) | (with_reducible refine Kd.C_drewN ?_ _) | (with_reducible refine Kd.C_drew ?_))); (case side2 => exact (Kd.R_reads' HO332.out).2.1); rintro e w36 ⟨rfl, hb⟩; have n0_ := Ax (Kd.R_below (by (with_reducible repeat (first | apply Kd.R_alloc | apply Kd.R_drewN | apply Kd.R_drew)); exact HO328.out) hb); have n1_ := Ax (Kd.R_below (by (with_reducible repeat (first | apply Kd.R_alloc | apply Kd.R_drewN | apply Kd.R_drew)); exact HO332.out) hb); have n2_ := Bx0 BK321 hb; have n3_ := Bs1 HB hb GE321.out; clear HO328; clear HO332; clear BK321; clear HB; have HO328 := n0_; have HO332 := n1_; have BK321 := n2_; have HB := n3_; clear n0_ n1_ n2_ n3_; (try clear hb))))
     (try simp only [Act.put, List.setIfInBounds_toArray, List.set_cons_zero, List.set_cons_succ])
     go_cut [98] (fun v98 wc => ∃ (kq : Nat) (x98_27 : Bool), v98 = .bool x98_27 ∧ Aside0 (spoorlaw19_IvlLong.j1 kq l0 t333 x98_27 a2_0 a2_1 = some r) ∧ Aside0 (kq ≤ kj5) ∧ Aside0 (wc.heap[gb321]? = some (.cells #[.int .i64 a2_0, .int .i64 a2_1] 36 (0, 0))) ∧ Aside0 (Below w.heap.size w wc))
     case first =>
      have H := HC28.out
      clear HC28
      by_cases c37 : t334 = 0
      ·rw [if_pos c37] at H
       have c37b0 : (t334 == 0) = true := beq_iff_eq.mpr c37
       have c37b1 : (t334 != 0) = false := bne_eq_false_iff_eq.mpr c37
       clear c37
       (first | rw [c37b0] | (simp only [i64_w, i32_w]; rw [c37b0]) | skip)
       by_cases c38 : t336 = 0
       ·rw [if_pos c38] at H
        have c38b0 : (t336 == 0) = true := beq_iff_eq.mpr c38
        have c38b1 : (t336 != 0) = false := bne_eq_false_iff_eq.mpr c38
        clear c38
        by_cases c39 : t338 = 0
        ·rw [if_pos c39] at H
         have c39b0 : (t338 == 0) = true := beq_iff_eq.mpr c39
         have c39b1 : (t338 != 0) = false := bne_eq_false_iff_eq.mpr c39
         clear c39
         by_cases c40 : t340 = 0
         ·rw [if_pos c40] at H
          have c40b0 : (t340 == 0) = true := beq_iff_eq.mpr c40
          have c40b1 : (t340 != 0) = false := bne_eq_false_iff_eq.mpr c40
          clear c40
          have H' := Ax H
          clear H
          go_wp2
          repeat (go_quiet (fail); try go_wp2)
          go_meet
          case rel => exact ⟨_, (((wrap64 (t333 + t335)) != (wrap64 (t337 + t339)))), rS, H', ⟨by have := HJ5.out; first | omega | exact Nat.le_refl _⟩, ⟨bf0 BK321.out⟩, ⟨bw1 HB.out GE321.out⟩⟩
         ·rw [if_neg c40] at H
          have c40b0 : (t340 == 0) = false := beq_eq_false_iff_ne.mpr c40
          have c40b1 : (t340 != 0) = true := bne_iff_ne.mpr c40
          have H' := Ax H
          clear H
          go_wp2
          repeat (go_quiet (fail); try go_wp2)
          go_meet
          case rel => exact ⟨_, (true), rS, H', ⟨by have := HJ5.out; first | omega | exact Nat.le_refl _⟩, ⟨bf0 BK321.out⟩, ⟨bw1 HB.out GE321.out⟩⟩
        ·rw [if_neg c39] at H
         have c39b0 : (t338 == 0) = false := beq_eq_false_iff_ne.mpr c39
         have c39b1 : (t338 != 0) = true := bne_iff_ne.mpr c39
         have H' := Ax H
         clear H
         go_wp2
         repeat (go_quiet (fail); try go_wp2)
         go_meet
         case rel => exact ⟨_, (true), rS, H', ⟨by have := HJ5.out; first | omega | exact Nat.le_refl _⟩, ⟨bf0 BK321.out⟩, ⟨bw1 HB.out GE321.out⟩⟩
       ·rw [if_neg c38] at H
        have c38b0 : (t336 == 0) = false := beq_eq_false_iff_ne.mpr c38
        have c38b1 : (t336 != 0) = true := bne_iff_ne.mpr c38
        have H' := Ax H
        clear H
        go_wp2
        repeat (go_quiet (fail); try go_wp2)
        go_meet
        case rel => exact ⟨_, (true), rS, H', ⟨by have := HJ5.out; first | omega | exact Nat.le_refl _⟩, ⟨bf0 BK321.out⟩, ⟨bw1 HB.out GE321.out⟩⟩
      ·rw [if_neg c37] at H
       have c37b0 : (t334 == 0) = false := beq_eq_false_iff_ne.mpr c37
       have c37b1 : (t334 != 0) = true := bne_iff_ne.mpr c37
       (first | rw [c37b0] | (simp only [i64_w, i32_w]; rw [c37b0]) | skip)
       have H' := Ax H
       clear H
       go_wp2
       repeat (go_quiet (fail); try go_wp2)
       go_meet
       case rel => exact ⟨_, (true), rS, H', ⟨by have := HJ5.out; first | omega | exact Nat.le_refl _⟩, ⟨bf0 BK321.out⟩, ⟨bw1 HB.out GE321.out⟩⟩
     case rest =>
      clear HC28
      try clear c1
      try clear c2
      try clear p2
      try clear c3
      try clear c4
      try clear c5
      try clear c6
      try clear p6
      try clear c10
      try clear c10b0
      try clear c10b1
      try clear c12
      try clear c12b0
      try clear c12b1
      try clear c13
      try clear c13b0
      try clear c13b1
      try clear c21
      try clear c37
      try clear c37b0
      try clear c37b1
      try clear c38
      try clear c38b0
      try clear c38b1
      try clear c39
      try clear c39b0
      try clear c39b1
      try clear c40
      try clear c40b0
      try clear c40b1
      try clear p2
      obtain ⟨kq, x98_27, rfl, HA, HJ27, BK321, HB⟩ := hcut
      cases kq with
      | zero => exact absurd HA.out (by simp [spoorlaw19_IvlLong.j1])
      | succ kj27 =>
       have H := HA.out
       clear HA
       simp only [spoorlaw19_IvlLong.j1] at H
       by_cases c41 : x98_27 = true
       ·subst c41
        have H1 : (none) = some r := by rw [if_pos rfl] at H; exact H
        clear H
        have H := H1
        clear H1
        exact absurd H (by simp)
       ·replace c41 := Bool.eq_false_iff.mpr c41
        subst c41
        have H1 : ((ivl_Not.f kj27 l0 a2_0 a2_1).bind fun bt341 => ((ivl_Long.f kj27 bt341.1).bind fun bt345 => (if bt341.2 = 0 then (if (l0.length : Int) > 0 then (if 0 < (l0.length : Int) then (if ((rd_T36 l0 0).f0) < a2_0 then (some true) else (if 0 ≤ (wrap64 ((l0.length : Int) - 1)) then (if (wrap64 ((l0.length : Int) - 1)) < (l0.length : Int) then (if ((rd_T36 l0 (wrap64 ((l0.length : Int) - 1))).f1) > a2_1 then (some true) else (if bt345.2 = 0 then (some ((wrap64 (t333 + bt345.1)) == (wrap64 ((wrap64 (a2_1 - a2_0)) + 1)))) else (none))) else (none)) else (none))) else (none)) else (if bt345.2 = 0 then (some ((wrap64 (t333 + bt345.1)) == (wrap64 ((wrap64 (a2_1 - a2_0)) + 1)))) else (none))) else (some true)))) = some r := by rw [if_neg (show ¬ (false = true) by decide)] at H; exact H
        clear H
        have H := H1
        clear H1
        replace H := Option.bind_eq_some_iff.mp H
        obtain ⟨⟨t341, t344⟩, A420, H⟩ := H
        replace H : ((ivl_Long.f kj27 t341).bind fun bt345 => (if t344 = 0 then (if (l0.length : Int) > 0 then (if 0 < (l0.length : Int) then (if ((rd_T36 l0 0).f0) < a2_0 then (some true) else (if 0 ≤ (wrap64 ((l0.length : Int) - 1)) then (if (wrap64 ((l0.length : Int) - 1)) < (l0.length : Int) then (if ((rd_T36 l0 (wrap64 ((l0.length : Int) - 1))).f1) > a2_1 then (some true) else (if bt345.2 = 0 then (some ((wrap64 (t333 + bt345.1)) == (wrap64 ((wrap64 (a2_1 - a2_0)) + 1)))) else (none))) else (none)) else (none))) else (none)) else (if bt345.2 = 0 then (some ((wrap64 (t333 + bt345.1)) == (wrap64 ((wrap64 (a2_1 - a2_0)) + 1)))) else (none))) else (some true))) = some r := H
        have A42 := Ax A420
        clear A420
        replace H := Option.bind_eq_some_iff.mp H
        obtain ⟨⟨t345, t346⟩, A430, H⟩ := H
        replace H : (if t344 = 0 then (if (l0.length : Int) > 0 then (if 0 < (l0.length : Int) then (if ((rd_T36 l0 0).f0) < a2_0 then (some true) else (if 0 ≤ (wrap64 ((l0.length : Int) - 1)) then (if (wrap64 ((l0.length : Int) - 1)) < (l0.length : Int) then (if ((rd_T36 l0 (wrap64 ((l0.length : Int) - 1))).f1) > a2_1 then (some true) else (if t346 = 0 then (some ((wrap64 (t333 + t345)) == (wrap64 ((wrap64 (a2_1 - a2_0)) + 1)))) else (none))) else (none)) else (none))) else (none)) else (if t346 = 0 then (some ((wrap64 (t333 + t345)) == (wrap64 ((wrap64 (a2_1 - a2_0)) + 1)))) else (none))) else (some true)) = some r := H
        have A43 := Ax A430
        clear A430
        by_cases c44 : t344 = 0
        ·rw [if_pos c44] at H
         have c44b0 : (t344 == 0) = true := beq_iff_eq.mpr c44
         have c44b1 : (t344 != 0) = false := bne_eq_false_iff_eq.mpr c44
         clear c44
         by_cases c45 : (l0.length : Int) > 0
         ·rw [if_pos c45] at H
          have c45b0 : decide (0 < (l0.length : Int)) = true := decide_eq_true c45
          have c45b1 : decide (0 < l0.length) = true := decide_eq_true (by omega)
          clear c45
          by_cases c46 : 0 < (l0.length : Int)
          ·rw [if_pos c46] at H
           have c46b0 : decide (0 < (l0.length : Int)) = true := decide_eq_true c46
           have c46b1 : decide (0 < l0.length) = true := decide_eq_true (by omega)
           clear c46
           by_cases c47 : ((rd_T36 l0 0).f0) < a2_0
           ·rw [if_pos c47] at H
            have c47b0 : decide (((rd_T36 l0 0).f0) < a2_0) = true := decide_eq_true c47
            clear c47
            obtain rfl := Option.some.inj H
            obtain ⟨hcz48_0, hcz48_1, hfz48_0, hfz48_1⟩ := cl2 BK321
            go_wp2_with (first | (go_at_call 23; (with_reducible refine (ivl_Not.calls kj27 _ _ l0 a2_0 a2_1 t341 t344 _ ?side1 ?side2 A42.out).mono ?_); (case side1 => repeat (first | exact (Kd.C_below HR0.out HB.out) | (with_reducible refine Kd.C_alloc ?_ _) | (with_reducible refine Kd.C_drewN ?_ _) | (with_reducible refine Kd.C_drew ?_))); (case side2 => exact HC0.out); rintro e w49 ⟨v342, rfl, ho0, hb⟩; have HO343 := Ax (Kd.R_lower (Kd.R_newB ho0 (g := gb321) (o := .cells #[.int .i64 a2_0, .int .i64 a2_1] 36 (0, 0)) (bf0 BK321.out)) (below_size (bw1 HB.out GE321.out))); replace BK321 := Bx0 BK321 hb; replace HB := Bs1 HB hb GE321.out; (try clear hb); (try clear ho0); obtain ⟨Ao50, co50, eo50⟩ := Kd.R_slice HO343.out; subst eo50) | (go_at_call 14; (with_reducible refine (ivl_Long.calls kj27 _ _ t341 t345 t346 _ ?side1 ?side2 A43.out).mono ?_); (case side1 => repeat (first | exact (Kd.R_reads' HO343.out).2.2 | (with_reducible refine Kd.C_alloc ?_ _) | (with_reducible refine Kd.C_drewN ?_ _) | (with_reducible refine Kd.C_drew ?_))); (case side2 => exact (Kd.R_reads' HO343.out).2.1); rintro e w51 ⟨rfl, hb⟩; have n0_ := Ax (Kd.R_below (by (with_reducible repeat (first | apply Kd.R_alloc | apply Kd.R_drewN | apply Kd.R_drew)); exact HO343.out) hb); have n1_ := Bx0 BK321 hb; have n2_ := Bs1 HB hb GE321.out; clear HO343; clear BK321; clear HB; have HO343 := n0_; have BK321 := n1_; have HB := n2_; clear n0_ n1_ n2_; (try clear hb); have p347 : 0 ≤ (0 : Int) := (by omega); have q347 : 0 < (l0.length : Int) := of_decide_eq_true (by first | (with_reducible assumption) | assumption); obtain ⟨ad347, e347, hx347_0, hx347_1⟩ := at_T36 HR0.out 0 p347 q347; cases e347; have qi347 : (0 < l0.length) = True := eq_true (by omega); (try rw [show ((0 : Int)).toNat = 0 from rfl] at hx347_0); (try rw [show 0 * 2 = 0 from rfl] at hx347_0); (try rw [Addr.add_zero'] at hx347_0); (try rw [show ((0 : Int)).toNat = 0 from rfl] at hx347_1); (try rw [show 0 * 2 = 0 from rfl] at hx347_1); (try rw [Addr.add_zero'] at hx347_1); replace hx347_0 := (HB.out.cell (World.block_lt_of_cell? w _ hx347_0)).trans hx347_0; replace hx347_1 := (HB.out.cell (World.block_lt_of_cell? w _ hx347_1)).trans hx347_1; replace p347 := eq_true p347; replace q347 := eq_true q347; obtain ⟨hcz52_0, hcz52_1, hfz52_0, hfz52_1⟩ := cl2 BK321))
            repeat (go_quiet (first | (go_at_call 23; (with_reducible refine (ivl_Not.calls kj27 _ _ l0 a2_0 a2_1 t341 t344 _ ?side1 ?side2 A42.out).mono ?_); (case side1 => repeat (first | exact (Kd.C_below HR0.out HB.out) | (with_reducible refine Kd.C_alloc ?_ _) | (with_reducible refine Kd.C_drewN ?_ _) | (with_reducible refine Kd.C_drew ?_))); (case side2 => exact HC0.out); rintro e w49 ⟨v342, rfl, ho0, hb⟩; have HO343 := Ax (Kd.R_lower (Kd.R_newB ho0 (g := gb321) (o := .cells #[.int .i64 a2_0, .int .i64 a2_1] 36 (0, 0)) (bf0 BK321.out)) (below_size (bw1 HB.out GE321.out))); replace BK321 := Bx0 BK321 hb; replace HB := Bs1 HB hb GE321.out; (try clear hb); (try clear ho0); obtain ⟨Ao50, co50, eo50⟩ := Kd.R_slice HO343.out; subst eo50) | (go_at_call 14; (with_reducible refine (ivl_Long.calls kj27 _ _ t341 t345 t346 _ ?side1 ?side2 A43.out).mono ?_); (case side1 => repeat (first | exact (Kd.R_reads' HO343.out).2.2 | (with_reducible refine Kd.C_alloc ?_ _) | (with_reducible refine Kd.C_drewN ?_ _) | (with_reducible refine Kd.C_drew ?_))); (case side2 => exact (Kd.R_reads' HO343.out).2.1); rintro e w51 ⟨rfl, hb⟩; have n0_ := Ax (Kd.R_below (by (with_reducible repeat (first | apply Kd.R_alloc | apply Kd.R_drewN | apply Kd.R_drew)); exact HO343.out) hb); have n1_ := Bx0 BK321 hb; have n2_ := Bs1 HB hb GE321.out; clear HO343; clear BK321; clear HB; have HO343 := n0_; have BK321 := n1_; have HB := n2_; clear n0_ n1_ n2_; (try clear hb); have p347 : 0 ≤ (0 : Int) := (by omega); have q347 : 0 < (l0.length : Int) := of_decide_eq_true (by first | (with_reducible assumption) | assumption); obtain ⟨ad347, e347, hx347_0, hx347_1⟩ := at_T36 HR0.out 0 p347 q347; cases e347; have qi347 : (0 < l0.length) = True := eq_true (by omega); (try rw [show ((0 : Int)).toNat = 0 from rfl] at hx347_0); (try rw [show 0 * 2 = 0 from rfl] at hx347_0); (try rw [Addr.add_zero'] at hx347_0); (try rw [show ((0 : Int)).toNat = 0 from rfl] at hx347_1); (try rw [show 0 * 2 = 0 from rfl] at hx347_1); (try rw [Addr.add_zero'] at hx347_1); replace hx347_0 := (HB.out.cell (World.block_lt_of_cell? w _ hx347_0)).trans hx347_0; replace hx347_1 := (HB.out.cell (World.block_lt_of_cell? w _ hx347_1)).trans hx347_1; replace p347 := eq_true p347; replace q347 := eq_true q347; obtain ⟨hcz52_0, hcz52_1, hfz52_0, hfz52_1⟩ := cl2 BK321)); try go_wp2_with (first | (go_at_call 23; (with_reducible refine (ivl_Not.calls kj27 _ _ l0 a2_0 a2_1 t341 t344 _ ?side1 ?side2 A42.out).mono ?_); (case side1 => repeat (first | exact (Kd.C_below HR0.out HB.out) | (with_reducible refine Kd.C_alloc ?_ _) | (with_reducible refine Kd.C_drewN ?_ _) | (with_reducible refine Kd.C_drew ?_))); (case side2 => exact HC0.out); rintro e w49 ⟨v342, rfl, ho0, hb⟩; have HO343 := Ax (Kd.R_lower (Kd.R_newB ho0 (g := gb321) (o := .cells #[.int .i64 a2_0, .int .i64 a2_1] 36 (0, 0)) (bf0 BK321.out)) (below_size (bw1 HB.out GE321.out))); replace BK321 := Bx0 BK321 hb; replace HB := Bs1 HB hb GE321.out; (try clear hb); (try clear ho0); obtain ⟨Ao50, co50, eo50⟩ := Kd.R_slice HO343.out; subst eo50) | (go_at_call 14; (with_reducible refine (ivl_Long.calls kj27 _ _ t341 t345 t346 _ ?side1 ?side2 A43.out).mono ?_); (case side1 => repeat (first | exact (Kd.R_reads' HO343.out).2.2 | (with_reducible refine Kd.C_alloc ?_ _) | (with_reducible refine Kd.C_drewN ?_ _) | (with_reducible refine Kd.C_drew ?_))); (case side2 => exact (Kd.R_reads' HO343.out).2.1); rintro e w51 ⟨rfl, hb⟩; have n0_ := Ax (Kd.R_below (by (with_reducible repeat (first | apply Kd.R_alloc | apply Kd.R_drewN | apply Kd.R_drew)); exact HO343.out) hb); have n1_ := Bx0 BK321 hb; have n2_ := Bs1 HB hb GE321.out; clear HO343; clear BK321; clear HB; have HO343 := n0_; have BK321 := n1_; have HB := n2_; clear n0_ n1_ n2_; (try clear hb); have p347 : 0 ≤ (0 : Int) := (by omega); have q347 : 0 < (l0.length : Int) := of_decide_eq_true (by first | (with_reducible assumption) | assumption); obtain ⟨ad347, e347, hx347_0, hx347_1⟩ := at_T36 HR0.out 0 p347 q347; cases e347; have qi347 : (0 < l0.length) = True := eq_true (by omega); (try rw [show ((0 : Int)).toNat = 0 from rfl] at hx347_0); (try rw [show 0 * 2 = 0 from rfl] at hx347_0); (try rw [Addr.add_zero'] at hx347_0); (try rw [show ((0 : Int)).toNat = 0 from rfl] at hx347_1); (try rw [show 0 * 2 = 0 from rfl] at hx347_1); (try rw [Addr.add_zero'] at hx347_1); replace hx347_0 := (HB.out.cell (World.block_lt_of_cell? w _ hx347_0)).trans hx347_0; replace hx347_1 := (HB.out.cell (World.block_lt_of_cell? w _ hx347_1)).trans hx347_1; replace p347 := eq_true p347; replace q347 := eq_true q347; obtain ⟨hcz52_0, hcz52_1, hfz52_0, hfz52_1⟩ := cl2 BK321)))
            go_ret
            exact ⟨eS, bw1 HB.out GE321.out⟩
           ·rw [if_neg c47] at H
            have c47b0 : decide (((rd_T36 l0 0).f0) < a2_0) = false := decide_eq_false c47
            clear c47
            obtain ⟨ji53, hji53⟩ : ∃ j_ : Int, (wrap64 ((l0.length : Int) - 1)) = j_ := ⟨_, rfl⟩
            replace H : (if 0 ≤ (ji53) then (if (ji53) < (l0.length : Int) then (if ((rd_T36 l0 (ji53)).f1) > a2_1 then (some true) else (if t346 = 0 then (some ((wrap64 (t333 + t345)) == (wrap64 ((wrap64 (a2_1 - a2_0)) + 1)))) else (none))) else (none)) else (none)) = some r := by first | (rw [hji53] at H; exact H) | (simp only [hji53] at H ⊢; exact H)
            (try rw [hji53] at A42)
            (try rw [hji53] at A43)
            have hji53w : (IntKind.i64.wrap ((l0.length : Int) - 1)) = ji53 := (i64_w _).trans hji53
            by_cases c54 : 0 ≤ (ji53)
            ·rw [if_pos c54] at H
             have c54b0 : decide (0 ≤ (ji53)) = true := decide_eq_true c54
             clear c54
             by_cases c55 : (ji53) < (l0.length : Int)
             ·rw [if_pos c55] at H
              have c55b0 : decide ((ji53) < (l0.length : Int)) = true := decide_eq_true c55
              clear c55
              by_cases c56 : ((rd_T36 l0 (ji53)).f1) > a2_1
              ·rw [if_pos c56] at H
               have c56b0 : decide (a2_1 < ((rd_T36 l0 (ji53)).f1)) = true := decide_eq_true c56
               clear c56
               obtain rfl := Option.some.inj H
               obtain ⟨hcz57_0, hcz57_1, hfz57_0, hfz57_1⟩ := cl2 BK321
               go_wp2_with (first | (go_at_call 23; (with_reducible refine (ivl_Not.calls kj27 _ _ l0 a2_0 a2_1 t341 t344 _ ?side1 ?side2 A42.out).mono ?_); (case side1 => repeat (first | exact (Kd.C_below HR0.out HB.out) | (with_reducible refine Kd.C_alloc ?_ _) | (with_reducible refine Kd.C_drewN ?_ _) | (with_reducible refine Kd.C_drew ?_))); (case side2 => exact HC0.out); rintro e w58 ⟨v342, rfl, ho0, hb⟩; have HO343 := Ax (Kd.R_lower (Kd.R_newB ho0 (g := gb321) (o := .cells #[.int .i64 a2_0, .int .i64 a2_1] 36 (0, 0)) (bf0 BK321.out)) (below_size (bw1 HB.out GE321.out))); replace BK321 := Bx0 BK321 hb; replace HB := Bs1 HB hb GE321.out; (try clear hb); (try clear ho0); obtain ⟨Ao59, co59, eo59⟩ := Kd.R_slice HO343.out; subst eo59) | (go_at_call 14; (with_reducible refine (ivl_Long.calls kj27 _ _ t341 t345 t346 _ ?side1 ?side2 A43.out).mono ?_); (case side1 => repeat (first | exact (Kd.R_reads' HO343.out).2.2 | (with_reducible refine Kd.C_alloc ?_ _) | (with_reducible refine Kd.C_drewN ?_ _) | (with_reducible refine Kd.C_drew ?_))); (case side2 => exact (Kd.R_reads' HO343.out).2.1); rintro e w60 ⟨rfl, hb⟩; have n0_ := Ax (Kd.R_below (by (with_reducible repeat (first | apply Kd.R_alloc | apply Kd.R_drewN | apply Kd.R_drew)); exact HO343.out) hb); have n1_ := Bx0 BK321 hb; have n2_ := Bs1 HB hb GE321.out; clear HO343; clear BK321; clear HB; have HO343 := n0_; have BK321 := n1_; have HB := n2_; clear n0_ n1_ n2_; (try clear hb); have p347 : 0 ≤ (0 : Int) := (by omega); have q347 : 0 < (l0.length : Int) := of_decide_eq_true (by first | (with_reducible assumption) | assumption); obtain ⟨ad347, e347, hx347_0, hx347_1⟩ := at_T36 HR0.out 0 p347 q347; cases e347; have qi347 : (0 < l0.length) = True := eq_true (by omega); (try rw [show ((0 : Int)).toNat = 0 from rfl] at hx347_0); (try rw [show 0 * 2 = 0 from rfl] at hx347_0); (try rw [Addr.add_zero'] at hx347_0); (try rw [show ((0 : Int)).toNat = 0 from rfl] at hx347_1); (try rw [show 0 * 2 = 0 from rfl] at hx347_1); (try rw [Addr.add_zero'] at hx347_1); replace hx347_0 := (HB.out.cell (World.block_lt_of_cell? w _ hx347_0)).trans hx347_0; replace hx347_1 := (HB.out.cell (World.block_lt_of_cell? w _ hx347_1)).trans hx347_1; replace p347 := eq_true p347; replace q347 := eq_true q347; obtain ⟨hcz61_0, hcz61_1, hfz61_0, hfz61_1⟩ := cl2 BK321; have p348 : 0 ≤ ((ji53) : Int) := of_decide_eq_true (by first | (with_reducible assumption) | assumption); have q348 : (ji53) < (l0.length : Int) := of_decide_eq_true (by first | (with_reducible assumption) | assumption); obtain ⟨ad348, e348, hx348_0, hx348_1⟩ := at_T36 HR0.out (ji53) p348 q348; obtain rfl : ad347 = ad348 := (by injection e348); replace hx348_0 := (HB.out.cell (World.block_lt_of_cell? w _ hx348_0)).trans hx348_0; replace hx348_1 := (HB.out.cell (World.block_lt_of_cell? w _ hx348_1)).trans hx348_1; replace p348 := eq_true p348; replace q348 := eq_true q348))
               repeat (go_quiet (first | (go_at_call 23; (with_reducible refine (ivl_Not.calls kj27 _ _ l0 a2_0 a2_1 t341 t344 _ ?side1 ?side2 A42.out).mono ?_); (case side1 => repeat (first | exact (Kd.C_below HR0.out HB.out) | (with_reducible refine Kd.C_alloc ?_ _) | (with_reducible refine Kd.C_drewN ?_ _) | (with_reducible refine Kd.C_drew ?_))); (case side2 => exact HC0.out); rintro e w58 ⟨v342, rfl, ho0, hb⟩; have HO343 := Ax (Kd.R_lower (Kd.R_newB ho0 (g := gb321) (o := .cells #[.int .i64 a2_0, .int .i64 a2_1] 36 (0, 0)) (bf0 BK321.out)) (below_size (bw1 HB.out GE321.out))); replace BK321 := Bx0 BK321 hb; replace HB := Bs1 HB hb GE321.out; (try clear hb); (try clear ho0); obtain ⟨Ao59, co59, eo59⟩ := Kd.R_slice HO343.out; subst eo59) | (go_at_call 14; (with_reducible refine (ivl_Long.calls kj27 _ _ t341 t345 t346 _ ?side1 ?side2 A43.out).mono ?_); (case side1 => repeat (first | exact (Kd.R_reads' HO343.out).2.2 | (with_reducible refine Kd.C_alloc ?_ _) | (with_reducible refine Kd.C_drewN ?_ _) | (with_reducible refine Kd.C_drew ?_))); (case side2 => exact (Kd.R_reads' HO343.out).2.1); rintro e w60 ⟨rfl, hb⟩; have n0_ := Ax (Kd.R_below (by (with_reducible repeat (first | apply Kd.R_alloc | apply Kd.R_drewN | apply Kd.R_drew)); exact HO343.out) hb); have n1_ := Bx0 BK321 hb; have n2_ := Bs1 HB hb GE321.out; clear HO343; clear BK321; clear HB; have HO343 := n0_; have BK321 := n1_; have HB := n2_; clear n0_ n1_ n2_; (try clear hb); have p347 : 0 ≤ (0 : Int) := (by omega); have q347 : 0 < (l0.length : Int) := of_decide_eq_true (by first | (with_reducible assumption) | assumption); obtain ⟨ad347, e347, hx347_0, hx347_1⟩ := at_T36 HR0.out 0 p347 q347; cases e347; have qi347 : (0 < l0.length) = True := eq_true (by omega); (try rw [show ((0 : Int)).toNat = 0 from rfl] at hx347_0); (try rw [show 0 * 2 = 0 from rfl] at hx347_0); (try rw [Addr.add_zero'] at hx347_0); (try rw [show ((0 : Int)).toNat = 0 from rfl] at hx347_1); (try rw [show 0 * 2 = 0 from rfl] at hx347_1); (try rw [Addr.add_zero'] at hx347_1); replace hx347_0 := (HB.out.cell (World.block_lt_of_cell? w _ hx347_0)).trans hx347_0; replace hx347_1 := (HB.out.cell (World.block_lt_of_cell? w _ hx347_1)).trans hx347_1; replace p347 := eq_true p347; replace q347 := eq_true q347; obtain ⟨hcz61_0, hcz61_1, hfz61_0, hfz61_1⟩ := cl2 BK321; have p348 : 0 ≤ ((ji53) : Int) := of_decide_eq_true (by first | (with_reducible assumption) | assumption); have q348 : (ji53) < (l0.length : Int) := of_decide_eq_true (by first | (with_reducible assumption) | assumption); obtain ⟨ad348, e348, hx348_0, hx348_1⟩ := at_T36 HR0.out (ji53) p348 q348; obtain rfl : ad347 = ad348 := (by injection e348); replace hx348_0 := (HB.out.cell (World.block_lt_of_cell? w _ hx348_0)).trans hx348_0; replace hx348_1 := (HB.out.cell (World.block_lt_of_cell? w _ hx348_1)).trans hx348_1; replace p348 := eq_true p348; replace q348 := eq_true q348)); try go_wp2_with (first | (go_at_call 23; (with_reducible refine (ivl_Not.calls kj27 _ _ l0 a2_0 a2_1 t341 t344 _ ?side1 ?side2 A42.out).mono ?_); (case side1 => repeat (first | exact (Kd.C_below HR0.out HB.out) | (with_reducible refine Kd.C_alloc ?_ _) | (with_reducible refine Kd.C_drewN ?_ _) | (with_reducible refine Kd.C_drew ?_))); (case side2 => exact HC0.out); rintro e w58 ⟨v342, rfl, ho0, hb⟩; have HO343 := Ax (Kd.R_lower (Kd.R_newB ho0 (g := gb321) (o := .cells #[.int .i64 a2_0, .int .i64 a2_1] 36 (0, 0)) (bf0 BK321.out)) (below_size (bw1 HB.out GE321.out))); replace BK321 := Bx0 BK321 hb; replace HB := Bs1 HB hb GE321.out; (try clear hb); (try clear ho0); obtain ⟨Ao59, co59, eo59⟩ := Kd.R_slice HO343.out; subst eo59) | (go_at_call 14; (with_reducible refine (ivl_Long.calls kj27 _ _ t341 t345 t346 _ ?side1 ?side2 A43.out).mono ?_); (case side1 => repeat (first | exact (Kd.R_reads' HO343.out).2.2 | (with_reducible refine Kd.C_alloc ?_ _) | (with_reducible refine Kd.C_drewN ?_ _) | (with_reducible refine Kd.C_drew ?_))); (case side2 => exact (Kd.R_reads' HO343.out).2.1); rintro e w60 ⟨rfl, hb⟩; have n0_ := Ax (Kd.R_below (by (with_reducible repeat (first | apply Kd.R_alloc | apply Kd.R_drewN | apply Kd.R_drew)); exact HO343.out) hb); have n1_ := Bx0 BK321 hb; have n2_ := Bs1 HB hb GE321.out; clear HO343; clear BK321; clear HB; have HO343 := n0_; have BK321 := n1_; have HB := n2_; clear n0_ n1_ n2_; (try clear hb); have p347 : 0 ≤ (0 : Int) := (by omega); have q347 : 0 < (l0.length : Int) := of_decide_eq_true (by first | (with_reducible assumption) | assumption); obtain ⟨ad347, e347, hx347_0, hx347_1⟩ := at_T36 HR0.out 0 p347 q347; cases e347; have qi347 : (0 < l0.length) = True := eq_true (by omega); (try rw [show ((0 : Int)).toNat = 0 from rfl] at hx347_0); (try rw [show 0 * 2 = 0 from rfl] at hx347_0); (try rw [Addr.add_zero'] at hx347_0); (try rw [show ((0 : Int)).toNat = 0 from rfl] at hx347_1); (try rw [show 0 * 2 = 0 from rfl] at hx347_1); (try rw [Addr.add_zero'] at hx347_1); replace hx347_0 := (HB.out.cell (World.block_lt_of_cell? w _ hx347_0)).trans hx347_0; replace hx347_1 := (HB.out.cell (World.block_lt_of_cell? w _ hx347_1)).trans hx347_1; replace p347 := eq_true p347; replace q347 := eq_true q347; obtain ⟨hcz61_0, hcz61_1, hfz61_0, hfz61_1⟩ := cl2 BK321; have p348 : 0 ≤ ((ji53) : Int) := of_decide_eq_true (by first | (with_reducible assumption) | assumption); have q348 : (ji53) < (l0.length : Int) := of_decide_eq_true (by first | (with_reducible assumption) | assumption); obtain ⟨ad348, e348, hx348_0, hx348_1⟩ := at_T36 HR0.out (ji53) p348 q348; obtain rfl : ad347 = ad348 := (by injection e348); replace hx348_0 := (HB.out.cell (World.block_lt_of_cell? w _ hx348_0)).trans hx348_0; replace hx348_1 := (HB.out.cell (World.block_lt_of_cell? w _ hx348_1)).trans hx348_1; replace p348 := eq_true p348; replace q348 := eq_true q348)))
               go_ret
               exact ⟨by first | rfl | (simp [errW_none, errW_some] <;> rfl) | (simp only [← hji53]; first | rfl | (simp [errW_none, errW_some] <;> rfl)) | (simp [*, errW_none, errW_some] <;> rfl), bw1 HB.out GE321.out⟩
              ·rw [if_neg c56] at H
               have c56b0 : decide (a2_1 < ((rd_T36 l0 (ji53)).f1)) = false := decide_eq_false c56
               clear c56
               by_cases c62 : t346 = 0
               ·rw [if_pos c62] at H
                have c62b0 : (t346 == 0) = true := beq_iff_eq.mpr c62
                have c62b1 : (t346 != 0) = false := bne_eq_false_iff_eq.mpr c62
                clear c62
                obtain rfl := Option.some.inj H
                obtain ⟨hcz63_0, hcz63_1, hfz63_0, hfz63_1⟩ := cl2 BK321
                go_wp2_with (first | (go_at_call 23; (with_reducible refine (ivl_Not.calls kj27 _ _ l0 a2_0 a2_1 t341 t344 _ ?side1 ?side2 A42.out).mono ?_); (case side1 => repeat (first | exact (Kd.C_below HR0.out HB.out) | (with_reducible refine Kd.C_alloc ?_ _) | (with_reducible refine Kd.C_drewN ?_ _) | (with_reducible refine Kd.C_drew ?_))); (case side2 => exact HC0.out); rintro e w64 ⟨v342, rfl, ho0, hb⟩; have HO343 := Ax (Kd.R_lower (Kd.R_newB ho0 (g := gb321) (o := .cells #[.int .i64 a2_0, .int .i64 a2_1] 36 (0, 0)) (bf0 BK321.out)) (below_size (bw1 HB.out GE321.out))); replace BK321 := Bx0 BK321 hb; replace HB := Bs1 HB hb GE321.out; (try clear hb); (try clear ho0); obtain ⟨Ao65, co65, eo65⟩ := Kd.R_slice HO343.out; subst eo65) | (go_at_call 14; (with_reducible refine (ivl_Long.calls kj27 _ _ t341 t345 t346 _ ?side1 ?side2 A43.out).mono ?_); (case side1 => repeat (first | exact (Kd.R_reads' HO343.out).2.2 | (with_reducible refine Kd.C_alloc ?_ _) | (with_reducible refine Kd.C_drewN ?_ _) | (with_reducible refine Kd.C_drew ?_))); (case side2 => exact (Kd.R_reads' HO343.out).2.1); rintro e w66 ⟨rfl, hb⟩; have n0_ := Ax (Kd.R_below (by (with_reducible repeat (first | apply Kd.R_alloc | apply Kd.R_drewN | apply Kd.R_drew)); exact HO343.out) hb); have n1_ := Bx0 BK321 hb; have n2_ := Bs1 HB hb GE321.out; clear HO343; clear BK321; clear HB; have HO343 := n0_; have BK321 := n1_; have HB := n2_; clear n0_ n1_ n2_; (try clear hb); have p347 : 0 ≤ (0 : Int) := (by omega); have q347 : 0 < (l0.length : Int) := of_decide_eq_true (by first | (with_reducible assumption) | assumption); obtain ⟨ad347, e347, hx347_0, hx347_1⟩ := at_T36 HR0.out 0 p347 q347; cases e347; have qi347 : (0 < l0.length) = True := eq_true (by omega); (try rw [show ((0 : Int)).toNat = 0 from rfl] at hx347_0); (try rw [show 0 * 2 = 0 from rfl] at hx347_0); (try rw [Addr.add_zero'] at hx347_0); (try rw [show ((0 : Int)).toNat = 0 from rfl] at hx347_1); (try rw [show 0 * 2 = 0 from rfl] at hx347_1); (try rw [Addr.add_zero'] at hx347_1); replace hx347_0 := (HB.out.cell (World.block_lt_of_cell? w _ hx347_0)).trans hx347_0; replace hx347_1 := (HB.out.cell (World.block_lt_of_cell? w _ hx347_1)).trans hx347_1; replace p347 := eq_true p347; replace q347 := eq_true q347; obtain ⟨hcz67_0, hcz67_1, hfz67_0, hfz67_1⟩ := cl2 BK321; have p348 : 0 ≤ ((ji53) : Int) := of_decide_eq_true (by first | (with_reducible assumption) | assumption); have q348 : (ji53) < (l0.length : Int) := of_decide_eq_true (by first | (with_reducible assumption) | assumption); obtain ⟨ad348, e348, hx348_0, hx348_1⟩ := at_T36 HR0.out (ji53) p348 q348; obtain rfl : ad347 = ad348 := (by injection e348); replace hx348_0 := (HB.out.cell (World.block_lt_of_cell? w _ hx348_0)).trans hx348_0; replace hx348_1 := (HB.out.cell (World.block_lt_of_cell? w _ hx348_1)).trans hx348_1; replace p348 := eq_true p348; replace q348 := eq_true q348))
                repeat (go_quiet (first | (go_at_call 23; (with_reducible refine (ivl_Not.calls kj27 _ _ l0 a2_0 a2_1 t341 t344 _ ?side1 ?side2 A42.out).mono ?_); (case side1 => repeat (first | exact (Kd.C_below HR0.out HB.out) | (with_reducible refine Kd.C_alloc ?_ _) | (with_reducible refine Kd.C_drewN ?_ _) | (with_reducible refine Kd.C_drew ?_))); (case side2 => exact HC0.out); rintro e w64 ⟨v342, rfl, ho0, hb⟩; have HO343 := Ax (Kd.R_lower (Kd.R_newB ho0 (g := gb321) (o := .cells #[.int .i64 a2_0, .int .i64 a2_1] 36 (0, 0)) (bf0 BK321.out)) (below_size (bw1 HB.out GE321.out))); replace BK321 := Bx0 BK321 hb; replace HB := Bs1 HB hb GE321.out; (try clear hb); (try clear ho0); obtain ⟨Ao65, co65, eo65⟩ := Kd.R_slice HO343.out; subst eo65) | (go_at_call 14; (with_reducible refine (ivl_Long.calls kj27 _ _ t341 t345 t346 _ ?side1 ?side2 A43.out).mono ?_); (case side1 => repeat (first | exact (Kd.R_reads' HO343.out).2.2 | (with_reducible refine Kd.C_alloc ?_ _) | (with_reducible refine Kd.C_drewN ?_ _) | (with_reducible refine Kd.C_drew ?_))); (case side2 => exact (Kd.R_reads' HO343.out).2.1); rintro e w66 ⟨rfl, hb⟩; have n0_ := Ax (Kd.R_below (by (with_reducible repeat (first | apply Kd.R_alloc | apply Kd.R_drewN | apply Kd.R_drew)); exact HO343.out) hb); have n1_ := Bx0 BK321 hb; have n2_ := Bs1 HB hb GE321.out; clear HO343; clear BK321; clear HB; have HO343 := n0_; have BK321 := n1_; have HB := n2_; clear n0_ n1_ n2_; (try clear hb); have p347 : 0 ≤ (0 : Int) := (by omega); have q347 : 0 < (l0.length : Int) := of_decide_eq_true (by first | (with_reducible assumption) | assumption); obtain ⟨ad347, e347, hx347_0, hx347_1⟩ := at_T36 HR0.out 0 p347 q347; cases e347; have qi347 : (0 < l0.length) = True := eq_true (by omega); (try rw [show ((0 : Int)).toNat = 0 from rfl] at hx347_0); (try rw [show 0 * 2 = 0 from rfl] at hx347_0); (try rw [Addr.add_zero'] at hx347_0); (try rw [show ((0 : Int)).toNat = 0 from rfl] at hx347_1); (try rw [show 0 * 2 = 0 from rfl] at hx347_1); (try rw [Addr.add_zero'] at hx347_1); replace hx347_0 := (HB.out.cell (World.block_lt_of_cell? w _ hx347_0)).trans hx347_0; replace hx347_1 := (HB.out.cell (World.block_lt_of_cell? w _ hx347_1)).trans hx347_1; replace p347 := eq_true p347; replace q347 := eq_true q347; obtain ⟨hcz67_0, hcz67_1, hfz67_0, hfz67_1⟩ := cl2 BK321; have p348 : 0 ≤ ((ji53) : Int) := of_decide_eq_true (by first | (with_reducible assumption) | assumption); have q348 : (ji53) < (l0.length : Int) := of_decide_eq_true (by first | (with_reducible assumption) | assumption); obtain ⟨ad348, e348, hx348_0, hx348_1⟩ := at_T36 HR0.out (ji53) p348 q348; obtain rfl : ad347 = ad348 := (by injection e348); replace hx348_0 := (HB.out.cell (World.block_lt_of_cell? w _ hx348_0)).trans hx348_0; replace hx348_1 := (HB.out.cell (World.block_lt_of_cell? w _ hx348_1)).trans hx348_1; replace p348 := eq_true p348; replace q348 := eq_true q348)); try go_wp2_with (first | (go_at_call 23; (with_reducible refine (ivl_Not.calls kj27 _ _ l0 a2_0 a2_1 t341 t344 _ ?side1 ?side2 A42.out).mono ?_); (case side1 => repeat (first | exact (Kd.C_below HR0.out HB.out) | (with_reducible refine Kd.C_alloc ?_ _) | (with_reducible refine Kd.C_drewN ?_ _) | (with_reducible refine Kd.C_drew ?_))); (case side2 => exact HC0.out); rintro e w64 ⟨v342, rfl, ho0, hb⟩; have HO343 := Ax (Kd.R_lower (Kd.R_newB ho0 (g := gb321) (o := .cells #[.int .i64 a2_0, .int .i64 a2_1] 36 (0, 0)) (bf0 BK321.out)) (below_size (bw1 HB.out GE321.out))); replace BK321 := Bx0 BK321 hb; replace HB := Bs1 HB hb GE321.out; (try clear hb); (try clear ho0); obtain ⟨Ao65, co65, eo65⟩ := Kd.R_slice HO343.out; subst eo65) | (go_at_call 14; (with_reducible refine (ivl_Long.calls kj27 _ _ t341 t345 t346 _ ?side1 ?side2 A43.out).mono ?_); (case side1 => repeat (first | exact (Kd.R_reads' HO343.out).2.2 | (with_reducible refine Kd.C_alloc ?_ _) | (with_reducible refine Kd.C_drewN ?_ _) | (with_reducible refine Kd.C_drew ?_))); (case side2 => exact (Kd.R_reads' HO343.out).2.1); rintro e w66 ⟨rfl, hb⟩; have n0_ := Ax (Kd.R_below (by (with_reducible repeat (first | apply Kd.R_alloc | apply Kd.R_drewN | apply Kd.R_drew)); exact HO343.out) hb); have n1_ := Bx0 BK321 hb; have n2_ := Bs1 HB hb GE321.out; clear HO343; clear BK321; clear HB; have HO343 := n0_; have BK321 := n1_; have HB := n2_; clear n0_ n1_ n2_; (try clear hb); have p347 : 0 ≤ (0 : Int) := (by omega); have q347 : 0 < (l0.length : Int) := of_decide_eq_true (by first | (with_reducible assumption) | assumption); obtain ⟨ad347, e347, hx347_0, hx347_1⟩ := at_T36 HR0.out 0 p347 q347; cases e347; have qi347 : (0 < l0.length) = True := eq_true (by omega); (try rw [show ((0 : Int)).toNat = 0 from rfl] at hx347_0); (try rw [show 0 * 2 = 0 from rfl] at hx347_0); (try rw [Addr.add_zero'] at hx347_0); (try rw [show ((0 : Int)).toNat = 0 from rfl] at hx347_1); (try rw [show 0 * 2 = 0 from rfl] at hx347_1); (try rw [Addr.add_zero'] at hx347_1); replace hx347_0 := (HB.out.cell (World.block_lt_of_cell? w _ hx347_0)).trans hx347_0; replace hx347_1 := (HB.out.cell (World.block_lt_of_cell? w _ hx347_1)).trans hx347_1; replace p347 := eq_true p347; replace q347 := eq_true q347; obtain ⟨hcz67_0, hcz67_1, hfz67_0, hfz67_1⟩ := cl2 BK321; have p348 : 0 ≤ ((ji53) : Int) := of_decide_eq_true (by first | (with_reducible assumption) | assumption); have q348 : (ji53) < (l0.length : Int) := of_decide_eq_true (by first | (with_reducible assumption) | assumption); obtain ⟨ad348, e348, hx348_0, hx348_1⟩ := at_T36 HR0.out (ji53) p348 q348; obtain rfl : ad347 = ad348 := (by injection e348); replace hx348_0 := (HB.out.cell (World.block_lt_of_cell? w _ hx348_0)).trans hx348_0; replace hx348_1 := (HB.out.cell (World.block_lt_of_cell? w _ hx348_1)).trans hx348_1; replace p348 := eq_true p348; replace q348 := eq_true q348)))
                go_ret
                exact ⟨by first | rfl | (simp [errW_none, errW_some] <;> rfl) | (simp only [← hji53]; first | rfl | (simp [errW_none, errW_some] <;> rfl)) | (simp [*, errW_none, errW_some] <;> rfl), bw1 HB.out GE321.out⟩
               ·rw [if_neg c62] at H
                exact absurd H (by simp)
             ·rw [if_neg c55] at H
              exact absurd H (by simp)
            ·rw [if_neg c54] at H
             exact absurd H (by simp)
          ·rw [if_neg c46] at H
           exact absurd H (by simp)
         ·rw [if_neg c45] at H
          have c45b0 : decide (0 < (l0.length : Int)) = false := decide_eq_false c45
          have c45b1 : decide (0 < l0.length) = false := decide_eq_false (by omega)
          clear c45
          by_cases c68 : t346 = 0
          ·rw [if_pos c68] at H
           have c68b0 : (t346 == 0) = true := beq_iff_eq.mpr c68
           have c68b1 : (t346 != 0) = false := bne_eq_false_iff_eq.mpr c68
           clear c68
           obtain rfl := Option.some.inj H
           obtain ⟨hcz69_0, hcz69_1, hfz69_0, hfz69_1⟩ := cl2 BK321
           go_wp2_with (first | (go_at_call 23; (with_reducible refine (ivl_Not.calls kj27 _ _ l0 a2_0 a2_1 t341 t344 _ ?side1 ?side2 A42.out).mono ?_); (case side1 => repeat (first | exact (Kd.C_below HR0.out HB.out) | (with_reducible refine Kd.C_alloc ?_ _) | (with_reducible refine Kd.C_drewN ?_ _) | (with_reducible refine Kd.C_drew ?_))); (case side2 => exact HC0.out); rintro e w70 ⟨v342, rfl, ho0, hb⟩; have HO343 := Ax (Kd.R_lower (Kd.R_newB ho0 (g := gb321) (o := .cells #[.int .i64 a2_0, .int .i64 a2_1] 36 (0, 0)) (bf0 BK321.out)) (below_size (bw1 HB.out GE321.out))); replace BK321 := Bx0 BK321 hb; replace HB := Bs1 HB hb GE321.out; (try clear hb); (try clear ho0); obtain ⟨Ao71, co71, eo71⟩ := Kd.R_slice HO343.out; subst eo71) | (go_at_call 14; (with_reducible refine (ivl_Long.calls kj27 _ _ t341 t345 t346 _ ?side1 ?side2 A43.out).mono ?_); (case side1 => repeat (first | exact (Kd.R_reads' HO343.out).2.2 | (with_reducible refine Kd.C_alloc ?_ _) | (with_reducible refine Kd.C_drewN ?_ _) | (with_reducible refine Kd.C_drew ?_))); (case side2 => exact (Kd.R_reads' HO343.out).2.1); rintro e w72 ⟨rfl, hb⟩; have n0_ := Ax (Kd.R_below (by (with_reducible repeat (first | apply Kd.R_alloc | apply Kd.R_drewN | apply Kd.R_drew)); exact HO343.out) hb); have n1_ := Bx0 BK321 hb; have n2_ := Bs1 HB hb GE321.out; clear HO343; clear BK321; clear HB; have HO343 := n0_; have BK321 := n1_; have HB := n2_; clear n0_ n1_ n2_; (try clear hb); obtain ⟨hcz73_0, hcz73_1, hfz73_0, hfz73_1⟩ := cl2 BK321))
           repeat (go_quiet (first | (go_at_call 23; (with_reducible refine (ivl_Not.calls kj27 _ _ l0 a2_0 a2_1 t341 t344 _ ?side1 ?side2 A42.out).mono ?_); (case side1 => repeat (first | exact (Kd.C_below HR0.out HB.out) | (with_reducible refine Kd.C_alloc ?_ _) | (with_reducible refine Kd.C_drewN ?_ _) | (with_reducible refine Kd.C_drew ?_))); (case side2 => exact HC0.out); rintro e w70 ⟨v342, rfl, ho0, hb⟩; have HO343 := Ax (Kd.R_lower (Kd.R_newB ho0 (g := gb321) (o := .cells #[.int .i64 a2_0, .int .i64 a2_1] 36 (0, 0)) (bf0 BK321.out)) (below_size (bw1 HB.out GE321.out))); replace BK321 := Bx0 BK321 hb; replace HB := Bs1 HB hb GE321.out; (try clear hb); (try clear ho0); obtain ⟨Ao71, co71, eo71⟩ := Kd.R_slice HO343.out; subst eo71) | (go_at_call 14; (with_reducible refine (ivl_Long.calls kj27 _ _ t341 t345 t346 _ ?side1 ?side2 A43.out).mono ?_); (case side1 => repeat (first | exact (Kd.R_reads' HO343.out).2.2 | (with_reducible refine Kd.C_alloc ?_ _) | (with_reducible refine Kd.C_drewN ?_ _) | (with_reducible refine Kd.C_drew ?_))); (case side2 => exact (Kd.R_reads' HO343.out).2.1); rintro e w72 ⟨rfl, hb⟩; have n0_ := Ax (Kd.R_below (by (with_reducible repeat (first | apply Kd.R_alloc | apply Kd.R_drewN | apply Kd.R_drew)); exact HO343.out) hb); have n1_ := Bx0 BK321 hb; have n2_ := Bs1 HB hb GE321.out; clear HO343; clear BK321; clear HB; have HO343 := n0_; have BK321 := n1_; have HB := n2_; clear n0_ n1_ n2_; (try clear hb); obtain ⟨hcz73_0, hcz73_1, hfz73_0, hfz73_1⟩ := cl2 BK321)); try go_wp2_with (first | (go_at_call 23; (with_reducible refine (ivl_Not.calls kj27 _ _ l0 a2_0 a2_1 t341 t344 _ ?side1 ?side2 A42.out).mono ?_); (case side1 => repeat (first | exact (Kd.C_below HR0.out HB.out) | (with_reducible refine Kd.C_alloc ?_ _) | (with_reducible refine Kd.C_drewN ?_ _) | (with_reducible refine Kd.C_drew ?_))); (case side2 => exact HC0.out); rintro e w70 ⟨v342, rfl, ho0, hb⟩; have HO343 := Ax (Kd.R_lower (Kd.R_newB ho0 (g := gb321) (o := .cells #[.int .i64 a2_0, .int .i64 a2_1] 36 (0, 0)) (bf0 BK321.out)) (below_size (bw1 HB.out GE321.out))); replace BK321 := Bx0 BK321 hb; replace HB := Bs1 HB hb GE321.out; (try clear hb); (try clear ho0); obtain ⟨Ao71, co71, eo71⟩ := Kd.R_slice HO343.out; subst eo71) | (go_at_call 14; (with_reducible refine (ivl_Long.calls kj27 _ _ t341 t345 t346 _ ?side1 ?side2 A43.out).mono ?_); (case side1 => repeat (first | exact (Kd.R_reads' HO343.out).2.2 | (with_reducible refine Kd.C_alloc ?_ _) | (with_reducible refine Kd.C_drewN ?_ _) | (with_reducible refine Kd.C_drew ?_))); (case side2 => exact (Kd.R_reads' HO343.out).2.1); rintro e w72 ⟨rfl, hb⟩; have n0_ := Ax (Kd.R_below (by (with_reducible repeat (first | apply Kd.R_alloc | apply Kd.R_drewN | apply Kd.R_drew)); exact HO343.out) hb); have n1_ := Bx0 BK321 hb; have n2_ := Bs1 HB hb GE321.out; clear HO343; clear BK321; clear HB; have HO343 := n0_; have BK321 := n1_; have HB := n2_; clear n0_ n1_ n2_; (try clear hb); obtain ⟨hcz73_0, hcz73_1, hfz73_0, hfz73_1⟩ := cl2 BK321)))
           go_ret
           exact ⟨eS, bw1 HB.out GE321.out⟩
          ·rw [if_neg c68] at H
           exact absurd H (by simp)
        ·rw [if_neg c44] at H
         have c44b0 : (t344 == 0) = false := beq_eq_false_iff_ne.mpr c44
         have c44b1 : (t344 != 0) = true := bne_iff_ne.mpr c44
         obtain rfl := Option.some.inj H
         obtain ⟨hcz74_0, hcz74_1, hfz74_0, hfz74_1⟩ := cl2 BK321
         go_wp2_with (first | (go_at_call 23; (with_reducible refine (ivl_Not.calls kj27 _ _ l0 a2_0 a2_1 t341 t344 _ ?side1 ?side2 A42.out).mono ?_); (case side1 => repeat (first | exact (Kd.C_below HR0.out HB.out) | (with_reducible refine Kd.C_alloc ?_ _) | (with_reducible refine Kd.C_drewN ?_ _) | (with_reducible refine Kd.C_drew ?_))); (case side2 => exact HC0.out); rintro e w75 ⟨v342, rfl, ho0, hb⟩; have HO343 := Ax (Kd.R_lower (Kd.R_newB ho0 (g := gb321) (o := .cells #[.int .i64 a2_0, .int .i64 a2_1] 36 (0, 0)) (bf0 BK321.out)) (below_size (bw1 HB.out GE321.out))); replace BK321 := Bx0 BK321 hb; replace HB := Bs1 HB hb GE321.out; (try clear hb); (try clear ho0); obtain ⟨Ao76, co76, eo76⟩ := Kd.R_slice HO343.out; subst eo76) | (go_at_call 14; (with_reducible refine (ivl_Long.calls kj27 _ _ t341 t345 t346 _ ?side1 ?side2 A43.out).mono ?_); (case side1 => repeat (first | exact (Kd.R_reads' HO343.out).2.2 | (with_reducible refine Kd.C_alloc ?_ _) | (with_reducible refine Kd.C_drewN ?_ _) | (with_reducible refine Kd.C_drew ?_))); (case side2 => exact (Kd.R_reads' HO343.out).2.1); rintro e w77 ⟨rfl, hb⟩; have n0_ := Ax (Kd.R_below (by (with_reducible repeat (first | apply Kd.R_alloc | apply Kd.R_drewN | apply Kd.R_drew)); exact HO343.out) hb); have n1_ := Bx0 BK321 hb; have n2_ := Bs1 HB hb GE321.out; clear HO343; clear BK321; clear HB; have HO343 := n0_; have BK321 := n1_; have HB := n2_; clear n0_ n1_ n2_; (try clear hb)))
         repeat (go_quiet (first | (go_at_call 23; (with_reducible refine (ivl_Not.calls kj27 _ _ l0 a2_0 a2_1 t341 t344 _ ?side1 ?side2 A42.out).mono ?_); (case side1 => repeat (first | exact (Kd.C_below HR0.out HB.out) | (with_reducible refine Kd.C_alloc ?_ _) | (with_reducible refine Kd.C_drewN ?_ _) | (with_reducible refine Kd.C_drew ?_))); (case side2 => exact HC0.out); rintro e w75 ⟨v342, rfl, ho0, hb⟩; have HO343 := Ax (Kd.R_lower (Kd.R_newB ho0 (g := gb321) (o := .cells #[.int .i64 a2_0, .int .i64 a2_1] 36 (0, 0)) (bf0 BK321.out)) (below_size (bw1 HB.out GE321.out))); replace BK321 := Bx0 BK321 hb; replace HB := Bs1 HB hb GE321.out; (try clear hb); (try clear ho0); obtain ⟨Ao76, co76, eo76⟩ := Kd.R_slice HO343.out; subst eo76) | (go_at_call 14; (with_reducible refine (ivl_Long.calls kj27 _ _ t341 t345 t346 _ ?side1 ?side2 A43.out).mono ?_); (case side1 => repeat (first | exact (Kd.R_reads' HO343.out).2.2 | (with_reducible refine Kd.C_alloc ?_ _) | (with_reducible refine Kd.C_drewN ?_ _) | (with_reducible refine Kd.C_drew ?_))); (case side2 => exact (Kd.R_reads' HO343.out).2.1); rintro e w77 ⟨rfl, hb⟩; have n0_ := Ax (Kd.R_below (by (with_reducible repeat (first | apply Kd.R_alloc | apply Kd.R_drewN | apply Kd.R_drew)); exact HO343.out) hb); have n1_ := Bx0 BK321 hb; have n2_ := Bs1 HB hb GE321.out; clear HO343; clear BK321; clear HB; have HO343 := n0_; have BK321 := n1_; have HB := n2_; clear n0_ n1_ n2_; (try clear hb))); try go_wp2_with (first | (go_at_call 23; (with_reducible refine (ivl_Not.calls kj27 _ _ l0 a2_0 a2_1 t341 t344 _ ?side1 ?side2 A42.out).mono ?_); (case side1 => repeat (first | exact (Kd.C_below HR0.out HB.out) | (with_reducible refine Kd.C_alloc ?_ _) | (with_reducible refine Kd.C_drewN ?_ _) | (with_reducible refine Kd.C_drew ?_))); (case side2 => exact HC0.out); rintro e w75 ⟨v342, rfl, ho0, hb⟩; have HO343 := Ax (Kd.R_lower (Kd.R_newB ho0 (g := gb321) (o := .cells #[.int .i64 a2_0, .int .i64 a2_1] 36 (0, 0)) (bf0 BK321.out)) (below_size (bw1 HB.out GE321.out))); replace BK321 := Bx0 BK321 hb; replace HB := Bs1 HB hb GE321.out; (try clear hb); (try clear ho0); obtain ⟨Ao76, co76, eo76⟩ := Kd.R_slice HO343.out; subst eo76) | (go_at_call 14; (with_reducible refine (ivl_Long.calls kj27 _ _ t341 t345 t346 _ ?side1 ?side2 A43.out).mono ?_); (case side1 => repeat (first | exact (Kd.R_reads' HO343.out).2.2 | (with_reducible refine Kd.C_alloc ?_ _) | (with_reducible refine Kd.C_drewN ?_ _) | (with_reducible refine Kd.C_drew ?_))); (case side2 => exact (Kd.R_reads' HO343.out).2.1); rintro e w77 ⟨rfl, hb⟩; have n0_ := Ax (Kd.R_below (by (with_reducible repeat (first | apply Kd.R_alloc | apply Kd.R_drewN | apply Kd.R_drew)); exact HO343.out) hb); have n1_ := Bx0 BK321 hb; have n2_ := Bs1 HB hb GE321.out; clear HO343; clear BK321; clear HB; have HO343 := n0_; have BK321 := n1_; have HB := n2_; clear n0_ n1_ n2_; (try clear hb))))
         go_ret
         exact ⟨eS, bw1 HB.out GE321.out⟩
 ·replace c5 := Bool.eq_false_iff.mpr c5
  subst c5
  have H1 : (none) = some r := by rw [if_neg (show ¬ (false = true) by decide)] at H; exact H
  clear H
  have H := H1
  clear H1
  exact absurd H (by simp)
def spoorlaw19_IvlTwice.f (k : Nat) (l0 : List (S36)) (a1_0 : Int) (a1_1 : Int) : Option (Bool) := (spoorlaw19_lives.f k).bind fun t350 => (if t350 = true then ((ivl_Not.f k l0 a1_0 a1_1).bind fun bt351 => ((ivl_Not.f k bt351.1 a1_0 a1_1).bind fun bt355 => ((ivl_And.f k l0 (([(⟨a1_0, a1_1⟩ : S36)] : List (S36)))).bind fun bt362 => ((ivl_Make.f k l0).bind fun bt366 => (if bt351.2 = 0 then (if bt355.2 = 0 then (if bt362.2 = 0 then ((spoorref19_Same.f k bt355.1 bt362.1).bind fun t370 => (if t370 = true then (if bt366.2 = 0 then ((spoorref19_Same.f k bt366.1 l0).bind fun t371 => (some t371)) else (none)) else (none))) else (none)) else (none)) else (some true)))))) else (none))
set_option maxHeartbeats 8000000 in
set_option maxRecDepth 100000 in
theorem spoorlaw19_IvlTwice.calls (k : Nat) (A0 : Option Addr) (c0 : Nat) (l0 : List (S36)) (a1_0 : Int) (a1_1 : Int) (r : Bool) (w : World) (hr0 : Kd.C k36 w A0 l0.length l0) (hc0 : l0.length ≤ c0) (h : spoorlaw19_IvlTwice.f k l0 a1_0 a1_1 = some r) :
  Calls Try.prog 7 #[.slice A0 l0.length c0, .agg #[.int .i64 a1_0, .int .i64 a1_1]] w fun e w' => e = .returned (.bool r) ∧ Below w.heap.size w w' := by
 have hu36 := Try.underlying36
 have HR0 := Ax hr0
 have HC0 := Ax hc0
 clear hr0 hc0
 have HB := Ax (Below.refl w.heap.size w)
 have H : ((spoorlaw19_lives.f k).bind fun t350 => (if t350 = true then ((ivl_Not.f k l0 a1_0 a1_1).bind fun bt351 => ((ivl_Not.f k bt351.1 a1_0 a1_1).bind fun bt355 => ((ivl_And.f k l0 (([(⟨a1_0, a1_1⟩ : S36)] : List (S36)))).bind fun bt362 => ((ivl_Make.f k l0).bind fun bt366 => (if bt351.2 = 0 then (if bt355.2 = 0 then (if bt362.2 = 0 then ((spoorref19_Same.f k bt355.1 bt362.1).bind fun t370 => (if t370 = true then (if bt366.2 = 0 then ((spoorref19_Same.f k bt366.1 l0).bind fun t371 => (some t371)) else (none)) else (none))) else (none)) else (none)) else (some true)))))) else (none))) = some r := h
 clear h
 replace H := Option.bind_eq_some_iff.mp H
 obtain ⟨t350, A30, H⟩ := H
 replace H : (if t350 = true then ((ivl_Not.f k l0 a1_0 a1_1).bind fun bt351 => ((ivl_Not.f k bt351.1 a1_0 a1_1).bind fun bt355 => ((ivl_And.f k l0 (([(⟨a1_0, a1_1⟩ : S36)] : List (S36)))).bind fun bt362 => ((ivl_Make.f k l0).bind fun bt366 => (if bt351.2 = 0 then (if bt355.2 = 0 then (if bt362.2 = 0 then ((spoorref19_Same.f k bt355.1 bt362.1).bind fun t370 => (if t370 = true then (if bt366.2 = 0 then ((spoorref19_Same.f k bt366.1 l0).bind fun t371 => (some t371)) else (none)) else (none))) else (none)) else (none)) else (some true)))))) else (none)) = some r := H
 have A3 := Ax A30
 clear A30
 by_cases c4 : t350 = true
 ·subst c4
  have H1 : ((ivl_Not.f k l0 a1_0 a1_1).bind fun bt351 => ((ivl_Not.f k bt351.1 a1_0 a1_1).bind fun bt355 => ((ivl_And.f k l0 (([(⟨a1_0, a1_1⟩ : S36)] : List (S36)))).bind fun bt362 => ((ivl_Make.f k l0).bind fun bt366 => (if bt351.2 = 0 then (if bt355.2 = 0 then (if bt362.2 = 0 then ((spoorref19_Same.f k bt355.1 bt362.1).bind fun t370 => (if t370 = true then (if bt366.2 = 0 then ((spoorref19_Same.f k bt366.1 l0).bind fun t371 => (some t371)) else (none)) else (none))) else (none)) else (none)) else (some true)))))) = some r := by rw [if_pos rfl] at H; exact H
  clear H
  have H := H1
  clear H1
  replace H := Option.bind_eq_some_iff.mp H
  obtain ⟨⟨t351, t354⟩, A50, H⟩ := H
  replace H : ((ivl_Not.f k t351 a1_0 a1_1).bind fun bt355 => ((ivl_And.f k l0 (([(⟨a1_0, a1_1⟩ : S36)] : List (S36)))).bind fun bt362 => ((ivl_Make.f k l0).bind fun bt366 => (if t354 = 0 then (if bt355.2 = 0 then (if bt362.2 = 0 then ((spoorref19_Same.f k bt355.1 bt362.1).bind fun t370 => (if t370 = true then (if bt366.2 = 0 then ((spoorref19_Same.f k bt366.1 l0).bind fun t371 => (some t371)) else (none)) else (none))) else (none)) else (none)) else (some true))))) = some r := H
  have A5 := Ax A50
  clear A50
  replace H := Option.bind_eq_some_iff.mp H
  obtain ⟨⟨t355, t358⟩, A60, H⟩ := H
  replace H : ((ivl_And.f k l0 (([(⟨a1_0, a1_1⟩ : S36)] : List (S36)))).bind fun bt362 => ((ivl_Make.f k l0).bind fun bt366 => (if t354 = 0 then (if t358 = 0 then (if bt362.2 = 0 then ((spoorref19_Same.f k t355 bt362.1).bind fun t370 => (if t370 = true then (if bt366.2 = 0 then ((spoorref19_Same.f k bt366.1 l0).bind fun t371 => (some t371)) else (none)) else (none))) else (none)) else (none)) else (some true)))) = some r := H
  have A6 := Ax A60
  clear A60
  obtain ⟨y359, hy359⟩ : ∃ y_ : List (S36), y_ = (([(⟨a1_0, a1_1⟩ : S36)] : List (S36))) := ⟨_, rfl⟩
  replace H : ((ivl_And.f k l0 y359).bind fun bt362 => ((ivl_Make.f k l0).bind fun bt366 => (if t354 = 0 then (if t358 = 0 then (if bt362.2 = 0 then ((spoorref19_Same.f k t355 bt362.1).bind fun t370 => (if t370 = true then (if bt366.2 = 0 then ((spoorref19_Same.f k bt366.1 l0).bind fun t371 => (some t371)) else (none)) else (none))) else (none)) else (none)) else (some true)))) = some r := by first | (rw [hy359]; with_reducible exact H) | (have H2_ := (Option.bind_some _ _).symm.trans H; rw [hy359]; with_reducible exact H2_) | (have H2_ := (Option.bind_some _ _).symm.trans H; with_reducible exact H2_) | with_reducible exact H | (rw [hy359]; exact H) | exact H
  have Ny359 := Ax hy359
  clear hy359
  replace H := Option.bind_eq_some_iff.mp H
  obtain ⟨⟨t362, t363⟩, A70, H⟩ := H
  replace H : ((ivl_Make.f k l0).bind fun bt366 => (if t354 = 0 then (if t358 = 0 then (if t363 = 0 then ((spoorref19_Same.f k t355 t362).bind fun t370 => (if t370 = true then (if bt366.2 = 0 then ((spoorref19_Same.f k bt366.1 l0).bind fun t371 => (some t371)) else (none)) else (none))) else (none)) else (none)) else (some true))) = some r := H
  have A7 := Ax A70
  clear A70
  replace H := Option.bind_eq_some_iff.mp H
  obtain ⟨⟨t366, t367⟩, A80, H⟩ := H
  replace H : (if t354 = 0 then (if t358 = 0 then (if t363 = 0 then ((spoorref19_Same.f k t355 t362).bind fun t370 => (if t370 = true then (if t367 = 0 then ((spoorref19_Same.f k t366 l0).bind fun t371 => (some t371)) else (none)) else (none))) else (none)) else (none)) else (some true)) = some r := H
  have A8 := Ax A80
  clear A80
  by_cases c9 : t354 = 0
  ·rw [if_pos c9] at H
   have c9b0 : (t354 == 0) = true := beq_iff_eq.mpr c9
   have c9b1 : (t354 != 0) = false := bne_eq_false_iff_eq.mpr c9
   clear c9
   by_cases c10 : t358 = 0
   ·rw [if_pos c10] at H
    have c10b0 : (t358 == 0) = true := beq_iff_eq.mpr c10
    have c10b1 : (t358 != 0) = false := bne_eq_false_iff_eq.mpr c10
    clear c10
    by_cases c11 : t363 = 0
    ·rw [if_pos c11] at H
     have c11b0 : (t363 == 0) = true := beq_iff_eq.mpr c11
     have c11b1 : (t363 != 0) = false := bne_eq_false_iff_eq.mpr c11
     clear c11
     replace H := Option.bind_eq_some_iff.mp H
     obtain ⟨t370, A120, H⟩ := H
     replace H : (if t370 = true then (if t367 = 0 then ((spoorref19_Same.f k t366 l0).bind fun t371 => (some t371)) else (none)) else (none)) = some r := H
     have A12 := Ax A120
     clear A120
     by_cases c13 : t370 = true
     ·subst c13
      have H1 : (if t367 = 0 then ((spoorref19_Same.f k t366 l0).bind fun t371 => (some t371)) else (none)) = some r := by rw [if_pos rfl] at H; exact H
      clear H
      have H := H1
      clear H1
      by_cases c14 : t367 = 0
      ·rw [if_pos c14] at H
       have c14b0 : (t367 == 0) = true := beq_iff_eq.mpr c14
       have c14b1 : (t367 != 0) = false := bne_eq_false_iff_eq.mpr c14
       clear c14
       replace H := Option.bind_eq_some_iff.mp H
       obtain ⟨t371, A150, H⟩ := H
       replace H : (some t371) = some r := H
       have A15 := Ax A150
       clear A150
       obtain rfl := Option.some.inj H
       go_enter Try.func7, Try.ntmps7
       go_wp2_with (first | ((with_reducible refine gate_dst (N := 3) rfl ?_); refine box_event ?hg (N := 3) ?hd (cs := #[.int .i64 a1_0, .int .i64 a1_1]) (t := 36) ?hr ?_; (case hd => rfl); (case hg => rfl); (case hr => first | (go_simp; done) | (go_simp; rfl)); intro gb349 hg w16 hbox hb; have n0_ := Bs0 HB hb; have n1_ := Ax (hbox); have n2_ := Gw0 HB hg; have n3_ := Gw0 HB hg; clear HB; have HB := n0_; have BK349 := n1_; have GW349 := n2_; have GE349 := n3_; clear n0_ n1_ n2_ n3_; clear hb hbox hg) | ((with_reducible refine gate_callee (f := 9) rfl ?_); refine goesL_ (some 13) rfl rfl Try.func9 (by kernel_rfl) rfl #[] rfl gS ?_; (with_reducible refine (spoorlaw19_lives.calls k  true _ A3.out).mono ?_); rintro e w17 ⟨rfl, hb⟩; refine ⟨_, rfl, ?_⟩; replace BK349 := Bx0 BK349 hb; replace HB := Bs1 HB hb GE349.out; (try clear hb); obtain ⟨hcz18_0, hcz18_1, hfz18_0, hfz18_1⟩ := cl2 BK349) | ((with_reducible refine gate_callee (f := 23) rfl ?_); refine goesL_ (some 18) rfl rfl Try.func23 (by kernel_rfl) rfl #[.slice A0 l0.length c0, .agg #[.int .i64 a1_0, .int .i64 a1_1]] rfl gS ?_; (with_reducible refine (ivl_Not.calls k _ _ l0 a1_0 a1_1 t351 t354 _ ?side1 ?side2 A5.out).mono ?_); (case side1 => repeat (first | exact (Kd.C_below HR0.out HB.out) | (with_reducible refine Kd.C_alloc ?_ _) | (with_reducible refine Kd.C_drewN ?_ _) | (with_reducible refine Kd.C_drew ?_))); (case side2 => exact HC0.out); rintro e w19 ⟨v352, rfl, ho0, hb⟩; refine ⟨_, rfl, ?_⟩; have HO353 := Ax (Kd.R_lower (Kd.R_newB ho0 (g := gb349) (o := .cells #[.int .i64 a1_0, .int .i64 a1_1] 36 (0, 0)) (bf0 BK349.out)) (below_size (bw1 HB.out GE349.out))); replace BK349 := Bx0 BK349 hb; replace HB := Bs1 HB hb GE349.out; (try clear hb); (try clear ho0); obtain ⟨hcz20_0, hcz20_1, hfz20_0, hfz20_1⟩ := cl2 BK349; obtain ⟨Ao21, co21, eo21⟩ := Kd.R_slice HO353.out; subst eo21) | ((with_reducible refine gate_callee (f := 23) rfl ?_); refine goesL_ (some 24) rfl rfl Try.func23 (by kernel_rfl) rfl #[.slice Ao21 t351.length co21, .agg #[.int .i64 a1_0, .int .i64 a1_1]] rfl gS ?_; (with_reducible refine (ivl_Not.calls k _ _ t351 a1_0 a1_1 t355 t358 _ ?side1 ?side2 A6.out).mono ?_); (case side1 => repeat (first | exact (Kd.R_reads' HO353.out).2.2 | (with_reducible refine Kd.C_alloc ?_ _) | (with_reducible refine Kd.C_drewN ?_ _) | (with_reducible refine Kd.C_drew ?_))); (case side2 => exact (Kd.R_reads' HO353.out).2.1); rintro e w22 ⟨v356, rfl, ho0, hb⟩; refine ⟨_, rfl, ?_⟩; have n0_ := Ax (Kd.R_elder' (by (with_reducible repeat (first | apply Kd.R_alloc | apply Kd.R_drewN | apply Kd.R_drew)); exact HO353.out) (Kd.R_base ho0) hb); have n1_ := Ax (Kd.R_lower (Kd.R_newB (Kd.R_new' ho0 (Kd.R_lt (by (with_reducible repeat (first | apply Kd.R_alloc | apply Kd.R_drewN | apply Kd.R_drew)); exact HO353.out))) (g := gb349) (o := .cells #[.int .i64 a1_0, .int .i64 a1_1] 36 (0, 0)) (bf0 BK349.out)) (below_size (bw1 HB.out GE349.out))); have n2_ := Bx0 BK349 hb; have n3_ := Bs1 HB hb GE349.out; clear HO353; clear BK349; clear HB; have HO353 := n0_; have HO357 := n1_; have BK349 := n2_; have HB := n3_; clear n0_ n1_ n2_ n3_; (try clear hb); (try clear ho0); obtain ⟨hcz23_0, hcz23_1, hfz23_0, hfz23_1⟩ := cl2 BK349) | ((with_reducible refine gate_dst (N := 30) rfl ?_); refine Kd.R_lit k36 _ 36 ?hg (N := 30) ?hd (xs := ([(⟨a1_0, a1_1⟩ : S36)] : List (S36))) (inner := [.int .i64 a1_0, .int .i64 a1_1]) (ok := fun _ => True) (okp := fun _ => True) ?hr ?hp (fun _ hk => hk) trivial (Below.refl _ _) (Nat.le_refl _) (by simp) ?_; (case hd => rfl); (case hg => rfl); (case hr => first | (go_simp; done) | (go_simp; rfl)); (case hp => exact (Reps.c2 (show Kd.M k36 _ _ _ (⟨a1_0, a1_1⟩ : S36) [.int .i64 a1_0, .int .i64 a1_1] from (k36_mkM _ _ _ (⟨a1_0, a1_1⟩ : S36) )) (Reps.none _ _))); intro v360 w24 ho25 hb hg_ hnew_; clear hg_ hnew_; (first | rw [← Ny359.out] at ho25 | (simp only [Int.reduceToNat] at ho25; rw [← Ny359.out] at ho25)); have n0_ := Ax (Kd.R_elder' (by (with_reducible repeat (first | apply Kd.R_alloc | apply Kd.R_drewN | apply Kd.R_drew)); exact HO353.out) (Kd.R_base ho25) hb); have n1_ := Ax (Kd.R_elder' (by (with_reducible repeat (first | apply Kd.R_alloc | apply Kd.R_drewN | apply Kd.R_drew)); exact HO357.out) (Kd.R_base ho25) hb); have n2_ := Ax (Kd.R_lower (Kd.R_newB (Kd.R_new' (Kd.R_new' ho25 (Kd.R_lt (by (with_reducible repeat (first | apply Kd.R_alloc | apply Kd.R_drewN | apply Kd.R_drew)); exact HO353.out))) (Kd.R_lt (by (with_reducible repeat (first | apply Kd.R_alloc | apply Kd.R_drewN | apply Kd.R_drew)); exact HO357.out))) (g := gb349) (o := .cells #[.int .i64 a1_0, .int .i64 a1_1] 36 (0, 0)) (bf0 BK349.out)) (below_size (bw1 HB.out GE349.out))); have n3_ := Bx0 BK349 hb; have n4_ := Bs1 HB hb GE349.out; clear HO353; clear HO357; clear BK349; clear HB; have HO353 := n0_; have HO357 := n1_; have HO361 := n2_; have BK349 := n3_; have HB := n4_; clear n0_ n1_ n2_ n3_ n4_; clear hb ho25; obtain ⟨Ao26, co26, eo26⟩ := Kd.R_slice HO361.out; subst eo26) | ((with_reducible refine gate_callee (f := 21) rfl ?_); refine goesL_ (some 31) rfl rfl Try.func21 (by kernel_rfl) rfl #[.slice A0 l0.length c0, .slice Ao26 y359.length co26] rfl gS ?_; (with_reducible refine (ivl_And.calls k _ _ l0 _ _ y359 t362 t363 _ ?side1 ?side2 ?side3 ?side4 A7.out).mono ?_); (case side1 => repeat (first | exact (Kd.C_below HR0.out HB.out) | (with_reducible refine Kd.C_alloc ?_ _) | (with_reducible refine Kd.C_drewN ?_ _) | (with_reducible refine Kd.C_drew ?_))); (case side2 => exact HC0.out); (case side3 => repeat (first | exact (Kd.R_reads' HO361.out).2.2 | (with_reducible refine Kd.C_alloc ?_ _) | (with_reducible refine Kd.C_drewN ?_ _) | (with_reducible refine Kd.C_drew ?_))); (case side4 => exact (Kd.R_reads' HO361.out).2.1); rintro e w27 ⟨v364, rfl, ho0, hb⟩; refine ⟨_, rfl, ?_⟩; have n0_ := Ax (Kd.R_elder' (by (with_reducible repeat (first | apply Kd.R_alloc | apply Kd.R_drewN | apply Kd.R_drew)); exact HO353.out) (Kd.R_base ho0) hb); have n1_ := Ax (Kd.R_elder' (by (with_reducible repeat (first | apply Kd.R_alloc | apply Kd.R_drewN | apply Kd.R_drew)); exact HO357.out) (Kd.R_base ho0) hb); have n2_ := Ax (Kd.R_elder' (by (with_reducible repeat (first | apply Kd.R_alloc | apply Kd.R_drewN | apply Kd.R_drew)); exact HO361.out) (Kd.R_base ho0) hb); have n3_ := Ax (Kd.R_lower (Kd.R_newB (Kd.R_new' (Kd.R_new' (Kd.R_new' ho0 (Kd.R_lt (by (with_reducible repeat (first | apply Kd.R_alloc | apply Kd.R_drewN | apply Kd.R_drew)); exact HO353.out))) (Kd.R_lt (by (with_reducible repeat (first | apply Kd.R_alloc | apply Kd.R_drewN | apply Kd.R_drew)); exact HO357.out))) (Kd.R_lt (by (with_reducible repeat (first | apply Kd.R_alloc | apply Kd.R_drewN | apply Kd.R_drew)); exact HO361.out))) (g := gb349) (o := .cells #[.int .i64 a1_0, .int .i64 a1_1] 36 (0, 0)) (bf0 BK349.out)) (below_size (bw1 HB.out GE349.out))); have n4_ := Bx0 BK349 hb; have n5_ := Bs1 HB hb GE349.out; clear HO353; clear HO357; clear HO361; clear BK349; clear HB; have HO353 := n0_; have HO357 := n1_; have HO361 := n2_; have HO365 := n3_; have BK349 := n4_; have HB := n5_; clear n0_ n1_ n2_ n3_ n4_ n5_; (try clear hb); (try clear ho0)) | ((with_reducible refine gate_callee (f := 10) rfl ?_); refine goesL_ (some 36) rfl rfl Try.func10 (by kernel_rfl) rfl #[.slice A0 l0.length c0] rfl gS ?_; (with_reducible refine (ivl_Make.calls k _ _ l0 t366 t367 _ ?side1 ?side2 A8.out).mono ?_); (case side1 => repeat (first | exact (Kd.C_below HR0.out HB.out) | (with_reducible refine Kd.C_alloc ?_ _) | (with_reducible refine Kd.C_drewN ?_ _) | (with_reducible refine Kd.C_drew ?_))); (case side2 => exact HC0.out); rintro e w28 ⟨v368, rfl, ho0, hb⟩; refine ⟨_, rfl, ?_⟩; have n0_ := Ax (Kd.R_elder' (by (with_reducible repeat (first | apply Kd.R_alloc | apply Kd.R_drewN | apply Kd.R_drew)); exact HO353.out) (Kd.R_base ho0) hb); have n1_ := Ax (Kd.R_elder' (by (with_reducible repeat (first | apply Kd.R_alloc | apply Kd.R_drewN | apply Kd.R_drew)); exact HO357.out) (Kd.R_base ho0) hb); have n2_ := Ax (Kd.R_elder' (by (with_reducible repeat (first | apply Kd.R_alloc | apply Kd.R_drewN | apply Kd.R_drew)); exact HO361.out) (Kd.R_base ho0) hb); have n3_ := Ax (Kd.R_elder' (by (with_reducible repeat (first | apply Kd.R_alloc | apply Kd.R_drewN | apply Kd.R_drew)); exact HO365.out) (Kd.R_base ho0) hb); have n4_ := Ax (Kd.R_lower (Kd.R_newB (Kd.R_new' (Kd.R_new' (Kd.R_new' (Kd.R_new' ho0 (Kd.R_lt (by (with_reducible repeat (first | apply Kd.R_alloc | apply Kd.R_drewN | apply Kd.R_drew)); exact HO353.out))) (Kd.R_lt (by (with_reducible repeat (first | apply Kd.R_alloc | apply Kd.R_drewN | apply Kd.R_drew)); exact HO357.out))) (Kd.R_lt (by (with_reducible repeat (first | apply Kd.R_alloc | apply Kd.R_drewN | apply Kd.R_drew)); exact HO361.out))) (Kd.R_lt (by (with_reducible repeat (first | apply Kd.R_alloc | apply Kd.R_drewN | apply Kd.R_drew)); exact HO365.out))) (g := gb349) (o := .cells #[.int .i64 a1_0, .int .i64 a1_1] 36 (0, 0)) (bf0 BK349.out)) (below_size (bw1 HB.out GE349.out))); have n5_ := Bx0 BK349 hb; have n6_ := Bs1 HB hb GE349.out; clear HO353; clear HO357; clear HO361; clear HO365; clear BK349; clear HB; have HO353 := n0_; have HO357 := n1_; have HO361 := n2_; have HO365 := n3_; have HO369 := n4_; have BK349 := n5_; have HB := n6_; clear n0_ n1_ n2_ n3_ n4_ n5_ n6_; (try clear hb); (try clear ho0); obtain ⟨Ao29, co29, eo29⟩ := Kd.R_slice HO357.out; subst eo29; obtain ⟨Ao30, co30, eo30⟩ := Kd.R_slice HO365.out; subst eo30) | (go_at_call 16; (with_reducible refine (spoorref19_Same.calls k _ _ t355 _ _ t362 true _ ?side1 ?side2 ?side3 ?side4 A12.out).mono ?_); (case side1 => repeat (first | exact (Kd.R_reads' HO357.out).2.2 | (with_reducible refine Kd.C_alloc ?_ _) | (with_reducible refine Kd.C_drewN ?_ _) | (with_reducible refine Kd.C_drew ?_))); (case side2 => exact (Kd.R_reads' HO357.out).2.1); (case side3 => repeat (first | exact (Kd.R_reads' HO365.out).2.2 | (with_reducible refine Kd.C_alloc ?_ _) | (with_reducible refine Kd.C_drewN ?_ _) | (with_reducible refine Kd.C_drew ?_))); (case side4 => exact (Kd.R_reads' HO365.out).2.1); rintro e w' ⟨rfl, ⟨nd, rfl⟩⟩; obtain ⟨Ao31, co31, eo31⟩ := Kd.R_slice HO369.out; subst eo31) | (go_at_call 16; (with_reducible refine (spoorref19_Same.calls k _ _ t366 _ _ l0 t371 _ ?side1 ?side2 ?side3 ?side4 A15.out).mono ?_); (case side1 => repeat (first | exact (Kd.R_reads' HO369.out).2.2 | (with_reducible refine Kd.C_alloc ?_ _) | (with_reducible refine Kd.C_drewN ?_ _) | (with_reducible refine Kd.C_drew ?_))); (case side2 => exact (Kd.R_reads' HO369.out).2.1); (case side3 => repeat (first | exact (Kd.C_below HR0.out (bw1 HB.out GE349.out)) | (with_reducible refine Kd.C_alloc ?_ _) | (with_reducible refine Kd.C_drewN ?_ _) | (with_reducible refine Kd.C_drew ?_))); (case side4 => exact HC0.out); rintro e w' ⟨rfl, ⟨nd, rfl⟩⟩))
       go_ret
       exact ⟨eS, bw1 HB.out GE349.out⟩
      ·rw [if_neg c14] at H
       exact absurd H (by simp)
     ·replace c13 := Bool.eq_false_iff.mpr c13
      subst c13
      have H1 : (none) = some r := by rw [if_neg (show ¬ (false = true) by decide)] at H; exact H
      clear H
      have H := H1
      clear H1
      exact absurd H (by simp)
    ·rw [if_neg c11] at H
     exact absurd H (by simp)
   ·rw [if_neg c10] at H
    exact absurd H (by simp)
  ·rw [if_neg c9] at H
   have c9b0 : (t354 == 0) = false := beq_eq_false_iff_ne.mpr c9
   have c9b1 : (t354 != 0) = true := bne_iff_ne.mpr c9
   obtain rfl := Option.some.inj H
   go_enter Try.func7, Try.ntmps7
   go_wp2_with (first | ((with_reducible refine gate_dst (N := 3) rfl ?_); refine box_event ?hg (N := 3) ?hd (cs := #[.int .i64 a1_0, .int .i64 a1_1]) (t := 36) ?hr ?_; (case hd => rfl); (case hg => rfl); (case hr => first | (go_simp; done) | (go_simp; rfl)); intro gb349 hg w32 hbox hb; have n0_ := Bs0 HB hb; have n1_ := Ax (hbox); have n2_ := Gw0 HB hg; have n3_ := Gw0 HB hg; clear HB; have HB := n0_; have BK349 := n1_; have GW349 := n2_; have GE349 := n3_; clear n0_ n1_ n2_ n3_; clear hb hbox hg) | ((with_reducible refine gate_callee (f := 9) rfl ?_); refine goesL_ (some 13) rfl rfl Try.func9 (by kernel_rfl) rfl #[] rfl gS ?_; (with_reducible refine (spoorlaw19_lives.calls k  true _ A3.out).mono ?_); rintro e w33 ⟨rfl, hb⟩; refine ⟨_, rfl, ?_⟩; replace BK349 := Bx0 BK349 hb; replace HB := Bs1 HB hb GE349.out; (try clear hb); obtain ⟨hcz34_0, hcz34_1, hfz34_0, hfz34_1⟩ := cl2 BK349) | ((with_reducible refine gate_callee (f := 23) rfl ?_); refine goesL_ (some 18) rfl rfl Try.func23 (by kernel_rfl) rfl #[.slice A0 l0.length c0, .agg #[.int .i64 a1_0, .int .i64 a1_1]] rfl gS ?_; (with_reducible refine (ivl_Not.calls k _ _ l0 a1_0 a1_1 t351 t354 _ ?side1 ?side2 A5.out).mono ?_); (case side1 => repeat (first | exact (Kd.C_below HR0.out HB.out) | (with_reducible refine Kd.C_alloc ?_ _) | (with_reducible refine Kd.C_drewN ?_ _) | (with_reducible refine Kd.C_drew ?_))); (case side2 => exact HC0.out); rintro e w35 ⟨v352, rfl, ho0, hb⟩; refine ⟨_, rfl, ?_⟩; have HO353 := Ax (Kd.R_lower (Kd.R_newB ho0 (g := gb349) (o := .cells #[.int .i64 a1_0, .int .i64 a1_1] 36 (0, 0)) (bf0 BK349.out)) (below_size (bw1 HB.out GE349.out))); replace BK349 := Bx0 BK349 hb; replace HB := Bs1 HB hb GE349.out; (try clear hb); (try clear ho0); obtain ⟨hcz36_0, hcz36_1, hfz36_0, hfz36_1⟩ := cl2 BK349; obtain ⟨Ao37, co37, eo37⟩ := Kd.R_slice HO353.out; subst eo37) | ((with_reducible refine gate_callee (f := 23) rfl ?_); refine goesL_ (some 24) rfl rfl Try.func23 (by kernel_rfl) rfl #[.slice Ao37 t351.length co37, .agg #[.int .i64 a1_0, .int .i64 a1_1]] rfl gS ?_; (with_reducible refine (ivl_Not.calls k _ _ t351 a1_0 a1_1 t355 t358 _ ?side1 ?side2 A6.out).mono ?_); (case side1 => repeat (first | exact (Kd.R_reads' HO353.out).2.2 | (with_reducible refine Kd.C_alloc ?_ _) | (with_reducible refine Kd.C_drewN ?_ _) | (with_reducible refine Kd.C_drew ?_))); (case side2 => exact (Kd.R_reads' HO353.out).2.1); rintro e w38 ⟨v356, rfl, ho0, hb⟩; refine ⟨_, rfl, ?_⟩; have n0_ := Ax (Kd.R_elder' (by (with_reducible repeat (first | apply Kd.R_alloc | apply Kd.R_drewN | apply Kd.R_drew)); exact HO353.out) (Kd.R_base ho0) hb); have n1_ := Ax (Kd.R_lower (Kd.R_newB (Kd.R_new' ho0 (Kd.R_lt (by (with_reducible repeat (first | apply Kd.R_alloc | apply Kd.R_drewN | apply Kd.R_drew)); exact HO353.out))) (g := gb349) (o := .cells #[.int .i64 a1_0, .int .i64 a1_1] 36 (0, 0)) (bf0 BK349.out)) (below_size (bw1 HB.out GE349.out))); have n2_ := Bx0 BK349 hb; have n3_ := Bs1 HB hb GE349.out; clear HO353; clear BK349; clear HB; have HO353 := n0_; have HO357 := n1_; have BK349 := n2_; have HB := n3_; clear n0_ n1_ n2_ n3_; (try clear hb); (try clear ho0); obtain ⟨hcz39_0, hcz39_1, hfz39_0, hfz39_1⟩ := cl2 BK349) | ((with_reducible refine gate_dst (N := 30) rfl ?_); refine Kd.R_lit k36 _ 36 ?hg (N := 30) ?hd (xs := ([(⟨a1_0, a1_1⟩ : S36)] : List (S36))) (inner := [.int .i64 a1_0, .int .i64 a1_1]) (ok := fun _ => True) (okp := fun _ => True) ?hr ?hp (fun _ hk => hk) trivial (Below.refl _ _) (Nat.le_refl _) (by simp) ?_; (case hd => rfl); (case hg => rfl); (case hr => first | (go_simp; done) | (go_simp; rfl)); (case hp => exact (Reps.c2 (show Kd.M k36 _ _ _ (⟨a1_0, a1_1⟩ : S36) [.int .i64 a1_0, .int .i64 a1_1] from (k36_mkM _ _ _ (⟨a1_0, a1_1⟩ : S36) )) (Reps.none _ _))); intro v360 w40 ho41 hb hg_ hnew_; clear hg_ hnew_; (first | rw [← Ny359.out] at ho41 | (simp only [Int.reduceToNat] at ho41; rw [← Ny359.out] at ho41)); have n0_ := Ax (Kd.R_elder' (by (with_reducible repeat (first | apply Kd.R_alloc | apply Kd.R_drewN | apply Kd.R_drew)); exact HO353.out) (Kd.R_base ho41) hb); have n1_ := Ax (Kd.R_elder' (by (with_reducible repeat (first | apply Kd.R_alloc | apply Kd.R_drewN | apply Kd.R_drew)); exact HO357.out) (Kd.R_base ho41) hb); have n2_ := Ax (Kd.R_lower (Kd.R_newB (Kd.R_new' (Kd.R_new' ho41 (Kd.R_lt (by (with_reducible repeat (first | apply Kd.R_alloc | apply Kd.R_drewN | apply Kd.R_drew)); exact HO353.out))) (Kd.R_lt (by (with_reducible repeat (first | apply Kd.R_alloc | apply Kd.R_drewN | apply Kd.R_drew)); exact HO357.out))) (g := gb349) (o := .cells #[.int .i64 a1_0, .int .i64 a1_1] 36 (0, 0)) (bf0 BK349.out)) (below_size (bw1 HB.out GE349.out))); have n3_ := Bx0 BK349 hb; have n4_ := Bs1 HB hb GE349.out; clear HO353; clear HO357; clear BK349; clear HB; have HO353 := n0_; have HO357 := n1_; have HO361 := n2_; have BK349 := n3_; have HB := n4_; clear n0_ n1_ n2_ n3_ n4_; clear hb ho41; obtain ⟨Ao42, co42, eo42⟩ := Kd.R_slice HO361.out; subst eo42) | ((with_reducible refine gate_callee (f := 21) rfl ?_); refine goesL_ (some 31) rfl rfl Try.func21 (by kernel_rfl) rfl #[.slice A0 l0.length c0, .slice Ao42 y359.length co42] rfl gS ?_; (with_reducible refine (ivl_And.calls k _ _ l0 _ _ y359 t362 t363 _ ?side1 ?side2 ?side3 ?side4 A7.out).mono ?_); (case side1 => repeat (first | exact (Kd.C_below HR0.out HB.out) | (with_reducible refine Kd.C_alloc ?_ _) | (with_reducible refine Kd.C_drewN ?_ _) | (with_reducible refine Kd.C_drew ?_))); (case side2 => exact HC0.out); (case side3 => repeat (first | exact (Kd.R_reads' HO361.out).2.2 | (with_reducible refine Kd.C_alloc ?_ _) | (with_reducible refine Kd.C_drewN ?_ _) | (with_reducible refine Kd.C_drew ?_))); (case side4 => exact (Kd.R_reads' HO361.out).2.1); rintro e w43 ⟨v364, rfl, ho0, hb⟩; refine ⟨_, rfl, ?_⟩; have n0_ := Ax (Kd.R_elder' (by (with_reducible repeat (first | apply Kd.R_alloc | apply Kd.R_drewN | apply Kd.R_drew)); exact HO353.out) (Kd.R_base ho0) hb); have n1_ := Ax (Kd.R_elder' (by (with_reducible repeat (first | apply Kd.R_alloc | apply Kd.R_drewN | apply Kd.R_drew)); exact HO357.out) (Kd.R_base ho0) hb); have n2_ := Ax (Kd.R_elder' (by (with_reducible repeat (first | apply Kd.R_alloc | apply Kd.R_drewN | apply Kd.R_drew)); exact HO361.out) (Kd.R_base ho0) hb); have n3_ := Ax (Kd.R_lower (Kd.R_newB (Kd.R_new' (Kd.R_new' (Kd.R_new' ho0 (Kd.R_lt (by (with_reducible repeat (first | apply Kd.R_alloc | apply Kd.R_drewN | apply Kd.R_drew)); exact HO353.out))) (Kd.R_lt (by (with_reducible repeat (first | apply Kd.R_alloc | apply Kd.R_drewN | apply Kd.R_drew)); exact HO357.out))) (Kd.R_lt (by (with_reducible repeat (first | apply Kd.R_alloc | apply Kd.R_drewN | apply Kd.R_drew)); exact HO361.out))) (g := gb349) (o := .cells #[.int .i64 a1_0, .int .i64 a1_1] 36 (0, 0)) (bf0 BK349.out)) (below_size (bw1 HB.out GE349.out))); have n4_ := Bx0 BK349 hb; have n5_ := Bs1 HB hb GE349.out; clear HO353; clear HO357; clear HO361; clear BK349; clear HB; have HO353 := n0_; have HO357 := n1_; have HO361 := n2_; have HO365 := n3_; have BK349 := n4_; have HB := n5_; clear n0_ n1_ n2_ n3_ n4_ n5_; (try clear hb); (try clear ho0)) | ((with_reducible refine gate_callee (f := 10) rfl ?_); refine goesL_ (some 36) rfl rfl Try.func10 (by kernel_rfl) rfl #[.slice A0 l0.length c0] rfl gS ?_; (with_reducible refine (ivl_Make.calls k _ _ l0 t366 t367 _ ?side1 ?side2 A8.out).mono ?_); (case side1 => repeat (first | exact (Kd.C_below HR0.out HB.out) | (with_reducible refine Kd.C_alloc ?_ _) | (with_reducible refine Kd.C_drewN ?_ _) | (with_reducible refine Kd.C_drew ?_))); (case side2 => exact HC0.out); rintro e w44 ⟨v368, rfl, ho0, hb⟩; refine ⟨_, rfl, ?_⟩; have n0_ := Ax (Kd.R_elder' (by (with_reducible repeat (first | apply Kd.R_alloc | apply Kd.R_drewN | apply Kd.R_drew)); exact HO353.out) (Kd.R_base ho0) hb); have n1_ := Ax (Kd.R_elder' (by (with_reducible repeat (first | apply Kd.R_alloc | apply Kd.R_drewN | apply Kd.R_drew)); exact HO357.out) (Kd.R_base ho0) hb); have n2_ := Ax (Kd.R_elder' (by (with_reducible repeat (first | apply Kd.R_alloc | apply Kd.R_drewN | apply Kd.R_drew)); exact HO361.out) (Kd.R_base ho0) hb); have n3_ := Ax (Kd.R_elder' (by (with_reducible repeat (first | apply Kd.R_alloc | apply Kd.R_drewN | apply Kd.R_drew)); exact HO365.out) (Kd.R_base ho0) hb); have n4_ := Ax (Kd.R_lower (Kd.R_newB (Kd.R_new' (Kd.R_new' (Kd.R_new' (Kd.R_new' ho0 (Kd.R_lt (by (with_reducible repeat (first | apply Kd.R_alloc | apply Kd.R_drewN | apply Kd.R_drew)); exact HO353.out))) (Kd.R_lt (by (with_reducible repeat (first | apply Kd.R_alloc | apply Kd.R_drewN | apply Kd.R_drew)); exact HO357.out))) (Kd.R_lt (by (with_reducible repeat (first | apply Kd.R_alloc | apply Kd.R_drewN | apply Kd.R_drew)); exact HO361.out))) (Kd.R_lt (by (with_reducible repeat (first | apply Kd.R_alloc | apply Kd.R_drewN | apply Kd.R_drew)); exact HO365.out))) (g := gb349) (o := .cells #[.int .i64 a1_0, .int .i64 a1_1] 36 (0, 0)) (bf0 BK349.out)) (below_size (bw1 HB.out GE349.out))); have n5_ := Bx0 BK349 hb; have n6_ := Bs1 HB hb GE349.out; clear HO353; clear HO357; clear HO361; clear HO365; clear BK349; clear HB; have HO353 := n0_; have HO357 := n1_; have HO361 := n2_; have HO365 := n3_; have HO369 := n4_; have BK349 := n5_; have HB := n6_; clear n0_ n1_ n2_ n3_ n4_ n5_ n6_; (try clear hb); (try clear ho0)))
   go_ret
   exact ⟨eS, bw1 HB.out GE349.out⟩
 ·replace c4 := Bool.eq_false_iff.mpr c4
  subst c4
  have H1 : (none) = some r := by rw [if_neg (show ¬ (false = true) by decide)] at H; exact H
  clear H
  have H := H1
  clear H1
  exact absurd H (by simp)
end Go.Proofs.Ytkjjidanakmkeaa.Q
end
section
namespace Go.Proofs.Ytkjjidanakmkeaa.Q
set_option linter.unusedVariables false
open Go.RowKit Go.Proofs.YtkjjidanakmkeaaW.PrintWords Go.Proofs.YtkjjidanakmkeaaW.PrintLast Go.Proofs.YtkjjidanakmkeaaW.PrintMore Go.Proofs.Ytkjjidanakmkeaa.Open
def spoorlaw19_IvlSets.Pure : Prop := ∀ (l0 : List (S36)) (l1 : List (S36)) (a2_0 : Int) (a2_1 : Int), (fun l => wfAll wf36 l ∧ l.length ≤ maxLen) l0 → (fun l => wfAll wf36 l ∧ l.length ≤ maxLen) l1 → wf36 (⟨a2_0, a2_1⟩ : S36) → l0.length * 16 ≤ 140737488351232 → l1.length * 16 ≤ 140737488351232 → ∃ k, spoorlaw19_IvlSets.f k l0 l1 a2_0 a2_1 = some true
end Go.Proofs.Ytkjjidanakmkeaa.Q
end
section
namespace Go.Proofs.Ytkjjidanakmkeaa.Pure
set_option linter.unusedVariables false
open Go.RowKit Go.Proofs.Ytkjjidanakmkeaa.Q Go.Proofs.YtkjjidanakmkeaaW.PrintWords Go.Proofs.YtkjjidanakmkeaaW.PrintLast Go.Proofs.Ytkjjidanakmkeaa.Base Go.Proofs.Ytkjjidanakmkeaa.Ivl
theorem lives19_ev5 : Ev spoorlaw19_lives.f true := Ev.of spoorlaw19_lives.mono (k := 200) (by decide +kernel)
theorem IvlSets : spoorlaw19_IvlSets.Pure := by
  intro l m x0 x1 h0 h1 h2 hB hC
  clear h0 h1 h2 hB hC
  refine Ev.rounds (g := fun k => spoorlaw19_IvlSets.f k l m x0 x1) (r := true) ?_
  simp only [spoorlaw19_IvlSets.f]
  refine Ev.bind (a := !(bigF l || bigF m)) (Ev.const rfl) ?_
  cases (bigF l || bigF m)
  case true => exact Ev.neg (by decide) (Ev.bind lives19_ev5 (Ev.const rfl))
  refine Ev.pos rfl (Ev.bind (orV_ev l m) (Ev.bind (ror_ev l m) (Ev.bind (and_ev l m) (Ev.bind (rand_ev l m) (Ev.bind (not_ev l x0 x1) (Ev.bind (rnot_ev l x0 x1) (Ev.bind lives19_ev5 (Ev.pos rfl ?_))))))))
  exact Ev.bind (same19_ev _ (by have := orV_len l m; omega)) (Ev.pos rfl (Ev.pos rfl (Ev.bind (same19_ev _ (by have := andV_len l m; omega)) (Ev.pos rfl (Ev.pos rfl (Ev.bind (same19_ev _ (by have := notV_len l ⟨x0, x1⟩; omega)) (Ev.pos rfl (Ev.const (by simp)))))))))
end Go.Proofs.Ytkjjidanakmkeaa.Pure
end
section
namespace Go.Proofs.Ytkjjidanakmkeaa.ivlSets
open Go.ChangeShapes Go.WideShapes Go.ChangeAt Go.RowKit Go.Proofs.Ytkjjidanakmkeaa.Open Go.Proofs.Ytkjjidanakmkeaa.Q
open Go.ChangeMaps (open_string shut_string)
set_option linter.unusedVariables false
theorem own : ownKnob Try.prog.godebug = none := by kernel_rfl
theorem laidOut : laidOutB Try.prog = true := by kernel_rfl
set_option maxRecDepth 100000 in
theorem contract (H : Type) (enc : TypeId × Value → H) (W : World) (base : Nat) (args : Array Value) (ds gs : List (DataW H)) (before : List MemPlace)
    (hval : ∀ (j : Nat) t v, Try.f4.params[j]? = some t → args[j]? = some v → Value.okWide Try.prog W .any base t v)
    (hW : DataW.Whole enc Try.prog Try.f4.params.toList Rows.ivlSetsSpec.vars false W args.toList ds gs before) (hsz0 : (DataW.weightsEach Try.prog (Try.f4.params.toList ++ Rows.ivlSetsSpec.plain.varTypes Try.prog) (ds ++ gs)).all (· ≤ reachBytes) = true) :
    Calls Try.prog 4 args W fun e W' => ∃ v, e = .returned v ∧ Rows.ivlSetsSpec.post enc Try.prog Try.f4 false true false false W args v W' := by
  have hW' := hW
  obtain ⟨p, q, hA0, hV, rfl, hfz, hnd⟩ := hW
  have hA : DataW.TrodAll enc Try.prog W 0 (fun _ => true) true Try.f4.params.toList args.toList ds p := hA0
  have hsz : (DataW.weightsEach Try.prog (Try.f4.params.toList ++ Rows.ivlSetsSpec.plain.varTypes Try.prog) (ds ++ gs)).all (· ≤ reachBytes) = true := hsz0
  rw [Try.params4] at hA hval hsz
  obtain ⟨v0, vs0, d0, ds0, p0, q0, hargs, rfl, rfl, h0, r0⟩ := trodAll_cons hA
  obtain ⟨v1, vs1, d1, ds1, p1, q1, rfl, rfl, rfl, h1, r1⟩ := trodAll_cons r0
  obtain ⟨v2, vs2, d2, ds2, p2, q2, rfl, rfl, rfl, h2, r2⟩ := trodAll_cons r1
  obtain ⟨rfl, rfl, rfl⟩ := trodAll_nil r2
  obtain rfl : args = #[v0, v1, v2] := by cases args; simp_all
  obtain ⟨rfl, rfl⟩ := trodVars_none hV
  have k0 := h0
  have lt0 : ∀ x ∈ p0, x.block < W.heap.size := by obtain ⟨m, hm⟩ := k0; exact DataW.trod_lt m _ _ _ hm
  obtain ⟨fu0, hf0⟩ := h0
  obtain ⟨b0, K0, o0, u0⟩ := (opens_slice opn36 Try.underlying22 (by kernel_rfl) 36) enc W _ _ _ _ _ hf0
  obtain ⟨A0, c0, z0, lc0, C0⟩ := K0
  obtain rfl : v0 = .slice A0 b0.length c0 := by obtain ⟨x, y, z, rfl⟩ := okWide_slice Try.underlying22 (hval 0 22 v0 rfl rfl); exact (List.cons.inj (show [Value.slice x y z] = [Value.slice A0 b0.length c0] from z0)).1
  have k1 := h1
  have lt1 : ∀ x ∈ p1, x.block < W.heap.size := by obtain ⟨m, hm⟩ := k1; exact DataW.trod_lt m _ _ _ hm
  obtain ⟨fu1, hf1⟩ := h1
  obtain ⟨b1, K1, o1, u1⟩ := (opens_slice opn36 Try.underlying22 (by kernel_rfl) 36) enc W _ _ _ _ _ hf1
  obtain ⟨A1, c1, z1, lc1, C1⟩ := K1
  obtain rfl : v1 = .slice A1 b1.length c1 := by obtain ⟨x, y, z, rfl⟩ := okWide_slice Try.underlying22 (hval 1 22 v1 rfl rfl); exact (List.cons.inj (show [Value.slice x y z] = [Value.slice A1 b1.length c1] from z1)).1
  have k2 := h2
  have lt2 : ∀ x ∈ p2, x.block < W.heap.size := by obtain ⟨m, hm⟩ := k2; exact DataW.trod_lt m _ _ _ hm
  obtain ⟨fu2, hf2⟩ := h2
  obtain ⟨b2, K2, o2, u2⟩ := opn36 enc W _ _ _ _ _ hf2
  have z2 := k36_open K2
  obtain rfl : v2 = .agg #[.int .i64 b2.f0, .int .i64 b2.f1] := by obtain ⟨x, rfl, _⟩ := okWide_struct Try.underlying36 (hval 2 36 v2 rfl rfl); exact congrArg Value.agg (Array.toList_inj.mp (show x.toList = [.int .i64 b2.f0, .int .i64 b2.f1] from z2))
  have sz0 : b0.length * 16 ≤ 140737488351232 := sized_row hsz (j := 0) (t := 22) rfl rfl Try.underlying22 (by kernel_rfl) k0
  have sz1 : b1.length * 16 ≤ 140737488351232 := sized_row hsz (j := 1) (t := 22) rfl rfl Try.underlying22 (by kernel_rfl) k1
  obtain ⟨k, h⟩ := Pure.IvlSets b0 b1 b2.f0 b2.f1 o0 o1 o2 sz0 sz1
  refine (spoorlaw19_IvlSets.calls k A0 c0 b0 A1 c1 b1 b2.f0 b2.f1 true W C0 lc0 C1 lc1 h).mono fun e W' ⟨he, hd⟩ => ?_
  have bel := hd
  subst he
  exact ⟨_, rfl, _, _, _, [], _, [], hW', trodAll_mk1 (shut_bool Try.underlying4 _), (trodAll_cons_mk (Below.trod laidOut (by kernel_rfl) (of_decide_eq_true (by kernel_rfl)) k0 bel lt0) (trodAll_cons_mk (Below.trod laidOut (by kernel_rfl) (of_decide_eq_true (by kernel_rfl)) k1 bel lt1) (trodAll_cons_mk (Below.trod laidOut (by kernel_rfl) (of_decide_eq_true (by kernel_rfl)) k2 bel lt2) trodAll_mk0))), rfl, bel.frame _, fun h => by cases h⟩
set_option maxRecDepth 100000 in
theorem lifted (os : Os) (started : os.Started) (H : Type) (enc : TypeId × Value → H) :
    ReturnsInHanded {} Try.checked os 4 .any (Rows.ivlSetsSpec.pre6 enc Try.prog Try.f4 Rows.ivlSetsRow.domain false) (Rows.ivlSetsSpec.post enc Try.prog Try.f4 false true false false) := by
  refine returnsInHanded_of_change_sized (C := Try.checked) own started (by kernel_rfl) Try.func4
    (ChangeSpec.witness6 (enc := enc) (C := Try.checked) false ⟨#[], #[.slice none 0 0, .slice none 0 0, .agg #[.int .i64 0, .int .i64 0]], []⟩ 8 (by kernel_rfl) (by kernel_rfl) (by kernel_rfl) (by kernel_rfl)) ?_
  intro W base args ds gs before hval hW _ hsz _
  exact contract H enc W base args ds gs before hval hW hsz
theorem over : Rows.ivlSetsRow.holds Try.pinned (OpenSpec.ofChange Rows.ivlSetsSpec) :=
  OpenClaim.holds_of_wide 4 Try.f4 rfl rfl rfl rfl rfl rfl rfl ⟨rfl, rfl, rfl, rfl, rfl⟩ rfl rfl rfl rfl rfl (by kernel_rfl) Try.func4 (by kernel_rfl)
    (of_decide_eq_true (by kernel_rfl)) (by unfold Func.isWrapper; first | (rw [if_pos (by decide +kernel)]; kernel_rfl) | (rw [if_neg (by decide +kernel)]; exact ⟨rfl, rfl⟩))
    (fun os started H enc _ => lifted os started H enc)
theorem proved : Rows.IvlSetsSaid := over
#print axioms proved
end Go.Proofs.Ytkjjidanakmkeaa.ivlSets
namespace Go.Proofs.Ytkjjidanakmkeaa
theorem ivlSets_holds : Rows.IvlSetsSaid := ivlSets.proved
end Go.Proofs.Ytkjjidanakmkeaa
end
section
namespace Go.Proofs.Ytkjjidanakmkeaa.Q
set_option linter.unusedVariables false
open Go.RowKit Go.Proofs.YtkjjidanakmkeaaW.PrintWords Go.Proofs.YtkjjidanakmkeaaW.PrintLast Go.Proofs.YtkjjidanakmkeaaW.PrintMore Go.Proofs.Ytkjjidanakmkeaa.Open
def spoorlaw19_IvlHas.Pure : Prop := ∀ (l0 : List (S36)) (l1 : List (S36)) (a2_0 : Int) (a2_1 : Int) (a3 : Int), (fun l => wfAll wf36 l ∧ l.length ≤ maxLen) l0 → (fun l => wfAll wf36 l ∧ l.length ≤ maxLen) l1 → wf36 (⟨a2_0, a2_1⟩ : S36) → (wfInt .i64) a3 → l0.length * 16 ≤ 140737488351232 → l1.length * 16 ≤ 140737488351232 → ∃ k, spoorlaw19_IvlHas.f k l0 l1 a2_0 a2_1 a3 = some true
end Go.Proofs.Ytkjjidanakmkeaa.Q
end
section
namespace Go.Proofs.Ytkjjidanakmkeaa.Pure
set_option linter.unusedVariables false
open Go.RowKit Go.Proofs.Ytkjjidanakmkeaa.Q Go.Proofs.YtkjjidanakmkeaaW.PrintWords Go.Proofs.YtkjjidanakmkeaaW.PrintLast Go.Proofs.Ytkjjidanakmkeaa.Base Go.Proofs.Ytkjjidanakmkeaa.Ivl
theorem lives19_ev2 : Ev spoorlaw19_lives.f true := Ev.of spoorlaw19_lives.mono (k := 200) (by decide +kernel)
theorem has_j (l m : List Iv) (x0 x1 t : Int) (hl : okI l) (hm : okI m) (n1 : l.length ≤ 400) (n2 : m.length ≤ 400) :
    Ev (fun k => spoorlaw19_IvlHas.j0 k l m t false x0 x1) true := by
  obtain ⟨O, o1, o2, o3⟩ := or_ok2 hl hm (by omega)
  obtain ⟨A, a1, a2, a3⟩ := and_ok hl hm (by omega)
  have a4 : Ev (fun k => ivl_And.f k l m) (A, 0) := Ev.to (and_ev l m) a1
  have hO := hasW_ok o2 t
  have hA := hasW_ok a2 t
  have hL := hasW_ok hl t
  have hM := hasW_ok hm t
  have eO : decide (0 ≤ hasFrom t 0 O) = (decide (0 ≤ hasFrom t 0 l) || decide (0 ≤ hasFrom t 0 m)) := by
    rw [Bool.eq_iff_iff]
    simp only [decide_eq_true_eq, Bool.or_eq_true, has_inN]
    exact o3 t
  have eA : decide (0 ≤ hasFrom t 0 A) = (decide (0 ≤ hasFrom t 0 l) && decide (0 ≤ hasFrom t 0 m)) := by
    rw [Bool.eq_iff_iff]
    simp only [decide_eq_true_eq, Bool.and_eq_true, has_inN]
    exact a3 t
  rw [eO] at hO
  rw [eA] at hA
  obtain ⟨N, w, e, w2, h1, h2, h3⟩ : ∃ N w e w2, Ev (fun k => ivl_Not.f k l x0 x1) (N, w) ∧ Ev (fun k => ivl_Has.f k N t) (e, w2) ∧ (w = 2 ∨ w = 0 ∧ w2 = 0 ∧ e = (!decide (0 ≤ hasFrom t 0 l) && (decide (x0 ≤ t) && decide (t ≤ x1)))) := by
    by_cases hx : okI [⟨x0, x1⟩]
    · obtain ⟨N, q1, q2, q3⟩ := not_ok hl hx (by omega)
      refine ⟨N, 0, _, 0, Ev.to (not_ev l x0 x1) q1, hasW_ok q2 t, .inr ⟨rfl, rfl, ?_⟩⟩
      rw [Bool.eq_iff_iff]
      simp only [decide_eq_true_eq, Bool.and_eq_true, Bool.not_eq_true', decide_eq_false_iff_not, has_inN]
      rw [q3 t]
      exact ⟨fun h => ⟨h.2, h.1⟩, fun h => ⟨h.2, h.1⟩⟩
    · exact ⟨[], 2, (hasW [] t).1, (hasW [] t).2, Ev.to (not_ev l x0 x1) (if_neg (fun h => hx h.2)), hasW_ev [] t, .inl rfl⟩
  generalize decide (0 ≤ hasFrom t 0 l) = bl at *
  generalize decide (0 ≤ hasFrom t 0 m) = bm at *
  refine Ev.succ ?_
  simp only [spoorlaw19_IvlHas.j0]
  refine Ev.neg (by decide) (Ev.bind hL (Ev.bind hM (Ev.bind o1 (Ev.bind a4 (Ev.bind h1 (Ev.bind hO (Ev.bind hA (Ev.bind h2 (Ev.const ?_)))))))))
  rcases h3 with rfl | ⟨rfl, rfl, rfl⟩
  · cases bl <;> cases bm <;> rfl
  · by_cases c : x0 ≤ t <;> cases bl <;> cases bm <;> simp [c]
theorem IvlHas : spoorlaw19_IvlHas.Pure := by
  intro l m x0 x1 t h0 h1 h2 h3 hB hC
  clear h0 h1 h2 h3 hB hC
  refine Ev.rounds (g := fun k => spoorlaw19_IvlHas.f k l m x0 x1 t) (r := true) ?_
  have big : Ev (fun k => spoorlaw19_IvlHas.j0 k l m t true x0 x1) true := by
    refine Ev.succ ?_
    simp only [spoorlaw19_IvlHas.j0]
    exact Ev.pos trivial (Ev.const rfl)
  simp only [spoorlaw19_IvlHas.f]
  refine Ev.bind lives19_ev2 (Ev.pos rfl (Ev.bind (chk_ev l) ?_))
  by_cases hl : okI l
  case neg =>
    rw [if_neg hl]
    exact Ev.neg (by decide) big
  rw [if_pos hl]
  refine Ev.pos rfl (Ev.bind (chk_ev m) ?_)
  by_cases hm : okI m
  case neg =>
    rw [if_neg hm]
    exact Ev.neg (by decide) big
  rw [if_pos hm]
  refine Ev.pos rfl ?_
  by_cases c : (l.length : Int) > 400
  · exact Ev.pos c big
  refine Ev.neg c ?_
  by_cases d : (m.length : Int) > 400
  · rw [decide_eq_true d]
    exact big
  rw [decide_eq_false d]
  exact has_j l m x0 x1 t hl hm (by omega) (by omega)
end Go.Proofs.Ytkjjidanakmkeaa.Pure
end
section
namespace Go.Proofs.Ytkjjidanakmkeaa.ivlHas
open Go.ChangeShapes Go.WideShapes Go.ChangeAt Go.RowKit Go.Proofs.Ytkjjidanakmkeaa.Open Go.Proofs.Ytkjjidanakmkeaa.Q
open Go.ChangeMaps (open_string shut_string)
set_option linter.unusedVariables false
theorem own : ownKnob Try.prog.godebug = none := by kernel_rfl
theorem laidOut : laidOutB Try.prog = true := by kernel_rfl
set_option maxRecDepth 100000 in
theorem contract (H : Type) (enc : TypeId × Value → H) (W : World) (base : Nat) (args : Array Value) (ds gs : List (DataW H)) (before : List MemPlace)
    (hval : ∀ (j : Nat) t v, Try.f5.params[j]? = some t → args[j]? = some v → Value.okWide Try.prog W .any base t v)
    (hW : DataW.Whole enc Try.prog Try.f5.params.toList Rows.ivlHasSpec.vars false W args.toList ds gs before) (hsz0 : (DataW.weightsEach Try.prog (Try.f5.params.toList ++ Rows.ivlHasSpec.plain.varTypes Try.prog) (ds ++ gs)).all (· ≤ reachBytes) = true) :
    Calls Try.prog 5 args W fun e W' => ∃ v, e = .returned v ∧ Rows.ivlHasSpec.post enc Try.prog Try.f5 false true false false W args v W' := by
  have hW' := hW
  obtain ⟨p, q, hA0, hV, rfl, hfz, hnd⟩ := hW
  have hA : DataW.TrodAll enc Try.prog W 0 (fun _ => true) true Try.f5.params.toList args.toList ds p := hA0
  have hsz : (DataW.weightsEach Try.prog (Try.f5.params.toList ++ Rows.ivlHasSpec.plain.varTypes Try.prog) (ds ++ gs)).all (· ≤ reachBytes) = true := hsz0
  rw [Try.params5] at hA hval hsz
  obtain ⟨v0, vs0, d0, ds0, p0, q0, hargs, rfl, rfl, h0, r0⟩ := trodAll_cons hA
  obtain ⟨v1, vs1, d1, ds1, p1, q1, rfl, rfl, rfl, h1, r1⟩ := trodAll_cons r0
  obtain ⟨v2, vs2, d2, ds2, p2, q2, rfl, rfl, rfl, h2, r2⟩ := trodAll_cons r1
  obtain ⟨v3, vs3, d3, ds3, p3, q3, rfl, rfl, rfl, h3, r3⟩ := trodAll_cons r2
  obtain ⟨rfl, rfl, rfl⟩ := trodAll_nil r3
  obtain rfl : args = #[v0, v1, v2, v3] := by cases args; simp_all
  obtain ⟨rfl, rfl⟩ := trodVars_none hV
  have k0 := h0
  have lt0 : ∀ x ∈ p0, x.block < W.heap.size := by obtain ⟨m, hm⟩ := k0; exact DataW.trod_lt m _ _ _ hm
  obtain ⟨fu0, hf0⟩ := h0
  obtain ⟨b0, K0, o0, u0⟩ := (opens_slice opn36 Try.underlying22 (by kernel_rfl) 36) enc W _ _ _ _ _ hf0
  obtain ⟨A0, c0, z0, lc0, C0⟩ := K0
  obtain rfl : v0 = .slice A0 b0.length c0 := by obtain ⟨x, y, z, rfl⟩ := okWide_slice Try.underlying22 (hval 0 22 v0 rfl rfl); exact (List.cons.inj (show [Value.slice x y z] = [Value.slice A0 b0.length c0] from z0)).1
  have k1 := h1
  have lt1 : ∀ x ∈ p1, x.block < W.heap.size := by obtain ⟨m, hm⟩ := k1; exact DataW.trod_lt m _ _ _ hm
  obtain ⟨fu1, hf1⟩ := h1
  obtain ⟨b1, K1, o1, u1⟩ := (opens_slice opn36 Try.underlying22 (by kernel_rfl) 36) enc W _ _ _ _ _ hf1
  obtain ⟨A1, c1, z1, lc1, C1⟩ := K1
  obtain rfl : v1 = .slice A1 b1.length c1 := by obtain ⟨x, y, z, rfl⟩ := okWide_slice Try.underlying22 (hval 1 22 v1 rfl rfl); exact (List.cons.inj (show [Value.slice x y z] = [Value.slice A1 b1.length c1] from z1)).1
  have k2 := h2
  have lt2 : ∀ x ∈ p2, x.block < W.heap.size := by obtain ⟨m, hm⟩ := k2; exact DataW.trod_lt m _ _ _ hm
  obtain ⟨fu2, hf2⟩ := h2
  obtain ⟨b2, K2, o2, u2⟩ := opn36 enc W _ _ _ _ _ hf2
  have z2 := k36_open K2
  obtain rfl : v2 = .agg #[.int .i64 b2.f0, .int .i64 b2.f1] := by obtain ⟨x, rfl, _⟩ := okWide_struct Try.underlying36 (hval 2 36 v2 rfl rfl); exact congrArg Value.agg (Array.toList_inj.mp (show x.toList = [.int .i64 b2.f0, .int .i64 b2.f1] from z2))
  have k3 := h3
  have lt3 : ∀ x ∈ p3, x.block < W.heap.size := by obtain ⟨m, hm⟩ := k3; exact DataW.trod_lt m _ _ _ hm
  obtain ⟨fu3, hf3⟩ := h3
  obtain ⟨b3, K3, o3, u3⟩ := (opens_int Try.underlying2) enc W _ _ _ _ _ hf3
  obtain rfl : v3 = .int .i64 b3 := by obtain ⟨x, rfl⟩ := okWide_int Try.underlying2 (hval 3 2 v3 rfl rfl); exact (List.cons.inj (show [Value.int .i64 x] = [Value.int .i64 b3] from K3)).1
  have sz0 : b0.length * 16 ≤ 140737488351232 := sized_row hsz (j := 0) (t := 22) rfl rfl Try.underlying22 (by kernel_rfl) k0
  have sz1 : b1.length * 16 ≤ 140737488351232 := sized_row hsz (j := 1) (t := 22) rfl rfl Try.underlying22 (by kernel_rfl) k1
  obtain ⟨k, h⟩ := Pure.IvlHas b0 b1 b2.f0 b2.f1 b3 o0 o1 o2 o3 sz0 sz1
  refine (spoorlaw19_IvlHas.calls k A0 c0 b0 A1 c1 b1 b2.f0 b2.f1 b3 true W C0 lc0 C1 lc1 h).mono fun e W' ⟨he, hd⟩ => ?_
  have bel := hd
  subst he
  exact ⟨_, rfl, _, _, _, [], _, [], hW', trodAll_mk1 (shut_bool Try.underlying4 _), (trodAll_cons_mk (Below.trod laidOut (by kernel_rfl) (of_decide_eq_true (by kernel_rfl)) k0 bel lt0) (trodAll_cons_mk (Below.trod laidOut (by kernel_rfl) (of_decide_eq_true (by kernel_rfl)) k1 bel lt1) (trodAll_cons_mk (Below.trod laidOut (by kernel_rfl) (of_decide_eq_true (by kernel_rfl)) k2 bel lt2) (trodAll_cons_mk (Below.trod laidOut (by kernel_rfl) (of_decide_eq_true (by kernel_rfl)) k3 bel lt3) trodAll_mk0)))), rfl, bel.frame _, fun h => by cases h⟩
set_option maxRecDepth 100000 in
theorem lifted (os : Os) (started : os.Started) (H : Type) (enc : TypeId × Value → H) :
    ReturnsInHanded {} Try.checked os 5 .any (Rows.ivlHasSpec.pre6 enc Try.prog Try.f5 Rows.ivlHasRow.domain false) (Rows.ivlHasSpec.post enc Try.prog Try.f5 false true false false) := by
  refine returnsInHanded_of_change_sized (C := Try.checked) own started (by kernel_rfl) Try.func5
    (ChangeSpec.witness6 (enc := enc) (C := Try.checked) false ⟨#[], #[.slice none 0 0, .slice none 0 0, .agg #[.int .i64 0, .int .i64 0], .int .i64 0], []⟩ 8 (by kernel_rfl) (by kernel_rfl) (by kernel_rfl) (by kernel_rfl)) ?_
  intro W base args ds gs before hval hW _ hsz _
  exact contract H enc W base args ds gs before hval hW hsz
theorem over : Rows.ivlHasRow.holds Try.pinned (OpenSpec.ofChange Rows.ivlHasSpec) :=
  OpenClaim.holds_of_wide 5 Try.f5 rfl rfl rfl rfl rfl rfl rfl ⟨rfl, rfl, rfl, rfl, rfl⟩ rfl rfl rfl rfl rfl (by kernel_rfl) Try.func5 (by kernel_rfl)
    (of_decide_eq_true (by kernel_rfl)) (by unfold Func.isWrapper; first | (rw [if_pos (by decide +kernel)]; kernel_rfl) | (rw [if_neg (by decide +kernel)]; exact ⟨rfl, rfl⟩))
    (fun os started H enc _ => lifted os started H enc)
theorem proved : Rows.IvlHasSaid := over
#print axioms proved
end Go.Proofs.Ytkjjidanakmkeaa.ivlHas
namespace Go.Proofs.Ytkjjidanakmkeaa
theorem ivlHas_holds : Rows.IvlHasSaid := ivlHas.proved
end Go.Proofs.Ytkjjidanakmkeaa
end
section
namespace Go.Proofs.Ytkjjidanakmkeaa.Q
set_option linter.unusedVariables false
open Go.RowKit Go.Proofs.YtkjjidanakmkeaaW.PrintWords Go.Proofs.YtkjjidanakmkeaaW.PrintLast Go.Proofs.YtkjjidanakmkeaaW.PrintMore Go.Proofs.Ytkjjidanakmkeaa.Open
def spoorlaw19_IvlLong.Pure : Prop := ∀ (l0 : List (S36)) (l1 : List (S36)) (a2_0 : Int) (a2_1 : Int), (fun l => wfAll wf36 l ∧ l.length ≤ maxLen) l0 → (fun l => wfAll wf36 l ∧ l.length ≤ maxLen) l1 → wf36 (⟨a2_0, a2_1⟩ : S36) → l0.length * 16 ≤ 140737488351232 → l1.length * 16 ≤ 140737488351232 → ∃ k, spoorlaw19_IvlLong.f k l0 l1 a2_0 a2_1 = some true
end Go.Proofs.Ytkjjidanakmkeaa.Q
end
section
namespace Go.Proofs.Ytkjjidanakmkeaa.Pure
set_option linter.unusedVariables false
open Go.RowKit Go.Proofs.Ytkjjidanakmkeaa.Q Go.Proofs.YtkjjidanakmkeaaW.PrintWords Go.Proofs.YtkjjidanakmkeaaW.PrintLast Go.Proofs.Ytkjjidanakmkeaa.Base Go.Proofs.Ytkjjidanakmkeaa.Ivl
theorem lives19_ev3 : Ev spoorlaw19_lives.f true := Ev.of spoorlaw19_lives.mono (k := 200) (by decide +kernel)
theorem long_j1 (l : List Iv) (x0 x1 : Int) (hl : okI l) (n1 : l.length ≤ 400) :
    Ev (fun k => spoorlaw19_IvlLong.j1 k l (sumI l) false x0 x1) true := by
  refine Ev.succ ?_
  simp only [spoorlaw19_IvlLong.j1]
  refine Ev.neg (by decide) (Ev.bind (not_ev l x0 x1) (Ev.bind (longV_ev _) ?_))
  by_cases hx : okI [⟨x0, x1⟩]
  case neg =>
    rw [show notV l ⟨x0, x1⟩ = ([], 2) from if_neg (fun h => hx h.2)]
    exact Ev.neg (by decide) (Ev.const rfl)
  obtain ⟨N, q1, q2, q3⟩ := not_ok hl hx (by omega)
  have hx2 := (okI_one _).1 hx
  have b1 := sum_bnd hl
  have b2 := sum_bnd q2
  have fin : (∀ t, inN t (l.map runOf) → x0 ≤ t ∧ t ≤ x1) → (if (sumI N, (0 : Int)).2 = 0 then some (wrap64 (sumI l + (sumI N, (0 : Int)).1) == wrap64 (wrap64 (x1 - x0) + 1)) else none) = some true := fun hin => by
    have hs := sum_in hl q2 hx hin q3
    rw [if_pos rfl]
    have hx3 : 0 ≤ x0 ∧ x0 ≤ x1 ∧ x1 ≤ 1099511627776 := hx2
    have hs2 : sumI l + sumI N = x1 - x0 + 1 := hs
    rw [w64 (n := x1 - x0) (by omega) (by omega), w64 (n := x1 - x0 + 1) (by omega) (by omega)]
    show some (wrap64 (sumI l + sumI N) == _) = _
    rw [w64 (n := sumI l + sumI N) (by omega) (by omega), hs2]
    simp
  rw [q1, show longV N = (sumI N, 0) from if_pos q2]
  refine Ev.pos rfl ?_
  by_cases c : 0 < l.length
  case neg =>
    refine Ev.neg (by omega) (Ev.const (fin (fun t ht => ?_)))
    have : l = [] := List.length_eq_zero_iff.1 (by omega)
    rw [this] at ht
    exact (inN_nil t ht).elim
  refine Ev.pos (by omega) (Ev.pos (by omega) ?_)
  have e0 : rd_T36 l 0 = l[0] := by simp [rd_T36, List.getD_eq_getElem?_getD, c]
  have hk : l.length - 1 < l.length := by omega
  have e1 : rd_T36 l ((l.length - 1 : Nat) : Int) = l[l.length - 1] := by simp [rd_T36, List.getD_eq_getElem?_getD, hk]
  rw [w64 (n := (l.length : Int) - 1) (by omega) (by omega), show ((l.length : Int) - 1) = ((l.length - 1 : Nat) : Int) by omega, e0, e1]
  by_cases d : l[0].f0 < x0
  · exact Ev.pos d (Ev.const rfl)
  refine Ev.neg d (Ev.pos (by omega) (Ev.pos (by omega) ?_))
  by_cases g : l[l.length - 1].f1 > x1
  · exact Ev.pos g (Ev.const rfl)
  refine Ev.neg g (Ev.const (fin (fun t ht => ?_)))
  have h1 := snd_low hl.2 c ht
  have h2 := snd_high hl.2 hk ht
  omega
theorem long_j (l m : List Iv) (x0 x1 : Int) (hl : okI l) (hm : okI m) (n1 : l.length ≤ 400) (n2 : m.length ≤ 400) :
    Ev (fun k => spoorlaw19_IvlLong.j0 k l m false x0 x1) true := by
  obtain ⟨O, o1, o2, o3⟩ := or_ok2 hl hm (by omega)
  obtain ⟨A, a1, a2, a3⟩ := and_ok hl hm (by omega)
  have a4 : Ev (fun k => ivl_And.f k l m) (A, 0) := Ev.to (and_ev l m) a1
  have hs := sum_two hl hm o2 a2 o3 a3
  have b1 := sum_bnd hl
  have b2 := sum_bnd hm
  refine Ev.succ ?_
  simp only [spoorlaw19_IvlLong.j0]
  refine Ev.neg (by decide) (Ev.bind o1 (Ev.bind a4 (Ev.bind (long_ev hl.1 hl.2) (Ev.bind (long_ev hm.1 hm.2) (Ev.bind (long_ev o2.1 o2.2) (Ev.bind (long_ev a2.1 a2.2) (Ev.pos rfl (Ev.pos rfl (Ev.pos rfl (Ev.pos rfl ?_))))))))))
  dsimp only
  rw [hs, show ((wrap64 (sumI l + sumI m)) != (wrap64 (sumI l + sumI m))) = false by simp]
  exact long_j1 l x0 x1 hl n1
theorem IvlLong : spoorlaw19_IvlLong.Pure := by
  intro l m x0 x1 h0 h1 h2 hB hC
  clear h0 h1 h2 hB hC
  refine Ev.rounds (g := fun k => spoorlaw19_IvlLong.f k l m x0 x1) (r := true) ?_
  have big : Ev (fun k => spoorlaw19_IvlLong.j0 k l m true x0 x1) true := by
    refine Ev.succ ?_
    simp only [spoorlaw19_IvlLong.j0]
    exact Ev.pos trivial (Ev.const rfl)
  simp only [spoorlaw19_IvlLong.f]
  refine Ev.bind lives19_ev3 (Ev.pos rfl (Ev.bind (chk_ev l) ?_))
  by_cases hl : okI l
  case neg =>
    rw [if_neg hl]
    exact Ev.neg (by decide) big
  rw [if_pos hl]
  refine Ev.pos rfl (Ev.bind (chk_ev m) ?_)
  by_cases hm : okI m
  case neg =>
    rw [if_neg hm]
    exact Ev.neg (by decide) big
  rw [if_pos hm]
  refine Ev.pos rfl ?_
  by_cases c : (l.length : Int) > 400
  · exact Ev.pos c big
  refine Ev.neg c ?_
  by_cases d : (m.length : Int) > 400
  · rw [decide_eq_true d]
    exact big
  rw [decide_eq_false d]
  exact long_j l m x0 x1 hl hm (by omega) (by omega)
end Go.Proofs.Ytkjjidanakmkeaa.Pure
end
section
namespace Go.Proofs.Ytkjjidanakmkeaa.ivlLong
open Go.ChangeShapes Go.WideShapes Go.ChangeAt Go.RowKit Go.Proofs.Ytkjjidanakmkeaa.Open Go.Proofs.Ytkjjidanakmkeaa.Q
open Go.ChangeMaps (open_string shut_string)
set_option linter.unusedVariables false
theorem own : ownKnob Try.prog.godebug = none := by kernel_rfl
theorem laidOut : laidOutB Try.prog = true := by kernel_rfl
set_option maxRecDepth 100000 in
theorem contract (H : Type) (enc : TypeId × Value → H) (W : World) (base : Nat) (args : Array Value) (ds gs : List (DataW H)) (before : List MemPlace)
    (hval : ∀ (j : Nat) t v, Try.f6.params[j]? = some t → args[j]? = some v → Value.okWide Try.prog W .any base t v)
    (hW : DataW.Whole enc Try.prog Try.f6.params.toList Rows.ivlLongSpec.vars false W args.toList ds gs before) (hsz0 : (DataW.weightsEach Try.prog (Try.f6.params.toList ++ Rows.ivlLongSpec.plain.varTypes Try.prog) (ds ++ gs)).all (· ≤ reachBytes) = true) :
    Calls Try.prog 6 args W fun e W' => ∃ v, e = .returned v ∧ Rows.ivlLongSpec.post enc Try.prog Try.f6 false true false false W args v W' := by
  have hW' := hW
  obtain ⟨p, q, hA0, hV, rfl, hfz, hnd⟩ := hW
  have hA : DataW.TrodAll enc Try.prog W 0 (fun _ => true) true Try.f6.params.toList args.toList ds p := hA0
  have hsz : (DataW.weightsEach Try.prog (Try.f6.params.toList ++ Rows.ivlLongSpec.plain.varTypes Try.prog) (ds ++ gs)).all (· ≤ reachBytes) = true := hsz0
  rw [Try.params6] at hA hval hsz
  obtain ⟨v0, vs0, d0, ds0, p0, q0, hargs, rfl, rfl, h0, r0⟩ := trodAll_cons hA
  obtain ⟨v1, vs1, d1, ds1, p1, q1, rfl, rfl, rfl, h1, r1⟩ := trodAll_cons r0
  obtain ⟨v2, vs2, d2, ds2, p2, q2, rfl, rfl, rfl, h2, r2⟩ := trodAll_cons r1
  obtain ⟨rfl, rfl, rfl⟩ := trodAll_nil r2
  obtain rfl : args = #[v0, v1, v2] := by cases args; simp_all
  obtain ⟨rfl, rfl⟩ := trodVars_none hV
  have k0 := h0
  have lt0 : ∀ x ∈ p0, x.block < W.heap.size := by obtain ⟨m, hm⟩ := k0; exact DataW.trod_lt m _ _ _ hm
  obtain ⟨fu0, hf0⟩ := h0
  obtain ⟨b0, K0, o0, u0⟩ := (opens_slice opn36 Try.underlying22 (by kernel_rfl) 36) enc W _ _ _ _ _ hf0
  obtain ⟨A0, c0, z0, lc0, C0⟩ := K0
  obtain rfl : v0 = .slice A0 b0.length c0 := by obtain ⟨x, y, z, rfl⟩ := okWide_slice Try.underlying22 (hval 0 22 v0 rfl rfl); exact (List.cons.inj (show [Value.slice x y z] = [Value.slice A0 b0.length c0] from z0)).1
  have k1 := h1
  have lt1 : ∀ x ∈ p1, x.block < W.heap.size := by obtain ⟨m, hm⟩ := k1; exact DataW.trod_lt m _ _ _ hm
  obtain ⟨fu1, hf1⟩ := h1
  obtain ⟨b1, K1, o1, u1⟩ := (opens_slice opn36 Try.underlying22 (by kernel_rfl) 36) enc W _ _ _ _ _ hf1
  obtain ⟨A1, c1, z1, lc1, C1⟩ := K1
  obtain rfl : v1 = .slice A1 b1.length c1 := by obtain ⟨x, y, z, rfl⟩ := okWide_slice Try.underlying22 (hval 1 22 v1 rfl rfl); exact (List.cons.inj (show [Value.slice x y z] = [Value.slice A1 b1.length c1] from z1)).1
  have k2 := h2
  have lt2 : ∀ x ∈ p2, x.block < W.heap.size := by obtain ⟨m, hm⟩ := k2; exact DataW.trod_lt m _ _ _ hm
  obtain ⟨fu2, hf2⟩ := h2
  obtain ⟨b2, K2, o2, u2⟩ := opn36 enc W _ _ _ _ _ hf2
  have z2 := k36_open K2
  obtain rfl : v2 = .agg #[.int .i64 b2.f0, .int .i64 b2.f1] := by obtain ⟨x, rfl, _⟩ := okWide_struct Try.underlying36 (hval 2 36 v2 rfl rfl); exact congrArg Value.agg (Array.toList_inj.mp (show x.toList = [.int .i64 b2.f0, .int .i64 b2.f1] from z2))
  have sz0 : b0.length * 16 ≤ 140737488351232 := sized_row hsz (j := 0) (t := 22) rfl rfl Try.underlying22 (by kernel_rfl) k0
  have sz1 : b1.length * 16 ≤ 140737488351232 := sized_row hsz (j := 1) (t := 22) rfl rfl Try.underlying22 (by kernel_rfl) k1
  obtain ⟨k, h⟩ := Pure.IvlLong b0 b1 b2.f0 b2.f1 o0 o1 o2 sz0 sz1
  refine (spoorlaw19_IvlLong.calls k A0 c0 b0 A1 c1 b1 b2.f0 b2.f1 true W C0 lc0 C1 lc1 h).mono fun e W' ⟨he, hd⟩ => ?_
  have bel := hd
  subst he
  exact ⟨_, rfl, _, _, _, [], _, [], hW', trodAll_mk1 (shut_bool Try.underlying4 _), (trodAll_cons_mk (Below.trod laidOut (by kernel_rfl) (of_decide_eq_true (by kernel_rfl)) k0 bel lt0) (trodAll_cons_mk (Below.trod laidOut (by kernel_rfl) (of_decide_eq_true (by kernel_rfl)) k1 bel lt1) (trodAll_cons_mk (Below.trod laidOut (by kernel_rfl) (of_decide_eq_true (by kernel_rfl)) k2 bel lt2) trodAll_mk0))), rfl, bel.frame _, fun h => by cases h⟩
set_option maxRecDepth 100000 in
theorem lifted (os : Os) (started : os.Started) (H : Type) (enc : TypeId × Value → H) :
    ReturnsInHanded {} Try.checked os 6 .any (Rows.ivlLongSpec.pre6 enc Try.prog Try.f6 Rows.ivlLongRow.domain false) (Rows.ivlLongSpec.post enc Try.prog Try.f6 false true false false) := by
  refine returnsInHanded_of_change_sized (C := Try.checked) own started (by kernel_rfl) Try.func6
    (ChangeSpec.witness6 (enc := enc) (C := Try.checked) false ⟨#[], #[.slice none 0 0, .slice none 0 0, .agg #[.int .i64 0, .int .i64 0]], []⟩ 8 (by kernel_rfl) (by kernel_rfl) (by kernel_rfl) (by kernel_rfl)) ?_
  intro W base args ds gs before hval hW _ hsz _
  exact contract H enc W base args ds gs before hval hW hsz
theorem over : Rows.ivlLongRow.holds Try.pinned (OpenSpec.ofChange Rows.ivlLongSpec) :=
  OpenClaim.holds_of_wide 6 Try.f6 rfl rfl rfl rfl rfl rfl rfl ⟨rfl, rfl, rfl, rfl, rfl⟩ rfl rfl rfl rfl rfl (by kernel_rfl) Try.func6 (by kernel_rfl)
    (of_decide_eq_true (by kernel_rfl)) (by unfold Func.isWrapper; first | (rw [if_pos (by decide +kernel)]; kernel_rfl) | (rw [if_neg (by decide +kernel)]; exact ⟨rfl, rfl⟩))
    (fun os started H enc _ => lifted os started H enc)
theorem proved : Rows.IvlLongSaid := over
#print axioms proved
end Go.Proofs.Ytkjjidanakmkeaa.ivlLong
namespace Go.Proofs.Ytkjjidanakmkeaa
theorem ivlLong_holds : Rows.IvlLongSaid := ivlLong.proved
end Go.Proofs.Ytkjjidanakmkeaa
end
section
namespace Go.Proofs.Ytkjjidanakmkeaa.Q
set_option linter.unusedVariables false
open Go.RowKit Go.Proofs.YtkjjidanakmkeaaW.PrintWords Go.Proofs.YtkjjidanakmkeaaW.PrintLast Go.Proofs.YtkjjidanakmkeaaW.PrintMore Go.Proofs.Ytkjjidanakmkeaa.Open
def spoorlaw19_IvlTwice.Pure : Prop := ∀ (l0 : List (S36)) (a1_0 : Int) (a1_1 : Int), (fun l => wfAll wf36 l ∧ l.length ≤ maxLen) l0 → wf36 (⟨a1_0, a1_1⟩ : S36) → l0.length * 16 ≤ 140737488351232 → ∃ k, spoorlaw19_IvlTwice.f k l0 a1_0 a1_1 = some true
end Go.Proofs.Ytkjjidanakmkeaa.Q
end
section
namespace Go.Proofs.Ytkjjidanakmkeaa.Pure
set_option linter.unusedVariables false
open Go.RowKit Go.Proofs.Ytkjjidanakmkeaa.Q Go.Proofs.YtkjjidanakmkeaaW.PrintWords Go.Proofs.YtkjjidanakmkeaaW.PrintLast Go.Proofs.Ytkjjidanakmkeaa.Base Go.Proofs.Ytkjjidanakmkeaa.Ivl
theorem lives19_ev : Ev spoorlaw19_lives.f true := Ev.of spoorlaw19_lives.mono (k := 200) (by decide +kernel)
theorem IvlTwice : spoorlaw19_IvlTwice.Pure := by
  intro l x0 x1 h0 h1 hB
  clear h0 h1 hB
  refine Ev.rounds (g := fun k => spoorlaw19_IvlTwice.f k l x0 x1) (r := true) ?_
  simp only [spoorlaw19_IvlTwice.f]
  refine Ev.bind lives19_ev (Ev.pos rfl (Ev.bind (not_ev l x0 x1) (Ev.bind (not_ev _ x0 x1) (Ev.bind (and_ev l [⟨x0, x1⟩]) (Ev.bind (makeI_ev l) ?_)))))
  by_cases h : (notV l ⟨x0, x1⟩).2 = 0
  case neg => exact Ev.neg h (Ev.const rfl)
  obtain ⟨h1, h2, h3, h4⟩ := twice_ok h
  rw [h2, makeI_same h1]
  exact Ev.pos h (Ev.pos h3 (Ev.pos h3 (Ev.bind (same19_ev _ (by omega)) (Ev.pos rfl (Ev.pos rfl (Ev.bind (same19_ev l (by have := h1.1; omega)) (Ev.const rfl)))))))
end Go.Proofs.Ytkjjidanakmkeaa.Pure
end
section
namespace Go.Proofs.Ytkjjidanakmkeaa.ivlTwice
open Go.ChangeShapes Go.WideShapes Go.ChangeAt Go.RowKit Go.Proofs.Ytkjjidanakmkeaa.Open Go.Proofs.Ytkjjidanakmkeaa.Q
open Go.ChangeMaps (open_string shut_string)
set_option linter.unusedVariables false
theorem own : ownKnob Try.prog.godebug = none := by kernel_rfl
theorem laidOut : laidOutB Try.prog = true := by kernel_rfl
set_option maxRecDepth 100000 in
theorem contract (H : Type) (enc : TypeId × Value → H) (W : World) (base : Nat) (args : Array Value) (ds gs : List (DataW H)) (before : List MemPlace)
    (hval : ∀ (j : Nat) t v, Try.f7.params[j]? = some t → args[j]? = some v → Value.okWide Try.prog W .any base t v)
    (hW : DataW.Whole enc Try.prog Try.f7.params.toList Rows.ivlTwiceSpec.vars false W args.toList ds gs before) (hsz0 : (DataW.weightsEach Try.prog (Try.f7.params.toList ++ Rows.ivlTwiceSpec.plain.varTypes Try.prog) (ds ++ gs)).all (· ≤ reachBytes) = true) :
    Calls Try.prog 7 args W fun e W' => ∃ v, e = .returned v ∧ Rows.ivlTwiceSpec.post enc Try.prog Try.f7 false true false false W args v W' := by
  have hW' := hW
  obtain ⟨p, q, hA0, hV, rfl, hfz, hnd⟩ := hW
  have hA : DataW.TrodAll enc Try.prog W 0 (fun _ => true) true Try.f7.params.toList args.toList ds p := hA0
  have hsz : (DataW.weightsEach Try.prog (Try.f7.params.toList ++ Rows.ivlTwiceSpec.plain.varTypes Try.prog) (ds ++ gs)).all (· ≤ reachBytes) = true := hsz0
  rw [Try.params7] at hA hval hsz
  obtain ⟨v0, vs0, d0, ds0, p0, q0, hargs, rfl, rfl, h0, r0⟩ := trodAll_cons hA
  obtain ⟨v1, vs1, d1, ds1, p1, q1, rfl, rfl, rfl, h1, r1⟩ := trodAll_cons r0
  obtain ⟨rfl, rfl, rfl⟩ := trodAll_nil r1
  obtain rfl : args = #[v0, v1] := by cases args; simp_all
  obtain ⟨rfl, rfl⟩ := trodVars_none hV
  have k0 := h0
  have lt0 : ∀ x ∈ p0, x.block < W.heap.size := by obtain ⟨m, hm⟩ := k0; exact DataW.trod_lt m _ _ _ hm
  obtain ⟨fu0, hf0⟩ := h0
  obtain ⟨b0, K0, o0, u0⟩ := (opens_slice opn36 Try.underlying22 (by kernel_rfl) 36) enc W _ _ _ _ _ hf0
  obtain ⟨A0, c0, z0, lc0, C0⟩ := K0
  obtain rfl : v0 = .slice A0 b0.length c0 := by obtain ⟨x, y, z, rfl⟩ := okWide_slice Try.underlying22 (hval 0 22 v0 rfl rfl); exact (List.cons.inj (show [Value.slice x y z] = [Value.slice A0 b0.length c0] from z0)).1
  have k1 := h1
  have lt1 : ∀ x ∈ p1, x.block < W.heap.size := by obtain ⟨m, hm⟩ := k1; exact DataW.trod_lt m _ _ _ hm
  obtain ⟨fu1, hf1⟩ := h1
  obtain ⟨b1, K1, o1, u1⟩ := opn36 enc W _ _ _ _ _ hf1
  have z1 := k36_open K1
  obtain rfl : v1 = .agg #[.int .i64 b1.f0, .int .i64 b1.f1] := by obtain ⟨x, rfl, _⟩ := okWide_struct Try.underlying36 (hval 1 36 v1 rfl rfl); exact congrArg Value.agg (Array.toList_inj.mp (show x.toList = [.int .i64 b1.f0, .int .i64 b1.f1] from z1))
  have sz0 : b0.length * 16 ≤ 140737488351232 := sized_row hsz (j := 0) (t := 22) rfl rfl Try.underlying22 (by kernel_rfl) k0
  obtain ⟨k, h⟩ := Pure.IvlTwice b0 b1.f0 b1.f1 o0 o1 sz0
  refine (spoorlaw19_IvlTwice.calls k A0 c0 b0 b1.f0 b1.f1 true W C0 lc0 h).mono fun e W' ⟨he, hd⟩ => ?_
  have bel := hd
  subst he
  exact ⟨_, rfl, _, _, _, [], _, [], hW', trodAll_mk1 (shut_bool Try.underlying4 _), (trodAll_cons_mk (Below.trod laidOut (by kernel_rfl) (of_decide_eq_true (by kernel_rfl)) k0 bel lt0) (trodAll_cons_mk (Below.trod laidOut (by kernel_rfl) (of_decide_eq_true (by kernel_rfl)) k1 bel lt1) trodAll_mk0)), rfl, bel.frame _, fun h => by cases h⟩
set_option maxRecDepth 100000 in
theorem lifted (os : Os) (started : os.Started) (H : Type) (enc : TypeId × Value → H) :
    ReturnsInHanded {} Try.checked os 7 .any (Rows.ivlTwiceSpec.pre6 enc Try.prog Try.f7 Rows.ivlTwiceRow.domain false) (Rows.ivlTwiceSpec.post enc Try.prog Try.f7 false true false false) := by
  refine returnsInHanded_of_change_sized (C := Try.checked) own started (by kernel_rfl) Try.func7
    (ChangeSpec.witness6 (enc := enc) (C := Try.checked) false ⟨#[], #[.slice none 0 0, .agg #[.int .i64 0, .int .i64 0]], []⟩ 8 (by kernel_rfl) (by kernel_rfl) (by kernel_rfl) (by kernel_rfl)) ?_
  intro W base args ds gs before hval hW _ hsz _
  exact contract H enc W base args ds gs before hval hW hsz
theorem over : Rows.ivlTwiceRow.holds Try.pinned (OpenSpec.ofChange Rows.ivlTwiceSpec) :=
  OpenClaim.holds_of_wide 7 Try.f7 rfl rfl rfl rfl rfl rfl rfl ⟨rfl, rfl, rfl, rfl, rfl⟩ rfl rfl rfl rfl rfl (by kernel_rfl) Try.func7 (by kernel_rfl)
    (of_decide_eq_true (by kernel_rfl)) (by unfold Func.isWrapper; first | (rw [if_pos (by decide +kernel)]; kernel_rfl) | (rw [if_neg (by decide +kernel)]; exact ⟨rfl, rfl⟩))
    (fun os started H enc _ => lifted os started H enc)
theorem proved : Rows.IvlTwiceSaid := over
#print axioms proved
end Go.Proofs.Ytkjjidanakmkeaa.ivlTwice
namespace Go.Proofs.Ytkjjidanakmkeaa
theorem ivlTwice_holds : Rows.IvlTwiceSaid := ivlTwice.proved
end Go.Proofs.Ytkjjidanakmkeaa
end
section

end
