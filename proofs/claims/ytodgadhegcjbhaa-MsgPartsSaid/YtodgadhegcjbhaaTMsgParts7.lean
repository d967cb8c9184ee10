/- Any prefix and action has the bytes that the document says, or none, and any bytes begin with the prefix, and the action, that it says, or none; for every prefix, action and text. -/
import Derived.Test.YtodgadhegcjbhaaRows
import Derived.ChangeArms
import Derived.WideShapes
import Derived.SizedLaws
import Derived.Laws.BytesArg
import Derived.Laws.BitsLemmas
import Derived.WalkKit
import Derived.ProofKit
import Derived.OpenShut
import Derived.ShutString
import Derived.ChangeOld
import Derived.Below
import Derived.JoinedCond
import Derived.Test.YtodgadhegcjbhaaTMsgParts6
section
namespace Go.Proofs.Ytodgadhegcjbhaa.Q
open Go.RowKit Go.Proofs.YtodgadhegcjbhaaW.PrintWords Go.Proofs.YtodgadhegcjbhaaW.PrintLast Go.Proofs.YtodgadhegcjbhaaW.PrintMore
attribute [local go_sem] max2_int min2_int max_two min_two max_three min_three max_four min_four   -- for this text's walks alone
set_option linter.unusedVariables false
set_option linter.unusedSimpArgs false
attribute [local go_sem high] eqA27 eqA30 eqA32
def msg_PutPrefix.f (k : Nat) (a0_0 : Bool) (a0_1 : Int) (a0_2 : Int) (a0_3 : Int) : Option (ByteArray × Int) := (addr_Check.f k a0_0 a0_1 a0_2 a0_3).bind fun t354 => (if t354 = 0 then ((msg_prefix.f ([] : List Int) a0_0 a0_1 a0_2 a0_3).bind fun t355 => (some (strOfNums t355, 0))) else (some ((⟨#[]⟩ : ByteArray), t354)))
theorem msg_PutPrefix.mono : ∀ a0 a1 a2 a3 k, LeO (msg_PutPrefix.f k a0 a1 a2 a3) (msg_PutPrefix.f (k + 1) a0 a1 a2 a3) := by
 intro a0 a1 a2 a3 k
 unfold msg_PutPrefix.f
 repeat' first
   | (with_reducible exact addr_Check.mono _ _ _ _ _)
   | (with_reducible exact LeO.refl _)
   | (with_reducible exact LeO.none _)
   | (with_reducible refine LeO.ite ?_ ?_)
   | (with_reducible refine LeO.bind ?_ (fun _ => ?_))
   | exact addr_Check.mono _ _ _ _ _
   | exact LeO.none _
   | refine LeO.ite ?_ ?_
   | refine LeO.bind ?_ (fun _ => ?_)
set_option maxHeartbeats 8000000 in
set_option maxRecDepth 100000 in
theorem msg_PutPrefix.calls (k : Nat) (a0_0 : Bool) (a0_1 : Int) (a0_2 : Int) (a0_3 : Int) (r1 : ByteArray) (r2 : Int) (w : World) (h : msg_PutPrefix.f k a0_0 a0_1 a0_2 a0_3 = some (r1, r2)) :
  Calls Try.prog 15 #[.agg #[.bool a0_0, .int .u64 a0_1, .int .u64 a0_2, .int .i64 a0_3]] w fun e w' => e = .returned (.tuple #[.string r1, .int .i64 r2]) ∧ Below w.heap.size w w' := by
 have hu27 := Try.underlying27
 have HB := Ax (Below.refl w.heap.size w)
 have H : ((addr_Check.f k a0_0 a0_1 a0_2 a0_3).bind fun t354 => (if t354 = 0 then ((msg_prefix.f ([] : List Int) a0_0 a0_1 a0_2 a0_3).bind fun t355 => (some (strOfNums t355, 0))) else (some ((⟨#[]⟩ : ByteArray), t354)))) = some (r1, r2) := h
 clear h
 replace H := Option.bind_eq_some_iff.mp H
 obtain ⟨t354, A20, H⟩ := H
 replace H : (if t354 = 0 then ((msg_prefix.f ([] : List Int) a0_0 a0_1 a0_2 a0_3).bind fun t355 => (some (strOfNums t355, 0))) else (some ((⟨#[]⟩ : ByteArray), t354))) = some (r1, r2) := H
 have A2 := Ax A20
 clear A20
 by_cases c3 : t354 = 0
 ·rw [if_pos c3] at H
  have c3b0 : (t354 == 0) = true := beq_iff_eq.mpr c3
  have c3b1 : (t354 != 0) = false := bne_eq_false_iff_eq.mpr c3
  clear c3
  replace H := Option.bind_eq_some_iff.mp H
  obtain ⟨t355, A40, H⟩ := H
  replace H : (some (strOfNums t355, 0)) = some (r1, r2) := H
  have A4 := Ax A40
  clear A40
  simp only [Option.some.injEq, Prod.mk.injEq] at H
  obtain ⟨rfl, rfl⟩ := H
  go_enter Try.func15, Try.ntmps15
  go_wp2_with (first | ((with_reducible refine gate_dst (N := 1) rfl ?_); refine box_event ?hg (N := 1) ?hd (cs := #[.bool a0_0, .int .u64 a0_1, .int .u64 a0_2, .int .i64 a0_3]) (t := 27) ?hr ?_; (case hd => rfl); (case hg => rfl); (case hr => first | (go_simp; done) | (go_simp; rfl)); intro gb353 hg w5 hbox hb; have n0_ := Bs0 HB hb; have n1_ := Ax (hbox); have n2_ := Gw0 HB hg; have n3_ := Gw0 HB hg; clear HB; have HB := n0_; have BK353 := n1_; have GW353 := n2_; have GE353 := n3_; clear n0_ n1_ n2_ n3_; clear hb hbox hg; obtain ⟨hcz6_0, hcz6_1, hcz6_2, hcz6_3, hfz6_0, hfz6_1, hfz6_2, hfz6_3⟩ := cl4 BK353) | ((with_reducible refine gate_callee (f := 34) rfl ?_); refine goesL_ (some 6) rfl rfl Try.func34 (by kernel_rfl) rfl #[.agg #[.bool a0_0, .int .u64 a0_1, .int .u64 a0_2, .int .i64 a0_3]] rfl gS ?_; (with_reducible refine (addr_Check.calls k a0_0 a0_1 a0_2 a0_3 t354 _ A2.out).mono ?_); rintro e w7 ⟨rfl, hb⟩; refine ⟨_, rfl, ?_⟩; replace BK353 := Bx0 BK353 hb; replace HB := Bs1 HB hb GE353.out; (try clear hb); obtain ⟨hcz8_0, hcz8_1, hcz8_2, hcz8_3, hfz8_0, hfz8_1, hfz8_2, hfz8_3⟩ := cl4 BK353) | ((with_reducible refine gate_callee (f := 25) rfl ?_); refine goesL_ (some 11) rfl rfl Try.func25 (by kernel_rfl) rfl #[.slice none 0 0, .agg #[.bool a0_0, .int .u64 a0_1, .int .u64 a0_2, .int .i64 a0_3]] rfl gS ?_; (refine (msg_prefix.calls (fun k_ => some k_ = (.slice none 0 0 : Value).ownBlock) (.slice none 0 0) ([] : List Int) a0_0 a0_1 a0_2 a0_3 t355 w _ ?side1 ?side2 A4.out).mono ?_); (case side1 => repeat (first | (with_reducible first | exact HB.out | apply below_alloc | apply pw_below_drewN | apply below_drew1 | refine below_set ?_ GE353.out) | exact HB.out)); (case side2 => exact Kd.R_nil _ _ _ _ _); rintro e w9 ⟨v356, rfl, ho0, hb, hkp⟩; refine ⟨_, rfl, ?_⟩; replace BK353 := Ax (blk_kept (bf0 BK353.out) hkp (fun hs_ => (fun e_ => by simp [Value.ownBlock] at e_) hs_)); have HO357 := Ax (Kd.R_mono (ok' := fun k_ => True) ho0 (fun k_ hk_ => trivial)); replace HB := Ax (hb); (try clear hb); (try clear hkp); (try clear ho0); have hcv10 := own_string (P := Try.prog) Try.underlying49 Try.underlying5 Try.underlying9 (Kd.own_of_R HO357.out)))
  go_ret2
  exact ⟨eS, bw1 HB.out GE353.out⟩
 ·rw [if_neg c3] at H
  have c3b0 : (t354 == 0) = false := beq_eq_false_iff_ne.mpr c3
  have c3b1 : (t354 != 0) = true := bne_iff_ne.mpr c3
  simp only [Option.some.injEq, Prod.mk.injEq] at H
  obtain ⟨rfl, rfl⟩ := H
  go_enter Try.func15, Try.ntmps15
  go_wp2_with (first | ((with_reducible refine gate_dst (N := 1) rfl ?_); refine box_event ?hg (N := 1) ?hd (cs := #[.bool a0_0, .int .u64 a0_1, .int .u64 a0_2, .int .i64 a0_3]) (t := 27) ?hr ?_; (case hd => rfl); (case hg => rfl); (case hr => first | (go_simp; done) | (go_simp; rfl)); intro gb353 hg w11 hbox hb; have n0_ := Bs0 HB hb; have n1_ := Ax (hbox); have n2_ := Gw0 HB hg; have n3_ := Gw0 HB hg; clear HB; have HB := n0_; have BK353 := n1_; have GW353 := n2_; have GE353 := n3_; clear n0_ n1_ n2_ n3_; clear hb hbox hg; obtain ⟨hcz12_0, hcz12_1, hcz12_2, hcz12_3, hfz12_0, hfz12_1, hfz12_2, hfz12_3⟩ := cl4 BK353) | ((with_reducible refine gate_callee (f := 34) rfl ?_); refine goesL_ (some 6) rfl rfl Try.func34 (by kernel_rfl) rfl #[.agg #[.bool a0_0, .int .u64 a0_1, .int .u64 a0_2, .int .i64 a0_3]] rfl gS ?_; (with_reducible refine (addr_Check.calls k a0_0 a0_1 a0_2 a0_3 t354 _ A2.out).mono ?_); rintro e w13 ⟨rfl, hb⟩; refine ⟨_, rfl, ?_⟩; replace BK353 := Bx0 BK353 hb; replace HB := Bs1 HB hb GE353.out; (try clear hb)))
  go_ret2
  exact ⟨eS, bw1 HB.out GE353.out⟩
def msg_PutAction.f (k : Nat) (a0_0 : Int) (a0_1 : Int) : Option (ByteArray × Int) := (msg_acts.f a0_0 a0_1).bind fun t359 => (if t359 = true then ((msg_action.f k ([] : List Int) a0_0 a0_1).bind fun t360 => (some (strOfNums t360, 0))) else (some ((⟨#[]⟩ : ByteArray), 2)))
theorem msg_PutAction.mono : ∀ a0 a1 k, LeO (msg_PutAction.f k a0 a1) (msg_PutAction.f (k + 1) a0 a1) := by
 intro a0 a1 k
 unfold msg_PutAction.f
 repeat' first
   | (with_reducible exact msg_action.mono _ _ _ _)
   | (with_reducible exact LeO.refl _)
   | (with_reducible exact LeO.none _)
   | (with_reducible refine LeO.ite ?_ ?_)
   | (with_reducible refine LeO.bind ?_ (fun _ => ?_))
   | exact msg_action.mono _ _ _ _
   | exact LeO.none _
   | refine LeO.ite ?_ ?_
   | refine LeO.bind ?_ (fun _ => ?_)
set_option maxHeartbeats 8000000 in
set_option maxRecDepth 100000 in
theorem msg_PutAction.calls (k : Nat) (a0_0 : Int) (a0_1 : Int) (r1 : ByteArray) (r2 : Int) (w : World) (h : msg_PutAction.f k a0_0 a0_1 = some (r1, r2)) :
  Calls Try.prog 19 #[.agg #[.int .u8 a0_0, .int .i64 a0_1]] w fun e w' => e = .returned (.tuple #[.string r1, .int .i64 r2]) ∧ Below w.heap.size w w' := by
 have hu30 := Try.underlying30
 have HB := Ax (Below.refl w.heap.size w)
 have H : ((msg_acts.f a0_0 a0_1).bind fun t359 => (if t359 = true then ((msg_action.f k ([] : List Int) a0_0 a0_1).bind fun t360 => (some (strOfNums t360, 0))) else (some ((⟨#[]⟩ : ByteArray), 2)))) = some (r1, r2) := h
 clear h
 replace H := Option.bind_eq_some_iff.mp H
 obtain ⟨t359, A20, H⟩ := H
 replace H : (if t359 = true then ((msg_action.f k ([] : List Int) a0_0 a0_1).bind fun t360 => (some (strOfNums t360, 0))) else (some ((⟨#[]⟩ : ByteArray), 2))) = some (r1, r2) := H
 have A2 := Ax A20
 clear A20
 by_cases c3 : t359 = true
 ·subst c3
  have H1 : ((msg_action.f k ([] : List Int) a0_0 a0_1).bind fun t360 => (some (strOfNums t360, 0))) = some (r1, r2) := by rw [if_pos rfl] at H; exact H
  clear H
  have H := H1
  clear H1
  replace H := Option.bind_eq_some_iff.mp H
  obtain ⟨t360, A40, H⟩ := H
  replace H : (some (strOfNums t360, 0)) = some (r1, r2) := H
  have A4 := Ax A40
  clear A40
  simp only [Option.some.injEq, Prod.mk.injEq] at H
  obtain ⟨rfl, rfl⟩ := H
  go_enter Try.func19, Try.ntmps19
  go_wp2_with (first | ((with_reducible refine gate_dst (N := 1) rfl ?_); refine box_event ?hg (N := 1) ?hd (cs := #[.int .u8 a0_0, .int .i64 a0_1]) (t := 30) ?hr ?_; (case hd => rfl); (case hg => rfl); (case hr => first | (go_simp; done) | (go_simp; rfl)); intro gb358 hg w5 hbox hb; have n0_ := Bs0 HB hb; have n1_ := Ax (hbox); have n2_ := Gw0 HB hg; have n3_ := Gw0 HB hg; clear HB; have HB := n0_; have BK358 := n1_; have GW358 := n2_; have GE358 := n3_; clear n0_ n1_ n2_ n3_; clear hb hbox hg; obtain ⟨hcz6_0, hcz6_1, hfz6_0, hfz6_1⟩ := cl2 BK358) | ((with_reducible refine gate_callee (f := 33) rfl ?_); refine goesL_ (some 5) rfl rfl Try.func33 (by kernel_rfl) rfl #[.agg #[.int .u8 a0_0, .int .i64 a0_1]] rfl gS ?_; (with_reducible refine (msg_acts.calls a0_0 a0_1 true _ A2.out).mono ?_); rintro e w7 ⟨rfl, hb⟩; refine ⟨_, rfl, ?_⟩; replace BK358 := Bx0 BK358 hb; replace HB := Bs1 HB hb GE358.out; (try clear hb); obtain ⟨hcz8_0, hcz8_1, hfz8_0, hfz8_1⟩ := cl2 BK358) | ((with_reducible refine gate_callee (f := 24) rfl ?_); refine goesL_ (some 8) rfl rfl Try.func24 (by kernel_rfl) rfl #[.slice none 0 0, .agg #[.int .u8 a0_0, .int .i64 a0_1]] rfl gS ?_; (refine (msg_action.calls k (fun k_ => some k_ = (.slice none 0 0 : Value).ownBlock) (.slice none 0 0) ([] : List Int) a0_0 a0_1 t360 w _ ?side1 ?side2 A4.out).mono ?_); (case side1 => repeat (first | (with_reducible first | exact HB.out | apply below_alloc | apply pw_below_drewN | apply below_drew1 | refine below_set ?_ GE358.out) | exact HB.out)); (case side2 => exact Kd.R_nil _ _ _ _ _); rintro e w9 ⟨v361, rfl, ho0, hb, hkp⟩; refine ⟨_, rfl, ?_⟩; replace BK358 := Ax (blk_kept (bf0 BK358.out) hkp (fun hs_ => (fun e_ => by simp [Value.ownBlock] at e_) hs_)); have HO362 := Ax (Kd.R_mono (ok' := fun k_ => True) ho0 (fun k_ hk_ => trivial)); replace HB := Ax (hb); (try clear hb); (try clear hkp); (try clear ho0); have hcv10 := own_string (P := Try.prog) Try.underlying49 Try.underlying5 Try.underlying9 (Kd.own_of_R HO362.out)))
  go_ret2
  exact ⟨eS, bw1 HB.out GE358.out⟩
 ·replace c3 := Bool.eq_false_iff.mpr c3
  subst c3
  have H1 : (some ((⟨#[]⟩ : ByteArray), 2)) = some (r1, r2) := by rw [if_neg (show ¬ (false = true) by decide)] at H; exact H
  clear H
  have H := H1
  clear H1
  simp only [Option.some.injEq, Prod.mk.injEq] at H
  obtain ⟨rfl, rfl⟩ := H
  go_enter Try.func19, Try.ntmps19
  go_wp2_with (first | ((with_reducible refine gate_dst (N := 1) rfl ?_); refine box_event ?hg (N := 1) ?hd (cs := #[.int .u8 a0_0, .int .i64 a0_1]) (t := 30) ?hr ?_; (case hd => rfl); (case hg => rfl); (case hr => first | (go_simp; done) | (go_simp; rfl)); intro gb358 hg w11 hbox hb; have n0_ := Bs0 HB hb; have n1_ := Ax (hbox); have n2_ := Gw0 HB hg; have n3_ := Gw0 HB hg; clear HB; have HB := n0_; have BK358 := n1_; have GW358 := n2_; have GE358 := n3_; clear n0_ n1_ n2_ n3_; clear hb hbox hg; obtain ⟨hcz12_0, hcz12_1, hfz12_0, hfz12_1⟩ := cl2 BK358) | ((with_reducible refine gate_callee (f := 33) rfl ?_); refine goesL_ (some 5) rfl rfl Try.func33 (by kernel_rfl) rfl #[.agg #[.int .u8 a0_0, .int .i64 a0_1]] rfl gS ?_; (with_reducible refine (msg_acts.calls a0_0 a0_1 false _ A2.out).mono ?_); rintro e w13 ⟨rfl, hb⟩; refine ⟨_, rfl, ?_⟩; replace BK358 := Bx0 BK358 hb; replace HB := Bs1 HB hb GE358.out; (try clear hb)))
  go_ret2
  exact ⟨eS, bw1 HB.out GE358.out⟩
def spoorlaw11_lives.f (k : Nat)  : Option (Bool) := (msg_Put.f k 1 1 1 5 false 0 0 0 0 0 0 0).bind fun bt364 => ((msg_Put.f k 3 1 2 300 false 0 167772160 8 1 7 0 0).bind fun bt367 => ((msg_Get.f k bt367.1).bind fun bt369 => (if bt367.1.size + 1 ≤ 9223372036854775807 then ((msg_Get.f k (bt367.1 ++ (⟨#[0]⟩ : ByteArray))).bind fun bt383 => ((msg_PutPrefix.f k false 0 167772160 8).bind fun bt397 => (if bt397.1.size + 1 ≤ 9223372036854775807 then ((msg_GetPrefix.f k (bt397.1 ++ (⟨#[122]⟩ : ByteArray))).bind fun bt399 => ((msg_PutAction.f k 2 0).bind fun bt406 => (if bt406.1.size + 1 ≤ 9223372036854775807 then ((msg_GetAction.f k (bt406.1 ++ (⟨#[122]⟩ : ByteArray))).bind fun bt408 => (if bt364.1.toList = ([1, 1, 1, 5] : List UInt8) then (if bt364.2 = 0 then (if bt367.1.toList = ([3, 1, 2, 172, 2, 4, 8, 10, 1, 7] : List UInt8) then (if bt367.2 = 0 then (if (!bt369.2.2.2.2.1 && ((bt369.2.2.2.2.2.1 == 0 && (bt369.2.2.2.2.2.2.1 == 167772160)) && (bt369.2.2.2.2.2.2.2.1 == 8))) = true then (if bt369.2.2.2.2.2.2.2.2.2.1 = 7 then (if bt369.2.2.2.2.2.2.2.2.2.2.2.2 = 0 then (if bt383.2.2.2.2.2.2.2.2.2.2.2.2 = 7 then (if bt397.1.toList = ([4, 8, 10] : List UInt8) then (if bt397.2 = 0 then (if (!bt399.1 && ((bt399.2.1 == 0 && (bt399.2.2.1 == 167772160)) && (bt399.2.2.2.1 == 8))) = true then (if bt399.2.2.2.2.1.toList = ([122] : List UInt8) then (if bt399.2.2.2.2.2 = 0 then (if bt406.1.toList = ([2] : List UInt8) then (if bt406.2 = 0 then (if bt408.1 = 2 then (if bt408.2.2.1.toList = ([122] : List UInt8) then (if bt408.2.2.2 = 0 then ((msg_Check.f k 3 1 2 300 false 0 167772160 8 1 7 1 0).bind fun t413 => (if t413 = 2 then ((msg_Check.f k bt369.1 bt369.2.1 bt369.2.2.1 bt369.2.2.2.1 bt369.2.2.2.2.1 bt369.2.2.2.2.2.1 bt369.2.2.2.2.2.2.1 bt369.2.2.2.2.2.2.2.1 bt369.2.2.2.2.2.2.2.2.1 bt369.2.2.2.2.2.2.2.2.2.1 bt369.2.2.2.2.2.2.2.2.2.2.1 bt369.2.2.2.2.2.2.2.2.2.2.2.1).bind fun t414 => (some (t414 == 0))) else (none))) else (none)) else (none)) else (none)) else (none)) else (none)) else (none)) else (none)) else (none)) else (none)) else (none)) else (none)) else (none)) else (none)) else (none)) else (none)) else (none)) else (none)) else (none))) else (none)))) else (none)))) else (none))))
theorem spoorlaw11_lives.mono : ∀ k, LeO (spoorlaw11_lives.f k ) (spoorlaw11_lives.f (k + 1) ) := by
 intro  k
 unfold spoorlaw11_lives.f
 repeat' first
   | (with_reducible exact msg_Check.mono _ _ _ _ _ _ _ _ _ _ _ _ _)
   | (with_reducible exact msg_Get.mono _ _)
   | (with_reducible exact msg_GetAction.mono _ _)
   | (with_reducible exact msg_GetPrefix.mono _ _)
   | (with_reducible exact msg_Put.mono _ _ _ _ _ _ _ _ _ _ _ _ _)
   | (with_reducible exact msg_PutAction.mono _ _ _)
   | (with_reducible exact msg_PutPrefix.mono _ _ _ _ _)
   | (with_reducible exact LeO.refl _)
   | (with_reducible exact LeO.none _)
   | (with_reducible refine LeO.ite ?_ ?_)
   | (with_reducible refine LeO.bind ?_ (fun _ => ?_))
   | exact msg_Check.mono _ _ _ _ _ _ _ _ _ _ _ _ _
   | exact msg_Get.mono _ _
   | exact msg_GetAction.mono _ _
   | exact msg_GetPrefix.mono _ _
   | exact msg_Put.mono _ _ _ _ _ _ _ _ _ _ _ _ _
   | exact msg_PutAction.mono _ _ _
   | exact msg_PutPrefix.mono _ _ _ _ _
   | exact LeO.none _
   | refine LeO.ite ?_ ?_
   | refine LeO.bind ?_ (fun _ => ?_)
set_option maxHeartbeats 8000000 in
set_option maxRecDepth 100000 in
theorem spoorlaw11_lives.calls (k : Nat)  (r : Bool) (w : World) (h : spoorlaw11_lives.f k  = some r) :
  Calls Try.prog 12 #[] w fun e w' => e = .returned (.bool r) ∧ Below w.heap.size w w' := by
 have hu25 := Try.underlying25
 have hu27 := Try.underlying27
 have hu32 := Try.underlying32
 have hu30 := Try.underlying30
 have HB := Ax (Below.refl w.heap.size w)
 have H : ((msg_Put.f k 1 1 1 5 false 0 0 0 0 0 0 0).bind fun bt364 => ((msg_Put.f k 3 1 2 300 false 0 167772160 8 1 7 0 0).bind fun bt367 => ((msg_Get.f k bt367.1).bind fun bt369 => (if bt367.1.size + 1 ≤ 9223372036854775807 then ((msg_Get.f k (bt367.1 ++ (⟨#[0]⟩ : ByteArray))).bind fun bt383 => ((msg_PutPrefix.f k false 0 167772160 8).bind fun bt397 => (if bt397.1.size + 1 ≤ 9223372036854775807 then ((msg_GetPrefix.f k (bt397.1 ++ (⟨#[122]⟩ : ByteArray))).bind fun bt399 => ((msg_PutAction.f k 2 0).bind fun bt406 => (if bt406.1.size + 1 ≤ 9223372036854775807 then ((msg_GetAction.f k (bt406.1 ++ (⟨#[122]⟩ : ByteArray))).bind fun bt408 => (if bt364.1.toList = ([1, 1, 1, 5] : List UInt8) then (if bt364.2 = 0 then (if bt367.1.toList = ([3, 1, 2, 172, 2, 4, 8, 10, 1, 7] : List UInt8) then (if bt367.2 = 0 then (if (!bt369.2.2.2.2.1 && ((bt369.2.2.2.2.2.1 == 0 && (bt369.2.2.2.2.2.2.1 == 167772160)) && (bt369.2.2.2.2.2.2.2.1 == 8))) = true then (if bt369.2.2.2.2.2.2.2.2.2.1 = 7 then (if bt369.2.2.2.2.2.2.2.2.2.2.2.2 = 0 then (if bt383.2.2.2.2.2.2.2.2.2.2.2.2 = 7 then (if bt397.1.toList = ([4, 8, 10] : List UInt8) then (if bt397.2 = 0 then (if (!bt399.1 && ((bt399.2.1 == 0 && (bt399.2.2.1 == 167772160)) && (bt399.2.2.2.1 == 8))) = true then (if bt399.2.2.2.2.1.toList = ([122] : List UInt8) then (if bt399.2.2.2.2.2 = 0 then (if bt406.1.toList = ([2] : List UInt8) then (if bt406.2 = 0 then (if bt408.1 = 2 then (if bt408.2.2.1.toList = ([122] : List UInt8) then (if bt408.2.2.2 = 0 then ((msg_Check.f k 3 1 2 300 false 0 167772160 8 1 7 1 0).bind fun t413 => (if t413 = 2 then ((msg_Check.f k bt369.1 bt369.2.1 bt369.2.2.1 bt369.2.2.2.1 bt369.2.2.2.2.1 bt369.2.2.2.2.2.1 bt369.2.2.2.2.2.2.1 bt369.2.2.2.2.2.2.2.1 bt369.2.2.2.2.2.2.2.2.1 bt369.2.2.2.2.2.2.2.2.2.1 bt369.2.2.2.2.2.2.2.2.2.2.1 bt369.2.2.2.2.2.2.2.2.2.2.2.1).bind fun t414 => (some (t414 == 0))) else (none))) else (none)) else (none)) else (none)) else (none)) else (none)) else (none)) else (none)) else (none)) else (none)) else (none)) else (none)) else (none)) else (none)) else (none)) else (none)) else (none)) else (none)) else (none))) else (none)))) else (none)))) else (none))))) = some r := h
 clear h
 replace H := Option.bind_eq_some_iff.mp H
 obtain ⟨⟨t364, t365⟩, A10, H⟩ := H
 replace H : ((msg_Put.f k 3 1 2 300 false 0 167772160 8 1 7 0 0).bind fun bt367 => ((msg_Get.f k bt367.1).bind fun bt369 => (if bt367.1.size + 1 ≤ 9223372036854775807 then ((msg_Get.f k (bt367.1 ++ (⟨#[0]⟩ : ByteArray))).bind fun bt383 => ((msg_PutPrefix.f k false 0 167772160 8).bind fun bt397 => (if bt397.1.size + 1 ≤ 9223372036854775807 then ((msg_GetPrefix.f k (bt397.1 ++ (⟨#[122]⟩ : ByteArray))).bind fun bt399 => ((msg_PutAction.f k 2 0).bind fun bt406 => (if bt406.1.size + 1 ≤ 9223372036854775807 then ((msg_GetAction.f k (bt406.1 ++ (⟨#[122]⟩ : ByteArray))).bind fun bt408 => (if t364.toList = ([1, 1, 1, 5] : List UInt8) then (if t365 = 0 then (if bt367.1.toList = ([3, 1, 2, 172, 2, 4, 8, 10, 1, 7] : List UInt8) then (if bt367.2 = 0 then (if (!bt369.2.2.2.2.1 && ((bt369.2.2.2.2.2.1 == 0 && (bt369.2.2.2.2.2.2.1 == 167772160)) && (bt369.2.2.2.2.2.2.2.1 == 8))) = true then (if bt369.2.2.2.2.2.2.2.2.2.1 = 7 then (if bt369.2.2.2.2.2.2.2.2.2.2.2.2 = 0 then (if bt383.2.2.2.2.2.2.2.2.2.2.2.2 = 7 then (if bt397.1.toList = ([4, 8, 10] : List UInt8) then (if bt397.2 = 0 then (if (!bt399.1 && ((bt399.2.1 == 0 && (bt399.2.2.1 == 167772160)) && (bt399.2.2.2.1 == 8))) = true then (if bt399.2.2.2.2.1.toList = ([122] : List UInt8) then (if bt399.2.2.2.2.2 = 0 then (if bt406.1.toList = ([2] : List UInt8) then (if bt406.2 = 0 then (if bt408.1 = 2 then (if bt408.2.2.1.toList = ([122] : List UInt8) then (if bt408.2.2.2 = 0 then ((msg_Check.f k 3 1 2 300 false 0 167772160 8 1 7 1 0).bind fun t413 => (if t413 = 2 then ((msg_Check.f k bt369.1 bt369.2.1 bt369.2.2.1 bt369.2.2.2.1 bt369.2.2.2.2.1 bt369.2.2.2.2.2.1 bt369.2.2.2.2.2.2.1 bt369.2.2.2.2.2.2.2.1 bt369.2.2.2.2.2.2.2.2.1 bt369.2.2.2.2.2.2.2.2.2.1 bt369.2.2.2.2.2.2.2.2.2.2.1 bt369.2.2.2.2.2.2.2.2.2.2.2.1).bind fun t414 => (some (t414 == 0))) else (none))) else (none)) else (none)) else (none)) else (none)) else (none)) else (none)) else (none)) else (none)) else (none)) else (none)) else (none)) else (none)) else (none)) else (none)) else (none)) else (none)) else (none)) else (none))) else (none)))) else (none)))) else (none)))) = some r := H
 have A1 := Ax A10
 clear A10
 replace H := Option.bind_eq_some_iff.mp H
 obtain ⟨⟨t367, t368⟩, A20, H⟩ := H
 replace H : ((msg_Get.f k t367).bind fun bt369 => (if t367.size + 1 ≤ 9223372036854775807 then ((msg_Get.f k (t367 ++ (⟨#[0]⟩ : ByteArray))).bind fun bt383 => ((msg_PutPrefix.f k false 0 167772160 8).bind fun bt397 => (if bt397.1.size + 1 ≤ 9223372036854775807 then ((msg_GetPrefix.f k (bt397.1 ++ (⟨#[122]⟩ : ByteArray))).bind fun bt399 => ((msg_PutAction.f k 2 0).bind fun bt406 => (if bt406.1.size + 1 ≤ 9223372036854775807 then ((msg_GetAction.f k (bt406.1 ++ (⟨#[122]⟩ : ByteArray))).bind fun bt408 => (if t364.toList = ([1, 1, 1, 5] : List UInt8) then (if t365 = 0 then (if t367.toList = ([3, 1, 2, 172, 2, 4, 8, 10, 1, 7] : List UInt8) then (if t368 = 0 then (if (!bt369.2.2.2.2.1 && ((bt369.2.2.2.2.2.1 == 0 && (bt369.2.2.2.2.2.2.1 == 167772160)) && (bt369.2.2.2.2.2.2.2.1 == 8))) = true then (if bt369.2.2.2.2.2.2.2.2.2.1 = 7 then (if bt369.2.2.2.2.2.2.2.2.2.2.2.2 = 0 then (if bt383.2.2.2.2.2.2.2.2.2.2.2.2 = 7 then (if bt397.1.toList = ([4, 8, 10] : List UInt8) then (if bt397.2 = 0 then (if (!bt399.1 && ((bt399.2.1 == 0 && (bt399.2.2.1 == 167772160)) && (bt399.2.2.2.1 == 8))) = true then (if bt399.2.2.2.2.1.toList = ([122] : List UInt8) then (if bt399.2.2.2.2.2 = 0 then (if bt406.1.toList = ([2] : List UInt8) then (if bt406.2 = 0 then (if bt408.1 = 2 then (if bt408.2.2.1.toList = ([122] : List UInt8) then (if bt408.2.2.2 = 0 then ((msg_Check.f k 3 1 2 300 false 0 167772160 8 1 7 1 0).bind fun t413 => (if t413 = 2 then ((msg_Check.f k bt369.1 bt369.2.1 bt369.2.2.1 bt369.2.2.2.1 bt369.2.2.2.2.1 bt369.2.2.2.2.2.1 bt369.2.2.2.2.2.2.1 bt369.2.2.2.2.2.2.2.1 bt369.2.2.2.2.2.2.2.2.1 bt369.2.2.2.2.2.2.2.2.2.1 bt369.2.2.2.2.2.2.2.2.2.2.1 bt369.2.2.2.2.2.2.2.2.2.2.2.1).bind fun t414 => (some (t414 == 0))) else (none))) else (none)) else (none)) else (none)) else (none)) else (none)) else (none)) else (none)) else (none)) else (none)) else (none)) else (none)) else (none)) else (none)) else (none)) else (none)) else (none)) else (none)) else (none))) else (none)))) else (none)))) else (none))) = some r := H
 have A2 := Ax A20
 clear A20
 replace H := Option.bind_eq_some_iff.mp H
 obtain ⟨⟨t369, t370, t371, t372, t373, t374, t375, t376, t377, t378, t379, t380, t381⟩, A30, H⟩ := H
 replace H : (if t367.size + 1 ≤ 9223372036854775807 then ((msg_Get.f k (t367 ++ (⟨#[0]⟩ : ByteArray))).bind fun bt383 => ((msg_PutPrefix.f k false 0 167772160 8).bind fun bt397 => (if bt397.1.size + 1 ≤ 9223372036854775807 then ((msg_GetPrefix.f k (bt397.1 ++ (⟨#[122]⟩ : ByteArray))).bind fun bt399 => ((msg_PutAction.f k 2 0).bind fun bt406 => (if bt406.1.size + 1 ≤ 9223372036854775807 then ((msg_GetAction.f k (bt406.1 ++ (⟨#[122]⟩ : ByteArray))).bind fun bt408 => (if t364.toList = ([1, 1, 1, 5] : List UInt8) then (if t365 = 0 then (if t367.toList = ([3, 1, 2, 172, 2, 4, 8, 10, 1, 7] : List UInt8) then (if t368 = 0 then (if (!t373 && ((t374 == 0 && (t375 == 167772160)) && (t376 == 8))) = true then (if t378 = 7 then (if t381 = 0 then (if bt383.2.2.2.2.2.2.2.2.2.2.2.2 = 7 then (if bt397.1.toList = ([4, 8, 10] : List UInt8) then (if bt397.2 = 0 then (if (!bt399.1 && ((bt399.2.1 == 0 && (bt399.2.2.1 == 167772160)) && (bt399.2.2.2.1 == 8))) = true then (if bt399.2.2.2.2.1.toList = ([122] : List UInt8) then (if bt399.2.2.2.2.2 = 0 then (if bt406.1.toList = ([2] : List UInt8) then (if bt406.2 = 0 then (if bt408.1 = 2 then (if bt408.2.2.1.toList = ([122] : List UInt8) then (if bt408.2.2.2 = 0 then ((msg_Check.f k 3 1 2 300 false 0 167772160 8 1 7 1 0).bind fun t413 => (if t413 = 2 then ((msg_Check.f k t369 t370 t371 t372 t373 t374 t375 t376 t377 t378 t379 t380).bind fun t414 => (some (t414 == 0))) else (none))) else (none)) else (none)) else (none)) else (none)) else (none)) else (none)) else (none)) else (none)) else (none)) else (none)) else (none)) else (none)) else (none)) else (none)) else (none)) else (none)) else (none)) else (none))) else (none)))) else (none)))) else (none)) = some r := H
 have A3 := Ax A30
 clear A30
 by_cases c4 : t367.size + 1 ≤ 9223372036854775807
 ·rw [if_pos c4] at H
  have c4b0 := eq_true c4
  have c4b1 : decide (t367.size + 1 ≤ 9223372036854775807) = true := decide_eq_true c4
  try have c4b2 : (9223372036854775807 < t367.size + 1) = False := eq_false (Nat.not_lt.2 c4)
  replace H := Option.bind_eq_some_iff.mp H
  obtain ⟨⟨t383, t384, t385, t386, t387, t388, t389, t390, t391, t392, t393, t394, t395⟩, A50, H⟩ := H
  replace H : ((msg_PutPrefix.f k false 0 167772160 8).bind fun bt397 => (if bt397.1.size + 1 ≤ 9223372036854775807 then ((msg_GetPrefix.f k (bt397.1 ++ (⟨#[122]⟩ : ByteArray))).bind fun bt399 => ((msg_PutAction.f k 2 0).bind fun bt406 => (if bt406.1.size + 1 ≤ 9223372036854775807 then ((msg_GetAction.f k (bt406.1 ++ (⟨#[122]⟩ : ByteArray))).bind fun bt408 => (if t364.toList = ([1, 1, 1, 5] : List UInt8) then (if t365 = 0 then (if t367.toList = ([3, 1, 2, 172, 2, 4, 8, 10, 1, 7] : List UInt8) then (if t368 = 0 then (if (!t373 && ((t374 == 0 && (t375 == 167772160)) && (t376 == 8))) = true then (if t378 = 7 then (if t381 = 0 then (if t395 = 7 then (if bt397.1.toList = ([4, 8, 10] : List UInt8) then (if bt397.2 = 0 then (if (!bt399.1 && ((bt399.2.1 == 0 && (bt399.2.2.1 == 167772160)) && (bt399.2.2.2.1 == 8))) = true then (if bt399.2.2.2.2.1.toList = ([122] : List UInt8) then (if bt399.2.2.2.2.2 = 0 then (if bt406.1.toList = ([2] : List UInt8) then (if bt406.2 = 0 then (if bt408.1 = 2 then (if bt408.2.2.1.toList = ([122] : List UInt8) then (if bt408.2.2.2 = 0 then ((msg_Check.f k 3 1 2 300 false 0 167772160 8 1 7 1 0).bind fun t413 => (if t413 = 2 then ((msg_Check.f k t369 t370 t371 t372 t373 t374 t375 t376 t377 t378 t379 t380).bind fun t414 => (some (t414 == 0))) else (none))) else (none)) else (none)) else (none)) else (none)) else (none)) else (none)) else (none)) else (none)) else (none)) else (none)) else (none)) else (none)) else (none)) else (none)) else (none)) else (none)) else (none)) else (none))) else (none)))) else (none))) = some r := H
  have A5 := Ax A50
  clear A50
  replace H := Option.bind_eq_some_iff.mp H
  obtain ⟨⟨t397, t398⟩, A60, H⟩ := H
  replace H : (if t397.size + 1 ≤ 9223372036854775807 then ((msg_GetPrefix.f k (t397 ++ (⟨#[122]⟩ : ByteArray))).bind fun bt399 => ((msg_PutAction.f k 2 0).bind fun bt406 => (if bt406.1.size + 1 ≤ 9223372036854775807 then ((msg_GetAction.f k (bt406.1 ++ (⟨#[122]⟩ : ByteArray))).bind fun bt408 => (if t364.toList = ([1, 1, 1, 5] : List UInt8) then (if t365 = 0 then (if t367.toList = ([3, 1, 2, 172, 2, 4, 8, 10, 1, 7] : List UInt8) then (if t368 = 0 then (if (!t373 && ((t374 == 0 && (t375 == 167772160)) && (t376 == 8))) = true then (if t378 = 7 then (if t381 = 0 then (if t395 = 7 then (if t397.toList = ([4, 8, 10] : List UInt8) then (if t398 = 0 then (if (!bt399.1 && ((bt399.2.1 == 0 && (bt399.2.2.1 == 167772160)) && (bt399.2.2.2.1 == 8))) = true then (if bt399.2.2.2.2.1.toList = ([122] : List UInt8) then (if bt399.2.2.2.2.2 = 0 then (if bt406.1.toList = ([2] : List UInt8) then (if bt406.2 = 0 then (if bt408.1 = 2 then (if bt408.2.2.1.toList = ([122] : List UInt8) then (if bt408.2.2.2 = 0 then ((msg_Check.f k 3 1 2 300 false 0 167772160 8 1 7 1 0).bind fun t413 => (if t413 = 2 then ((msg_Check.f k t369 t370 t371 t372 t373 t374 t375 t376 t377 t378 t379 t380).bind fun t414 => (some (t414 == 0))) else (none))) else (none)) else (none)) else (none)) else (none)) else (none)) else (none)) else (none)) else (none)) else (none)) else (none)) else (none)) else (none)) else (none)) else (none)) else (none)) else (none)) else (none)) else (none))) else (none)))) else (none)) = some r := H
  have A6 := Ax A60
  clear A60
  by_cases c7 : t397.size + 1 ≤ 9223372036854775807
  ·rw [if_pos c7] at H
   have c7b0 := eq_true c7
   have c7b1 : decide (t397.size + 1 ≤ 9223372036854775807) = true := decide_eq_true c7
   try have c7b2 : (9223372036854775807 < t397.size + 1) = False := eq_false (Nat.not_lt.2 c7)
   replace H := Option.bind_eq_some_iff.mp H
   obtain ⟨⟨t399, t400, t401, t402, t403, t404⟩, A80, H⟩ := H
   replace H : ((msg_PutAction.f k 2 0).bind fun bt406 => (if bt406.1.size + 1 ≤ 9223372036854775807 then ((msg_GetAction.f k (bt406.1 ++ (⟨#[122]⟩ : ByteArray))).bind fun bt408 => (if t364.toList = ([1, 1, 1, 5] : List UInt8) then (if t365 = 0 then (if t367.toList = ([3, 1, 2, 172, 2, 4, 8, 10, 1, 7] : List UInt8) then (if t368 = 0 then (if (!t373 && ((t374 == 0 && (t375 == 167772160)) && (t376 == 8))) = true then (if t378 = 7 then (if t381 = 0 then (if t395 = 7 then (if t397.toList = ([4, 8, 10] : List UInt8) then (if t398 = 0 then (if (!t399 && ((t400 == 0 && (t401 == 167772160)) && (t402 == 8))) = true then (if t403.toList = ([122] : List UInt8) then (if t404 = 0 then (if bt406.1.toList = ([2] : List UInt8) then (if bt406.2 = 0 then (if bt408.1 = 2 then (if bt408.2.2.1.toList = ([122] : List UInt8) then (if bt408.2.2.2 = 0 then ((msg_Check.f k 3 1 2 300 false 0 167772160 8 1 7 1 0).bind fun t413 => (if t413 = 2 then ((msg_Check.f k t369 t370 t371 t372 t373 t374 t375 t376 t377 t378 t379 t380).bind fun t414 => (some (t414 == 0))) else (none))) else (none)) else (none)) else (none)) else (none)) else (none)) else (none)) else (none)) else (none)) else (none)) else (none)) else (none)) else (none)) else (none)) else (none)) else (none)) else (none)) else (none)) else (none))) else (none))) = some r := H
   have A8 := Ax A80
   clear A80
   replace H := Option.bind_eq_some_iff.mp H
   obtain ⟨⟨t406, t407⟩, A90, H⟩ := H
   replace H : (if t406.size + 1 ≤ 9223372036854775807 then ((msg_GetAction.f k (t406 ++ (⟨#[122]⟩ : ByteArray))).bind fun bt408 => (if t364.toList = ([1, 1, 1, 5] : List UInt8) then (if t365 = 0 then (if t367.toList = ([3, 1, 2, 172, 2, 4, 8, 10, 1, 7] : List UInt8) then (if t368 = 0 then (if (!t373 && ((t374 == 0 && (t375 == 167772160)) && (t376 == 8))) = true then (if t378 = 7 then (if t381 = 0 then (if t395 = 7 then (if t397.toList = ([4, 8, 10] : List UInt8) then (if t398 = 0 then (if (!t399 && ((t400 == 0 && (t401 == 167772160)) && (t402 == 8))) = true then (if t403.toList = ([122] : List UInt8) then (if t404 = 0 then (if t406.toList = ([2] : List UInt8) then (if t407 = 0 then (if bt408.1 = 2 then (if bt408.2.2.1.toList = ([122] : List UInt8) then (if bt408.2.2.2 = 0 then ((msg_Check.f k 3 1 2 300 false 0 167772160 8 1 7 1 0).bind fun t413 => (if t413 = 2 then ((msg_Check.f k t369 t370 t371 t372 t373 t374 t375 t376 t377 t378 t379 t380).bind fun t414 => (some (t414 == 0))) else (none))) else (none)) else (none)) else (none)) else (none)) else (none)) else (none)) else (none)) else (none)) else (none)) else (none)) else (none)) else (none)) else (none)) else (none)) else (none)) else (none)) else (none)) else (none))) else (none)) = some r := H
   have A9 := Ax A90
   clear A90
   by_cases c10 : t406.size + 1 ≤ 9223372036854775807
   ·rw [if_pos c10] at H
    have c10b0 := eq_true c10
    have c10b1 : decide (t406.size + 1 ≤ 9223372036854775807) = true := decide_eq_true c10
    try have c10b2 : (9223372036854775807 < t406.size + 1) = False := eq_false (Nat.not_lt.2 c10)
    replace H := Option.bind_eq_some_iff.mp H
    obtain ⟨⟨t408, t409, t410, t411⟩, A110, H⟩ := H
    replace H : (if t364.toList = ([1, 1, 1, 5] : List UInt8) then (if t365 = 0 then (if t367.toList = ([3, 1, 2, 172, 2, 4, 8, 10, 1, 7] : List UInt8) then (if t368 = 0 then (if (!t373 && ((t374 == 0 && (t375 == 167772160)) && (t376 == 8))) = true then (if t378 = 7 then (if t381 = 0 then (if t395 = 7 then (if t397.toList = ([4, 8, 10] : List UInt8) then (if t398 = 0 then (if (!t399 && ((t400 == 0 && (t401 == 167772160)) && (t402 == 8))) = true then (if t403.toList = ([122] : List UInt8) then (if t404 = 0 then (if t406.toList = ([2] : List UInt8) then (if t407 = 0 then (if t408 = 2 then (if t410.toList = ([122] : List UInt8) then (if t411 = 0 then ((msg_Check.f k 3 1 2 300 false 0 167772160 8 1 7 1 0).bind fun t413 => (if t413 = 2 then ((msg_Check.f k t369 t370 t371 t372 t373 t374 t375 t376 t377 t378 t379 t380).bind fun t414 => (some (t414 == 0))) else (none))) else (none)) else (none)) else (none)) else (none)) else (none)) else (none)) else (none)) else (none)) else (none)) else (none)) else (none)) else (none)) else (none)) else (none)) else (none)) else (none)) else (none)) else (none)) = some r := H
    have A11 := Ax A110
    clear A110
    by_cases c12 : t364.toList = ([1, 1, 1, 5] : List UInt8)
    ·rw [if_pos c12] at H
     have c12b0 : (t364.toList == ([1, 1, 1, 5] : List UInt8)) = true := beq_iff_eq.mpr c12
     have c12b1 : (t364.toList != ([1, 1, 1, 5] : List UInt8)) = false := bne_eq_false_iff_eq.mpr c12
     clear c12
     by_cases c13 : t365 = 0
     ·rw [if_pos c13] at H
      have c13b0 : (t365 == 0) = true := beq_iff_eq.mpr c13
      have c13b1 : (t365 != 0) = false := bne_eq_false_iff_eq.mpr c13
      clear c13
      by_cases c14 : t367.toList = ([3, 1, 2, 172, 2, 4, 8, 10, 1, 7] : List UInt8)
      ·rw [if_pos c14] at H
       have c14b0 : (t367.toList == ([3, 1, 2, 172, 2, 4, 8, 10, 1, 7] : List UInt8)) = true := beq_iff_eq.mpr c14
       have c14b1 : (t367.toList != ([3, 1, 2, 172, 2, 4, 8, 10, 1, 7] : List UInt8)) = false := bne_eq_false_iff_eq.mpr c14
       clear c14
       by_cases c15 : t368 = 0
       ·rw [if_pos c15] at H
        have c15b0 : (t368 == 0) = true := beq_iff_eq.mpr c15
        have c15b1 : (t368 != 0) = false := bne_eq_false_iff_eq.mpr c15
        clear c15
        by_cases c16 : (!t373 && ((t374 == 0 && (t375 == 167772160)) && (t376 == 8))) = true
        ·rw [if_pos c16] at H
         have c16b0 : (!t373 && ((t374 == 0 && (t375 == 167772160)) && (t376 == 8))) = true := c16
         clear c16
         by_cases c17 : t378 = 7
         ·rw [if_pos c17] at H
          have c17b0 : (t378 == 7) = true := beq_iff_eq.mpr c17
          have c17b1 : (t378 != 7) = false := bne_eq_false_iff_eq.mpr c17
          clear c17
          by_cases c18 : t381 = 0
          ·rw [if_pos c18] at H
           have c18b0 : (t381 == 0) = true := beq_iff_eq.mpr c18
           have c18b1 : (t381 != 0) = false := bne_eq_false_iff_eq.mpr c18
           clear c18
           by_cases c19 : t395 = 7
           ·rw [if_pos c19] at H
            have c19b0 : (t395 == 7) = true := beq_iff_eq.mpr c19
            have c19b1 : (t395 != 7) = false := bne_eq_false_iff_eq.mpr c19
            clear c19
            by_cases c20 : t397.toList = ([4, 8, 10] : List UInt8)
            ·rw [if_pos c20] at H
             have c20b0 : (t397.toList == ([4, 8, 10] : List UInt8)) = true := beq_iff_eq.mpr c20
             have c20b1 : (t397.toList != ([4, 8, 10] : List UInt8)) = false := bne_eq_false_iff_eq.mpr c20
             clear c20
             by_cases c21 : t398 = 0
             ·rw [if_pos c21] at H
              have c21b0 : (t398 == 0) = true := beq_iff_eq.mpr c21
              have c21b1 : (t398 != 0) = false := bne_eq_false_iff_eq.mpr c21
              clear c21
              by_cases c22 : (!t399 && ((t400 == 0 && (t401 == 167772160)) && (t402 == 8))) = true
              ·rw [if_pos c22] at H
               have c22b0 : (!t399 && ((t400 == 0 && (t401 == 167772160)) && (t402 == 8))) = true := c22
               clear c22
               by_cases c23 : t403.toList = ([122] : List UInt8)
               ·rw [if_pos c23] at H
                have c23b0 : (t403.toList == ([122] : List UInt8)) = true := beq_iff_eq.mpr c23
                have c23b1 : (t403.toList != ([122] : List UInt8)) = false := bne_eq_false_iff_eq.mpr c23
                clear c23
                by_cases c24 : t404 = 0
                ·rw [if_pos c24] at H
                 have c24b0 : (t404 == 0) = true := beq_iff_eq.mpr c24
                 have c24b1 : (t404 != 0) = false := bne_eq_false_iff_eq.mpr c24
                 clear c24
                 by_cases c25 : t406.toList = ([2] : List UInt8)
                 ·rw [if_pos c25] at H
                  have c25b0 : (t406.toList == ([2] : List UInt8)) = true := beq_iff_eq.mpr c25
                  have c25b1 : (t406.toList != ([2] : List UInt8)) = false := bne_eq_false_iff_eq.mpr c25
                  clear c25
                  by_cases c26 : t407 = 0
                  ·rw [if_pos c26] at H
                   have c26b0 : (t407 == 0) = true := beq_iff_eq.mpr c26
                   have c26b1 : (t407 != 0) = false := bne_eq_false_iff_eq.mpr c26
                   clear c26
                   by_cases c27 : t408 = 2
                   ·rw [if_pos c27] at H
                    have c27b0 : (t408 == 2) = true := beq_iff_eq.mpr c27
                    have c27b1 : (t408 != 2) = false := bne_eq_false_iff_eq.mpr c27
                    clear c27
                    by_cases c28 : t410.toList = ([122] : List UInt8)
                    ·rw [if_pos c28] at H
                     have c28b0 : (t410.toList == ([122] : List UInt8)) = true := beq_iff_eq.mpr c28
                     have c28b1 : (t410.toList != ([122] : List UInt8)) = false := bne_eq_false_iff_eq.mpr c28
                     clear c28
                     by_cases c29 : t411 = 0
                     ·rw [if_pos c29] at H
                      have c29b0 : (t411 == 0) = true := beq_iff_eq.mpr c29
                      have c29b1 : (t411 != 0) = false := bne_eq_false_iff_eq.mpr c29
                      clear c29
                      replace H := Option.bind_eq_some_iff.mp H
                      obtain ⟨t413, A300, H⟩ := H
                      replace H : (if t413 = 2 then ((msg_Check.f k t369 t370 t371 t372 t373 t374 t375 t376 t377 t378 t379 t380).bind fun t414 => (some (t414 == 0))) else (none)) = some r := H
                      have A30 := Ax A300
                      clear A300
                      by_cases c31 : t413 = 2
                      ·rw [if_pos c31] at H
                       have c31b0 : (t413 == 2) = true := beq_iff_eq.mpr c31
                       have c31b1 : (t413 != 2) = false := bne_eq_false_iff_eq.mpr c31
                       clear c31
                       replace H := Option.bind_eq_some_iff.mp H
                       obtain ⟨t414, A320, H⟩ := H
                       replace H : (some (t414 == 0)) = some r := H
                       have A32 := Ax A320
                       clear A320
                       obtain rfl := Option.some.inj H
                       go_enter Try.func12, Try.ntmps12
                       go_wp2_with (first | ((with_reducible refine gate_dst (N := 1) rfl ?_); refine box_event ?hg (N := 1) ?hd (cs := #[.bool false, .int .u64 0, .int .u64 0, .int .i64 0]) (t := 27) ?hr ?_; (case hd => rfl); (case hg => rfl); (case hr => first | (go_simp; done) | (go_simp; rfl)); intro gb363 hg w33 hbox hb; have n0_ := Bs0 HB hb; have n1_ := Ax (hbox); have n2_ := Gw0 HB hg; have n3_ := Gw0 HB hg; clear HB; have HB := n0_; have BK363 := n1_; have GW363 := n2_; have GE363 := n3_; clear n0_ n1_ n2_ n3_; clear hb hbox hg; obtain ⟨hcz34_0, hcz34_1, hcz34_2, hcz34_3, hfz34_0, hfz34_1, hfz34_2, hfz34_3⟩ := cl4 BK363) | ((with_reducible refine gate_callee (f := 8) rfl ?_); refine goesL_ (some 25) rfl rfl Try.func8 (by kernel_rfl) rfl #[.agg #[.int .u8 1, .int .i64 1, .int .u64 1, .int .i64 5, .bool false, .int .u64 0, .int .u64 0, .int .i64 0, .int .u8 0, .int .i64 0, .int .i64 0, .int .i64 0]] rfl gS ?_; (with_reducible refine (msg_Put.calls k 1 1 1 5 false 0 0 0 0 0 0 0 t364 t365 _ A1.out).mono ?_); rintro e w35 ⟨rfl, hb⟩; refine ⟨_, rfl, ?_⟩; have n0_ := Ax (blk_below (g := gb363) (o := .cells #[.bool false, .int .u64 0, .int .u64 167772160, .int .i64 8] 27 (0, 0)) (by (with_reducible repeat (first | refine blk_drewN ?_ _ | refine blk_drew ?_ | refine blk_alloc ?_ _)); refine blk_put (cs := #[.bool false, .int .u64 0, .int .u64 167772160, .int .i64 0]) ?_ 3 _ rfl; (with_reducible repeat (first | refine blk_drewN ?_ _ | refine blk_drew ?_ | refine blk_alloc ?_ _)); refine blk_put (cs := #[.bool false, .int .u64 0, .int .u64 0, .int .i64 0]) ?_ 2 _ rfl; (with_reducible repeat (first | refine blk_drewN ?_ _ | refine blk_drew ?_ | refine blk_alloc ?_ _)); refine blk_put (cs := #[.bool false, .int .u64 0, .int .u64 0, .int .i64 0]) ?_ 1 _ rfl; (with_reducible repeat (first | refine blk_drewN ?_ _ | refine blk_drew ?_ | refine blk_alloc ?_ _)); refine blk_put (cs := #[.bool false, .int .u64 0, .int .u64 0, .int .i64 0]) ?_ 0 _ rfl; (with_reducible repeat (first | refine blk_drewN ?_ _ | refine blk_drew ?_ | refine blk_alloc ?_ _)); exact BK363.out) hb); have n1_ := Bs1 HB hb GE363.out; clear BK363; clear HB; have BK363 := n0_; have HB := n1_; clear n0_ n1_; (try clear hb); obtain ⟨hcz36_0, hcz36_1, hcz36_2, hcz36_3, hfz36_0, hfz36_1, hfz36_2, hfz36_3⟩ := cl4 BK363) | ((with_reducible refine gate_dst (N := 4) rfl ?_); refine box_event ?hg (N := 4) ?hd (cs := #[.int .u8 0, .int .i64 0, .int .u64 0, .int .i64 0, .bool false, .int .u64 0, .int .u64 0, .int .i64 0, .int .u8 0, .int .i64 0, .int .i64 0, .int .i64 0]) (t := 32) ?hr ?_; (case hd => rfl); (case hg => rfl); (case hr => first | (go_simp; done) | (go_simp; rfl)); intro gb366 hg w37 hbox hb; have n0_ := Bx0 BK363 hb; have n1_ := Bs1 HB hb GE363.out; have n2_ := Ax (hbox); have n3_ := Gw1 HB hg GE363.out; have n4_ := Gw1 HB hg GE363.out; have n5_ := Nl0 BK363 hg; have n6_ := Nr0 BK363 hg; clear BK363; clear HB; have BK363 := n0_; have HB := n1_; have BK366 := n2_; have GW366 := n3_; have GE366 := n4_; have NB363_366 := n5_; have NB366_363 := n6_; clear n0_ n1_ n2_ n3_ n4_ n5_ n6_; clear hb hbox hg; have hnb38 := NB366_363.out; have hnc38 := NB363_366.out; obtain ⟨hcz39_0, hcz39_1, hcz39_2, hcz39_3, hcz39_4, hcz39_5, hcz39_6, hcz39_7, hcz39_8, hcz39_9, hcz39_10, hcz39_11, hfz39_0, hfz39_1, hfz39_2, hfz39_3, hfz39_4, hfz39_5, hfz39_6, hfz39_7, hfz39_8, hfz39_9, hfz39_10, hfz39_11⟩ := cl12 BK366) | ((with_reducible refine gate_callee (f := 8) rfl ?_); refine goesL_ (some 33) rfl rfl Try.func8 (by kernel_rfl) rfl #[.agg #[.int .u8 3, .int .i64 1, .int .u64 2, .int .i64 300, .bool false, .int .u64 0, .int .u64 167772160, .int .i64 8, .int .u8 1, .int .i64 7, .int .i64 0, .int .i64 0]] rfl gS ?_; (with_reducible refine (msg_Put.calls k 3 1 2 300 false 0 167772160 8 1 7 0 0 t367 t368 _ A2.out).mono ?_); rintro e w40 ⟨rfl, hb⟩; refine ⟨_, rfl, ?_⟩; have n0_ := Ax (blk_below (g := gb363) (o := .cells #[.bool false, .int .u64 0, .int .u64 167772160, .int .i64 8] 27 (0, 0)) (by (with_reducible repeat (first | refine blk_drewN ?_ _ | refine blk_drew ?_ | refine blk_alloc ?_ _)); refine blk_far ?_ NB363_366.out _; (with_reducible repeat (first | refine blk_drewN ?_ _ | refine blk_drew ?_ | refine blk_alloc ?_ _)); refine blk_far ?_ NB363_366.out _; (with_reducible repeat (first | refine blk_drewN ?_ _ | refine blk_drew ?_ | refine blk_alloc ?_ _)); refine blk_far ?_ NB363_366.out _; (with_reducible repeat (first | refine blk_drewN ?_ _ | refine blk_drew ?_ | refine blk_alloc ?_ _)); refine blk_far ?_ NB363_366.out _; (with_reducible repeat (first | refine blk_drewN ?_ _ | refine blk_drew ?_ | refine blk_alloc ?_ _)); refine blk_far ?_ NB363_366.out _; (with_reducible repeat (first | refine blk_drewN ?_ _ | refine blk_drew ?_ | refine blk_alloc ?_ _)); refine blk_far ?_ NB363_366.out _; (with_reducible repeat (first | refine blk_drewN ?_ _ | refine blk_drew ?_ | refine blk_alloc ?_ _)); refine blk_far ?_ NB363_366.out _; (with_reducible repeat (first | refine blk_drewN ?_ _ | refine blk_drew ?_ | refine blk_alloc ?_ _)); refine blk_far ?_ NB363_366.out _; (with_reducible repeat (first | refine blk_drewN ?_ _ | refine blk_drew ?_ | refine blk_alloc ?_ _)); refine blk_far ?_ NB363_366.out _; (with_reducible repeat (first | refine blk_drewN ?_ _ | refine blk_drew ?_ | refine blk_alloc ?_ _)); refine blk_far ?_ NB363_366.out _; (with_reducible repeat (first | refine blk_drewN ?_ _ | refine blk_drew ?_ | refine blk_alloc ?_ _)); refine blk_far ?_ NB363_366.out _; (with_reducible repeat (first | refine blk_drewN ?_ _ | refine blk_drew ?_ | refine blk_alloc ?_ _)); refine blk_far ?_ NB363_366.out _; (with_reducible repeat (first | refine blk_drewN ?_ _ | refine blk_drew ?_ | refine blk_alloc ?_ _)); exact BK363.out) hb); have n1_ := Ax (blk_below (g := gb366) (o := .cells #[.int .u8 3, .int .i64 1, .int .u64 2, .int .i64 300, .bool false, .int .u64 0, .int .u64 167772160, .int .i64 8, .int .u8 1, .int .i64 7, .int .i64 0, .int .i64 0] 32 (0, 0)) (by (with_reducible repeat (first | refine blk_drewN ?_ _ | refine blk_drew ?_ | refine blk_alloc ?_ _)); refine blk_put (cs := #[.int .u8 3, .int .i64 1, .int .u64 2, .int .i64 300, .bool false, .int .u64 0, .int .u64 167772160, .int .i64 8, .int .u8 1, .int .i64 7, .int .i64 0, .int .i64 0]) ?_ 11 _ rfl; (with_reducible repeat (first | refine blk_drewN ?_ _ | refine blk_drew ?_ | refine blk_alloc ?_ _)); refine blk_put (cs := #[.int .u8 3, .int .i64 1, .int .u64 2, .int .i64 300, .bool false, .int .u64 0, .int .u64 167772160, .int .i64 8, .int .u8 1, .int .i64 7, .int .i64 0, .int .i64 0]) ?_ 10 _ rfl; (with_reducible repeat (first | refine blk_drewN ?_ _ | refine blk_drew ?_ | refine blk_alloc ?_ _)); refine blk_put (cs := #[.int .u8 3, .int .i64 1, .int .u64 2, .int .i64 300, .bool false, .int .u64 0, .int .u64 167772160, .int .i64 8, .int .u8 1, .int .i64 0, .int .i64 0, .int .i64 0]) ?_ 9 _ rfl; (with_reducible repeat (first | refine blk_drewN ?_ _ | refine blk_drew ?_ | refine blk_alloc ?_ _)); refine blk_put (cs := #[.int .u8 3, .int .i64 1, .int .u64 2, .int .i64 300, .bool false, .int .u64 0, .int .u64 167772160, .int .i64 8, .int .u8 0, .int .i64 0, .int .i64 0, .int .i64 0]) ?_ 8 _ rfl; (with_reducible repeat (first | refine blk_drewN ?_ _ | refine blk_drew ?_ | refine blk_alloc ?_ _)); refine blk_put (cs := #[.int .u8 3, .int .i64 1, .int .u64 2, .int .i64 300, .bool false, .int .u64 0, .int .u64 167772160, .int .i64 0, .int .u8 0, .int .i64 0, .int .i64 0, .int .i64 0]) ?_ 7 _ rfl; (with_reducible repeat (first | refine blk_drewN ?_ _ | refine blk_drew ?_ | refine blk_alloc ?_ _)); refine blk_put (cs := #[.int .u8 3, .int .i64 1, .int .u64 2, .int .i64 300, .bool false, .int .u64 0, .int .u64 0, .int .i64 0, .int .u8 0, .int .i64 0, .int .i64 0, .int .i64 0]) ?_ 6 _ rfl; (with_reducible repeat (first | refine blk_drewN ?_ _ | refine blk_drew ?_ | refine blk_alloc ?_ _)); refine blk_put (cs := #[.int .u8 3, .int .i64 1, .int .u64 2, .int .i64 300, .bool false, .int .u64 0, .int .u64 0, .int .i64 0, .int .u8 0, .int .i64 0, .int .i64 0, .int .i64 0]) ?_ 5 _ rfl; (with_reducible repeat (first | refine blk_drewN ?_ _ | refine blk_drew ?_ | refine blk_alloc ?_ _)); refine blk_put (cs := #[.int .u8 3, .int .i64 1, .int .u64 2, .int .i64 300, .bool false, .int .u64 0, .int .u64 0, .int .i64 0, .int .u8 0, .int .i64 0, .int .i64 0, .int .i64 0]) ?_ 4 _ rfl; (with_reducible repeat (first | refine blk_drewN ?_ _ | refine blk_drew ?_ | refine blk_alloc ?_ _)); refine blk_put (cs := #[.int .u8 3, .int .i64 1, .int .u64 2, .int .i64 0, .bool false, .int .u64 0, .int .u64 0, .int .i64 0, .int .u8 0, .int .i64 0, .int .i64 0, .int .i64 0]) ?_ 3 _ rfl; (with_reducible repeat (first | refine blk_drewN ?_ _ | refine blk_drew ?_ | refine blk_alloc ?_ _)); refine blk_put (cs := #[.int .u8 3, .int .i64 1, .int .u64 0, .int .i64 0, .bool false, .int .u64 0, .int .u64 0, .int .i64 0, .int .u8 0, .int .i64 0, .int .i64 0, .int .i64 0]) ?_ 2 _ rfl; (with_reducible repeat (first | refine blk_drewN ?_ _ | refine blk_drew ?_ | refine blk_alloc ?_ _)); refine blk_put (cs := #[.int .u8 3, .int .i64 0, .int .u64 0, .int .i64 0, .bool false, .int .u64 0, .int .u64 0, .int .i64 0, .int .u8 0, .int .i64 0, .int .i64 0, .int .i64 0]) ?_ 1 _ rfl; (with_reducible repeat (first | refine blk_drewN ?_ _ | refine blk_drew ?_ | refine blk_alloc ?_ _)); refine blk_put (cs := #[.int .u8 0, .int .i64 0, .int .u64 0, .int .i64 0, .bool false, .int .u64 0, .int .u64 0, .int .i64 0, .int .u8 0, .int .i64 0, .int .i64 0, .int .i64 0]) ?_ 0 _ rfl; (with_reducible repeat (first | refine blk_drewN ?_ _ | refine blk_drew ?_ | refine blk_alloc ?_ _)); exact BK366.out) hb); have n2_ := Bs2 HB hb GE363.out GE366.out; clear BK363; clear BK366; clear HB; have BK363 := n0_; have BK366 := n1_; have HB := n2_; clear n0_ n1_ n2_; (try clear hb)) | ((with_reducible refine gate_callee (f := 10) rfl ?_); refine goesL_ (some 38) rfl rfl Try.func10 (by kernel_rfl) rfl #[.string t367] rfl gS ?_; (with_reducible refine (msg_Get.calls k t367 t369 t370 t371 t372 t373 t374 t375 t376 t377 t378 t379 t380 t381 _ A3.out).mono ?_); rintro e w41 ⟨rfl, hb⟩; refine ⟨_, rfl, ?_⟩; replace BK363 := Bx0 BK363 hb; replace BK366 := Bx0 BK366 hb; replace HB := Bs2 HB hb GE363.out GE366.out; (try clear hb)) | ((with_reducible refine gate_dst (N := 7) rfl ?_); refine box_event ?hg (N := 7) ?hd (cs := #[.int .u8 0, .int .i64 0, .int .u64 0, .int .i64 0, .bool false, .int .u64 0, .int .u64 0, .int .i64 0, .int .u8 0, .int .i64 0, .int .i64 0, .int .i64 0]) (t := 32) ?hr ?_; (case hd => rfl); (case hg => rfl); (case hr => first | (go_simp; done) | (go_simp; rfl)); intro gb382 hg w42 hbox hb; have n0_ := Bx0 BK363 hb; have n1_ := Bx0 BK366 hb; have n2_ := Bs2 HB hb GE363.out GE366.out; have n3_ := Ax (hbox); have n4_ := Gw2 HB hg GE363.out GE366.out; have n5_ := Gw2 HB hg GE363.out GE366.out; have n6_ := Nl0 BK363 hg; have n7_ := Nr0 BK363 hg; have n8_ := Nl0 BK366 hg; have n9_ := Nr0 BK366 hg; clear BK363; clear BK366; clear HB; have BK363 := n0_; have BK366 := n1_; have HB := n2_; have BK382 := n3_; have GW382 := n4_; have GE382 := n5_; have NB363_382 := n6_; have NB382_363 := n7_; have NB366_382 := n8_; have NB382_366 := n9_; clear n0_ n1_ n2_ n3_ n4_ n5_ n6_ n7_ n8_ n9_; clear hb hbox hg; have hnb43 := NB382_363.out; have hnc43 := NB363_382.out; have hnb44 := NB382_366.out; have hnc44 := NB366_382.out; obtain ⟨hcz45_0, hcz45_1, hcz45_2, hcz45_3, hcz45_4, hcz45_5, hcz45_6, hcz45_7, hcz45_8, hcz45_9, hcz45_10, hcz45_11, hfz45_0, hfz45_1, hfz45_2, hfz45_3, hfz45_4, hfz45_5, hfz45_6, hfz45_7, hfz45_8, hfz45_9, hfz45_10, hfz45_11⟩ := cl12 BK382) | ((with_reducible refine gate_callee (f := 10) rfl ?_); refine goesL_ (some 44) rfl rfl Try.func10 (by kernel_rfl) rfl #[.string (t367 ++ (⟨#[0]⟩ : ByteArray))] rfl gS ?_; (with_reducible refine (msg_Get.calls k (t367 ++ (⟨#[0]⟩ : ByteArray)) t383 t384 t385 t386 t387 t388 t389 t390 t391 t392 t393 t394 t395 _ A5.out).mono ?_); rintro e w46 ⟨rfl, hb⟩; refine ⟨_, rfl, ?_⟩; have n0_ := Ax (blk_below (g := gb363) (o := .cells #[.bool false, .int .u64 0, .int .u64 167772160, .int .i64 8] 27 (0, 0)) (by (with_reducible repeat (first | refine blk_drewN ?_ _ | refine blk_drew ?_ | refine blk_alloc ?_ _)); refine blk_far ?_ NB363_382.out _; (with_reducible repeat (first | refine blk_drewN ?_ _ | refine blk_drew ?_ | refine blk_alloc ?_ _)); refine blk_far ?_ NB363_382.out _; (with_reducible repeat (first | refine blk_drewN ?_ _ | refine blk_drew ?_ | refine blk_alloc ?_ _)); refine blk_far ?_ NB363_382.out _; (with_reducible repeat (first | refine blk_drewN ?_ _ | refine blk_drew ?_ | refine blk_alloc ?_ _)); refine blk_far ?_ NB363_382.out _; (with_reducible repeat (first | refine blk_drewN ?_ _ | refine blk_drew ?_ | refine blk_alloc ?_ _)); refine blk_far ?_ NB363_382.out _; (with_reducible repeat (first | refine blk_drewN ?_ _ | refine blk_drew ?_ | refine blk_alloc ?_ _)); refine blk_far ?_ NB363_382.out _; (with_reducible repeat (first | refine blk_drewN ?_ _ | refine blk_drew ?_ | refine blk_alloc ?_ _)); refine blk_far ?_ NB363_382.out _; (with_reducible repeat (first | refine blk_drewN ?_ _ | refine blk_drew ?_ | refine blk_alloc ?_ _)); refine blk_far ?_ NB363_382.out _; (with_reducible repeat (first | refine blk_drewN ?_ _ | refine blk_drew ?_ | refine blk_alloc ?_ _)); refine blk_far ?_ NB363_382.out _; (with_reducible repeat (first | refine blk_drewN ?_ _ | refine blk_drew ?_ | refine blk_alloc ?_ _)); refine blk_far ?_ NB363_382.out _; (with_reducible repeat (first | refine blk_drewN ?_ _ | refine blk_drew ?_ | refine blk_alloc ?_ _)); refine blk_far ?_ NB363_382.out _; (with_reducible repeat (first | refine blk_drewN ?_ _ | refine blk_drew ?_ | refine blk_alloc ?_ _)); refine blk_far ?_ NB363_382.out _; (with_reducible repeat (first | refine blk_drewN ?_ _ | refine blk_drew ?_ | refine blk_alloc ?_ _)); exact BK363.out) hb); have n1_ := Ax (blk_below (g := gb366) (o := .cells #[.int .u8 3, .int .i64 1, .int .u64 2, .int .i64 300, .bool false, .int .u64 0, .int .u64 167772160, .int .i64 8, .int .u8 1, .int .i64 7, .int .i64 0, .int .i64 0] 32 (0, 0)) (by (with_reducible repeat (first | refine blk_drewN ?_ _ | refine blk_drew ?_ | refine blk_alloc ?_ _)); refine blk_far ?_ NB366_382.out _; (with_reducible repeat (first | refine blk_drewN ?_ _ | refine blk_drew ?_ | refine blk_alloc ?_ _)); refine blk_far ?_ NB366_382.out _; (with_reducible repeat (first | refine blk_drewN ?_ _ | refine blk_drew ?_ | refine blk_alloc ?_ _)); refine blk_far ?_ NB366_382.out _; (with_reducible repeat (first | refine blk_drewN ?_ _ | refine blk_drew ?_ | refine blk_alloc ?_ _)); refine blk_far ?_ NB366_382.out _; (with_reducible repeat (first | refine blk_drewN ?_ _ | refine blk_drew ?_ | refine blk_alloc ?_ _)); refine blk_far ?_ NB366_382.out _; (with_reducible repeat (first | refine blk_drewN ?_ _ | refine blk_drew ?_ | refine blk_alloc ?_ _)); refine blk_far ?_ NB366_382.out _; (with_reducible repeat (first | refine blk_drewN ?_ _ | refine blk_drew ?_ | refine blk_alloc ?_ _)); refine blk_far ?_ NB366_382.out _; (with_reducible repeat (first | refine blk_drewN ?_ _ | refine blk_drew ?_ | refine blk_alloc ?_ _)); refine blk_far ?_ NB366_382.out _; (with_reducible repeat (first | refine blk_drewN ?_ _ | refine blk_drew ?_ | refine blk_alloc ?_ _)); refine blk_far ?_ NB366_382.out _; (with_reducible repeat (first | refine blk_drewN ?_ _ | refine blk_drew ?_ | refine blk_alloc ?_ _)); refine blk_far ?_ NB366_382.out _; (with_reducible repeat (first | refine blk_drewN ?_ _ | refine blk_drew ?_ | refine blk_alloc ?_ _)); refine blk_far ?_ NB366_382.out _; (with_reducible repeat (first | refine blk_drewN ?_ _ | refine blk_drew ?_ | refine blk_alloc ?_ _)); refine blk_far ?_ NB366_382.out _; (with_reducible repeat (first | refine blk_drewN ?_ _ | refine blk_drew ?_ | refine blk_alloc ?_ _)); exact BK366.out) hb); have n2_ := Ax (blk_below (g := gb382) (o := .cells #[.int .u8 t369, .int .i64 t370, .int .u64 t371, .int .i64 t372, .bool t373, .int .u64 t374, .int .u64 t375, .int .i64 t376, .int .u8 t377, .int .i64 t378, .int .i64 t379, .int .i64 t380] 32 (0, 0)) (by (with_reducible repeat (first | refine blk_drewN ?_ _ | refine blk_drew ?_ | refine blk_alloc ?_ _)); refine blk_put (cs := #[.int .u8 t369, .int .i64 t370, .int .u64 t371, .int .i64 t372, .bool t373, .int .u64 t374, .int .u64 t375, .int .i64 t376, .int .u8 t377, .int .i64 t378, .int .i64 t379, .int .i64 0]) ?_ 11 _ rfl; (with_reducible repeat (first | refine blk_drewN ?_ _ | refine blk_drew ?_ | refine blk_alloc ?_ _)); refine blk_put (cs := #[.int .u8 t369, .int .i64 t370, .int .u64 t371, .int .i64 t372, .bool t373, .int .u64 t374, .int .u64 t375, .int .i64 t376, .int .u8 t377, .int .i64 t378, .int .i64 0, .int .i64 0]) ?_ 10 _ rfl; (with_reducible repeat (first | refine blk_drewN ?_ _ | refine blk_drew ?_ | refine blk_alloc ?_ _)); refine blk_put (cs := #[.int .u8 t369, .int .i64 t370, .int .u64 t371, .int .i64 t372, .bool t373, .int .u64 t374, .int .u64 t375, .int .i64 t376, .int .u8 t377, .int .i64 0, .int .i64 0, .int .i64 0]) ?_ 9 _ rfl; (with_reducible repeat (first | refine blk_drewN ?_ _ | refine blk_drew ?_ | refine blk_alloc ?_ _)); refine blk_put (cs := #[.int .u8 t369, .int .i64 t370, .int .u64 t371, .int .i64 t372, .bool t373, .int .u64 t374, .int .u64 t375, .int .i64 t376, .int .u8 0, .int .i64 0, .int .i64 0, .int .i64 0]) ?_ 8 _ rfl; (with_reducible repeat (first | refine blk_drewN ?_ _ | refine blk_drew ?_ | refine blk_alloc ?_ _)); refine blk_put (cs := #[.int .u8 t369, .int .i64 t370, .int .u64 t371, .int .i64 t372, .bool t373, .int .u64 t374, .int .u64 t375, .int .i64 0, .int .u8 0, .int .i64 0, .int .i64 0, .int .i64 0]) ?_ 7 _ rfl; (with_reducible repeat (first | refine blk_drewN ?_ _ | refine blk_drew ?_ | refine blk_alloc ?_ _)); refine blk_put (cs := #[.int .u8 t369, .int .i64 t370, .int .u64 t371, .int .i64 t372, .bool t373, .int .u64 t374, .int .u64 0, .int .i64 0, .int .u8 0, .int .i64 0, .int .i64 0, .int .i64 0]) ?_ 6 _ rfl; (with_reducible repeat (first | refine blk_drewN ?_ _ | refine blk_drew ?_ | refine blk_alloc ?_ _)); refine blk_put (cs := #[.int .u8 t369, .int .i64 t370, .int .u64 t371, .int .i64 t372, .bool t373, .int .u64 0, .int .u64 0, .int .i64 0, .int .u8 0, .int .i64 0, .int .i64 0, .int .i64 0]) ?_ 5 _ rfl; (with_reducible repeat (first | refine blk_drewN ?_ _ | refine blk_drew ?_ | refine blk_alloc ?_ _)); refine blk_put (cs := #[.int .u8 t369, .int .i64 t370, .int .u64 t371, .int .i64 t372, .bool false, .int .u64 0, .int .u64 0, .int .i64 0, .int .u8 0, .int .i64 0, .int .i64 0, .int .i64 0]) ?_ 4 _ rfl; (with_reducible repeat (first | refine blk_drewN ?_ _ | refine blk_drew ?_ | refine blk_alloc ?_ _)); refine blk_put (cs := #[.int .u8 t369, .int .i64 t370, .int .u64 t371, .int .i64 0, .bool false, .int .u64 0, .int .u64 0, .int .i64 0, .int .u8 0, .int .i64 0, .int .i64 0, .int .i64 0]) ?_ 3 _ rfl; (with_reducible repeat (first | refine blk_drewN ?_ _ | refine blk_drew ?_ | refine blk_alloc ?_ _)); refine blk_put (cs := #[.int .u8 t369, .int .i64 t370, .int .u64 0, .int .i64 0, .bool false, .int .u64 0, .int .u64 0, .int .i64 0, .int .u8 0, .int .i64 0, .int .i64 0, .int .i64 0]) ?_ 2 _ rfl; (with_reducible repeat (first | refine blk_drewN ?_ _ | refine blk_drew ?_ | refine blk_alloc ?_ _)); refine blk_put (cs := #[.int .u8 t369, .int .i64 0, .int .u64 0, .int .i64 0, .bool false, .int .u64 0, .int .u64 0, .int .i64 0, .int .u8 0, .int .i64 0, .int .i64 0, .int .i64 0]) ?_ 1 _ rfl; (with_reducible repeat (first | refine blk_drewN ?_ _ | refine blk_drew ?_ | refine blk_alloc ?_ _)); refine blk_put (cs := #[.int .u8 0, .int .i64 0, .int .u64 0, .int .i64 0, .bool false, .int .u64 0, .int .u64 0, .int .i64 0, .int .u8 0, .int .i64 0, .int .i64 0, .int .i64 0]) ?_ 0 _ rfl; (with_reducible repeat (first | refine blk_drewN ?_ _ | refine blk_drew ?_ | refine blk_alloc ?_ _)); exact BK382.out) hb); have n3_ := Bs3 HB hb GE363.out GE366.out GE382.out; clear BK363; clear BK366; clear BK382; clear HB; have BK363 := n0_; have BK366 := n1_; have BK382 := n2_; have HB := n3_; clear n0_ n1_ n2_ n3_; (try clear hb)) | ((with_reducible refine gate_dst (N := 9) rfl ?_); refine box_event ?hg (N := 9) ?hd (cs := #[.int .u8 0, .int .i64 0, .int .u64 0, .int .i64 0, .bool false, .int .u64 0, .int .u64 0, .int .i64 0, .int .u8 0, .int .i64 0, .int .i64 0, .int .i64 0]) (t := 32) ?hr ?_; (case hd => rfl); (case hg => rfl); (case hr => first | (go_simp; done) | (go_simp; rfl)); intro gb396 hg w47 hbox hb; have n0_ := Bx0 BK363 hb; have n1_ := Bx0 BK366 hb; have n2_ := Bx0 BK382 hb; have n3_ := Bs3 HB hb GE363.out GE366.out GE382.out; have n4_ := Ax (hbox); have n5_ := Gw3 HB hg GE363.out GE366.out GE382.out; have n6_ := Gw3 HB hg GE363.out GE366.out GE382.out; have n7_ := Nl0 BK363 hg; have n8_ := Nr0 BK363 hg; have n9_ := Nl0 BK366 hg; have n10_ := Nr0 BK366 hg; have n11_ := Nl0 BK382 hg; have n12_ := Nr0 BK382 hg; clear BK363; clear BK366; clear BK382; clear HB; have BK363 := n0_; have BK366 := n1_; have BK382 := n2_; have HB := n3_; have BK396 := n4_; have GW396 := n5_; have GE396 := n6_; have NB363_396 := n7_; have NB396_363 := n8_; have NB366_396 := n9_; have NB396_366 := n10_; have NB382_396 := n11_; have NB396_382 := n12_; clear n0_ n1_ n2_ n3_ n4_ n5_ n6_ n7_ n8_ n9_ n10_ n11_ n12_; clear hb hbox hg; have hnb48 := NB396_363.out; have hnc48 := NB363_396.out; have hnb49 := NB396_366.out; have hnc49 := NB366_396.out; have hnb50 := NB396_382.out; have hnc50 := NB382_396.out; obtain ⟨hcz51_0, hcz51_1, hcz51_2, hcz51_3, hcz51_4, hcz51_5, hcz51_6, hcz51_7, hcz51_8, hcz51_9, hcz51_10, hcz51_11, hfz51_0, hfz51_1, hfz51_2, hfz51_3, hfz51_4, hfz51_5, hfz51_6, hfz51_7, hfz51_8, hfz51_9, hfz51_10, hfz51_11⟩ := cl12 BK396; obtain ⟨hcz52_0, hcz52_1, hcz52_2, hcz52_3, hfz52_0, hfz52_1, hfz52_2, hfz52_3⟩ := cl4 BK363) | ((with_reducible refine gate_callee (f := 15) rfl ?_); refine goesL_ (some 49) rfl rfl Try.func15 (by kernel_rfl) rfl #[.agg #[.bool false, .int .u64 0, .int .u64 167772160, .int .i64 8]] rfl gS ?_; (with_reducible refine (msg_PutPrefix.calls k false 0 167772160 8 t397 t398 _ A6.out).mono ?_); rintro e w53 ⟨rfl, hb⟩; refine ⟨_, rfl, ?_⟩; have n0_ := Ax (blk_below (g := gb363) (o := .cells #[.bool false, .int .u64 0, .int .u64 167772160, .int .i64 8] 27 (0, 0)) (by (with_reducible repeat (first | refine blk_drewN ?_ _ | refine blk_drew ?_ | refine blk_alloc ?_ _)); refine blk_far ?_ NB363_396.out _; (with_reducible repeat (first | refine blk_drewN ?_ _ | refine blk_drew ?_ | refine blk_alloc ?_ _)); refine blk_far ?_ NB363_396.out _; (with_reducible repeat (first | refine blk_drewN ?_ _ | refine blk_drew ?_ | refine blk_alloc ?_ _)); refine blk_far ?_ NB363_396.out _; (with_reducible repeat (first | refine blk_drewN ?_ _ | refine blk_drew ?_ | refine blk_alloc ?_ _)); refine blk_far ?_ NB363_396.out _; (with_reducible repeat (first | refine blk_drewN ?_ _ | refine blk_drew ?_ | refine blk_alloc ?_ _)); refine blk_far ?_ NB363_396.out _; (with_reducible repeat (first | refine blk_drewN ?_ _ | refine blk_drew ?_ | refine blk_alloc ?_ _)); refine blk_far ?_ NB363_396.out _; (with_reducible repeat (first | refine blk_drewN ?_ _ | refine blk_drew ?_ | refine blk_alloc ?_ _)); refine blk_far ?_ NB363_396.out _; (with_reducible repeat (first | refine blk_drewN ?_ _ | refine blk_drew ?_ | refine blk_alloc ?_ _)); refine blk_far ?_ NB363_396.out _; (with_reducible repeat (first | refine blk_drewN ?_ _ | refine blk_drew ?_ | refine blk_alloc ?_ _)); refine blk_far ?_ NB363_396.out _; (with_reducible repeat (first | refine blk_drewN ?_ _ | refine blk_drew ?_ | refine blk_alloc ?_ _)); refine blk_far ?_ NB363_396.out _; (with_reducible repeat (first | refine blk_drewN ?_ _ | refine blk_drew ?_ | refine blk_alloc ?_ _)); refine blk_far ?_ NB363_396.out _; (with_reducible repeat (first | refine blk_drewN ?_ _ | refine blk_drew ?_ | refine blk_alloc ?_ _)); refine blk_far ?_ NB363_396.out _; (with_reducible repeat (first | refine blk_drewN ?_ _ | refine blk_drew ?_ | refine blk_alloc ?_ _)); exact BK363.out) hb); have n1_ := Ax (blk_below (g := gb366) (o := .cells #[.int .u8 3, .int .i64 1, .int .u64 2, .int .i64 300, .bool false, .int .u64 0, .int .u64 167772160, .int .i64 8, .int .u8 1, .int .i64 7, .int .i64 0, .int .i64 0] 32 (0, 0)) (by (with_reducible repeat (first | refine blk_drewN ?_ _ | refine blk_drew ?_ | refine blk_alloc ?_ _)); refine blk_far ?_ NB366_396.out _; (with_reducible repeat (first | refine blk_drewN ?_ _ | refine blk_drew ?_ | refine blk_alloc ?_ _)); refine blk_far ?_ NB366_396.out _; (with_reducible repeat (first | refine blk_drewN ?_ _ | refine blk_drew ?_ | refine blk_alloc ?_ _)); refine blk_far ?_ NB366_396.out _; (with_reducible repeat (first | refine blk_drewN ?_ _ | refine blk_drew ?_ | refine blk_alloc ?_ _)); refine blk_far ?_ NB366_396.out _; (with_reducible repeat (first | refine blk_drewN ?_ _ | refine blk_drew ?_ | refine blk_alloc ?_ _)); refine blk_far ?_ NB366_396.out _; (with_reducible repeat (first | refine blk_drewN ?_ _ | refine blk_drew ?_ | refine blk_alloc ?_ _)); refine blk_far ?_ NB366_396.out _; (with_reducible repeat (first | refine blk_drewN ?_ _ | refine blk_drew ?_ | refine blk_alloc ?_ _)); refine blk_far ?_ NB366_396.out _; (with_reducible repeat (first | refine blk_drewN ?_ _ | refine blk_drew ?_ | refine blk_alloc ?_ _)); refine blk_far ?_ NB366_396.out _; (with_reducible repeat (first | refine blk_drewN ?_ _ | refine blk_drew ?_ | refine blk_alloc ?_ _)); refine blk_far ?_ NB366_396.out _; (with_reducible repeat (first | refine blk_drewN ?_ _ | refine blk_drew ?_ | refine blk_alloc ?_ _)); refine blk_far ?_ NB366_396.out _; (with_reducible repeat (first | refine blk_drewN ?_ _ | refine blk_drew ?_ | refine blk_alloc ?_ _)); refine blk_far ?_ NB366_396.out _; (with_reducible repeat (first | refine blk_drewN ?_ _ | refine blk_drew ?_ | refine blk_alloc ?_ _)); refine blk_far ?_ NB366_396.out _; (with_reducible repeat (first | refine blk_drewN ?_ _ | refine blk_drew ?_ | refine blk_alloc ?_ _)); exact BK366.out) hb); have n2_ := Ax (blk_below (g := gb382) (o := .cells #[.int .u8 t369, .int .i64 t370, .int .u64 t371, .int .i64 t372, .bool t373, .int .u64 t374, .int .u64 t375, .int .i64 t376, .int .u8 t377, .int .i64 t378, .int .i64 t379, .int .i64 t380] 32 (0, 0)) (by (with_reducible repeat (first | refine blk_drewN ?_ _ | refine blk_drew ?_ | refine blk_alloc ?_ _)); refine blk_far ?_ NB382_396.out _; (with_reducible repeat (first | refine blk_drewN ?_ _ | refine blk_drew ?_ | refine blk_alloc ?_ _)); refine blk_far ?_ NB382_396.out _; (with_reducible repeat (first | refine blk_drewN ?_ _ | refine blk_drew ?_ | refine blk_alloc ?_ _)); refine blk_far ?_ NB382_396.out _; (with_reducible repeat (first | refine blk_drewN ?_ _ | refine blk_drew ?_ | refine blk_alloc ?_ _)); refine blk_far ?_ NB382_396.out _; (with_reducible repeat (first | refine blk_drewN ?_ _ | refine blk_drew ?_ | refine blk_alloc ?_ _)); refine blk_far ?_ NB382_396.out _; (with_reducible repeat (first | refine blk_drewN ?_ _ | refine blk_drew ?_ | refine blk_alloc ?_ _)); refine blk_far ?_ NB382_396.out _; (with_reducible repeat (first | refine blk_drewN ?_ _ | refine blk_drew ?_ | refine blk_alloc ?_ _)); refine blk_far ?_ NB382_396.out _; (with_reducible repeat (first | refine blk_drewN ?_ _ | refine blk_drew ?_ | refine blk_alloc ?_ _)); refine blk_far ?_ NB382_396.out _; (with_reducible repeat (first | refine blk_drewN ?_ _ | refine blk_drew ?_ | refine blk_alloc ?_ _)); refine blk_far ?_ NB382_396.out _; (with_reducible repeat (first | refine blk_drewN ?_ _ | refine blk_drew ?_ | refine blk_alloc ?_ _)); refine blk_far ?_ NB382_396.out _; (with_reducible repeat (first | refine blk_drewN ?_ _ | refine blk_drew ?_ | refine blk_alloc ?_ _)); refine blk_far ?_ NB382_396.out _; (with_reducible repeat (first | refine blk_drewN ?_ _ | refine blk_drew ?_ | refine blk_alloc ?_ _)); refine blk_far ?_ NB382_396.out _; (with_reducible repeat (first | refine blk_drewN ?_ _ | refine blk_drew ?_ | refine blk_alloc ?_ _)); exact BK382.out) hb); have n3_ := Ax (blk_below (g := gb396) (o := .cells #[.int .u8 t383, .int .i64 t384, .int .u64 t385, .int .i64 t386, .bool t387, .int .u64 t388, .int .u64 t389, .int .i64 t390, .int .u8 t391, .int .i64 t392, .int .i64 t393, .int .i64 t394] 32 (0, 0)) (by (with_reducible repeat (first | refine blk_drewN ?_ _ | refine blk_drew ?_ | refine blk_alloc ?_ _)); refine blk_put (cs := #[.int .u8 t383, .int .i64 t384, .int .u64 t385, .int .i64 t386, .bool t387, .int .u64 t388, .int .u64 t389, .int .i64 t390, .int .u8 t391, .int .i64 t392, .int .i64 t393, .int .i64 0]) ?_ 11 _ rfl; (with_reducible repeat (first | refine blk_drewN ?_ _ | refine blk_drew ?_ | refine blk_alloc ?_ _)); refine blk_put (cs := #[.int .u8 t383, .int .i64 t384, .int .u64 t385, .int .i64 t386, .bool t387, .int .u64 t388, .int .u64 t389, .int .i64 t390, .int .u8 t391, .int .i64 t392, .int .i64 0, .int .i64 0]) ?_ 10 _ rfl; (with_reducible repeat (first | refine blk_drewN ?_ _ | refine blk_drew ?_ | refine blk_alloc ?_ _)); refine blk_put (cs := #[.int .u8 t383, .int .i64 t384, .int .u64 t385, .int .i64 t386, .bool t387, .int .u64 t388, .int .u64 t389, .int .i64 t390, .int .u8 t391, .int .i64 0, .int .i64 0, .int .i64 0]) ?_ 9 _ rfl; (with_reducible repeat (first | refine blk_drewN ?_ _ | refine blk_drew ?_ | refine blk_alloc ?_ _)); refine blk_put (cs := #[.int .u8 t383, .int .i64 t384, .int .u64 t385, .int .i64 t386, .bool t387, .int .u64 t388, .int .u64 t389, .int .i64 t390, .int .u8 0, .int .i64 0, .int .i64 0, .int .i64 0]) ?_ 8 _ rfl; (with_reducible repeat (first | refine blk_drewN ?_ _ | refine blk_drew ?_ | refine blk_alloc ?_ _)); refine blk_put (cs := #[.int .u8 t383, .int .i64 t384, .int .u64 t385, .int .i64 t386, .bool t387, .int .u64 t388, .int .u64 t389, .int .i64 0, .int .u8 0, .int .i64 0, .int .i64 0, .int .i64 0]) ?_ 7 _ rfl; (with_reducible repeat (first | refine blk_drewN ?_ _ | refine blk_drew ?_ | refine blk_alloc ?_ _)); refine blk_put (cs := #[.int .u8 t383, .int .i64 t384, .int .u64 t385, .int .i64 t386, .bool t387, .int .u64 t388, .int .u64 0, .int .i64 0, .int .u8 0, .int .i64 0, .int .i64 0, .int .i64 0]) ?_ 6 _ rfl; (with_reducible repeat (first | refine blk_drewN ?_ _ | refine blk_drew ?_ | refine blk_alloc ?_ _)); refine blk_put (cs := #[.int .u8 t383, .int .i64 t384, .int .u64 t385, .int .i64 t386, .bool t387, .int .u64 0, .int .u64 0, .int .i64 0, .int .u8 0, .int .i64 0, .int .i64 0, .int .i64 0]) ?_ 5 _ rfl; (with_reducible repeat (first | refine blk_drewN ?_ _ | refine blk_drew ?_ | refine blk_alloc ?_ _)); refine blk_put (cs := #[.int .u8 t383, .int .i64 t384, .int .u64 t385, .int .i64 t386, .bool false, .int .u64 0, .int .u64 0, .int .i64 0, .int .u8 0, .int .i64 0, .int .i64 0, .int .i64 0]) ?_ 4 _ rfl; (with_reducible repeat (first | refine blk_drewN ?_ _ | refine blk_drew ?_ | refine blk_alloc ?_ _)); refine blk_put (cs := #[.int .u8 t383, .int .i64 t384, .int .u64 t385, .int .i64 0, .bool false, .int .u64 0, .int .u64 0, .int .i64 0, .int .u8 0, .int .i64 0, .int .i64 0, .int .i64 0]) ?_ 3 _ rfl; (with_reducible repeat (first | refine blk_drewN ?_ _ | refine blk_drew ?_ | refine blk_alloc ?_ _)); refine blk_put (cs := #[.int .u8 t383, .int .i64 t384, .int .u64 0, .int .i64 0, .bool false, .int .u64 0, .int .u64 0, .int .i64 0, .int .u8 0, .int .i64 0, .int .i64 0, .int .i64 0]) ?_ 2 _ rfl; (with_reducible repeat (first | refine blk_drewN ?_ _ | refine blk_drew ?_ | refine blk_alloc ?_ _)); refine blk_put (cs := #[.int .u8 t383, .int .i64 0, .int .u64 0, .int .i64 0, .bool false, .int .u64 0, .int .u64 0, .int .i64 0, .int .u8 0, .int .i64 0, .int .i64 0, .int .i64 0]) ?_ 1 _ rfl; (with_reducible repeat (first | refine blk_drewN ?_ _ | refine blk_drew ?_ | refine blk_alloc ?_ _)); refine blk_put (cs := #[.int .u8 0, .int .i64 0, .int .u64 0, .int .i64 0, .bool false, .int .u64 0, .int .u64 0, .int .i64 0, .int .u8 0, .int .i64 0, .int .i64 0, .int .i64 0]) ?_ 0 _ rfl; (with_reducible repeat (first | refine blk_drewN ?_ _ | refine blk_drew ?_ | refine blk_alloc ?_ _)); exact BK396.out) hb); have n4_ := Bs4 HB hb GE363.out GE366.out GE382.out GE396.out; clear BK363; clear BK366; clear BK382; clear BK396; clear HB; have BK363 := n0_; have BK366 := n1_; have BK382 := n2_; have BK396 := n3_; have HB := n4_; clear n0_ n1_ n2_ n3_ n4_; (try clear hb)) | ((with_reducible refine gate_callee (f := 17) rfl ?_); refine goesL_ (some 55) rfl rfl Try.func17 (by kernel_rfl) rfl #[.string (t397 ++ (⟨#[122]⟩ : ByteArray))] rfl gS ?_; (with_reducible refine (msg_GetPrefix.calls k (t397 ++ (⟨#[122]⟩ : ByteArray)) t399 t400 t401 t402 t403 t404 _ A8.out).mono ?_); rintro e w54 ⟨rfl, hb⟩; refine ⟨_, rfl, ?_⟩; replace BK363 := Bx0 BK363 hb; replace BK366 := Bx0 BK366 hb; replace BK382 := Bx0 BK382 hb; replace BK396 := Bx0 BK396 hb; replace HB := Bs4 HB hb GE363.out GE366.out GE382.out GE396.out; (try clear hb)) | ((with_reducible refine gate_dst (N := 13) rfl ?_); refine box_event ?hg (N := 13) ?hd (cs := #[.bool false, .int .u64 0, .int .u64 0, .int .i64 0]) (t := 27) ?hr ?_; (case hd => rfl); (case hg => rfl); (case hr => first | (go_simp; done) | (go_simp; rfl)); intro gb405 hg w55 hbox hb; have n0_ := Bx0 BK363 hb; have n1_ := Bx0 BK366 hb; have n2_ := Bx0 BK382 hb; have n3_ := Bx0 BK396 hb; have n4_ := Bs4 HB hb GE363.out GE366.out GE382.out GE396.out; have n5_ := Ax (hbox); have n6_ := Gw4 HB hg GE363.out GE366.out GE382.out GE396.out; have n7_ := Gw4 HB hg GE363.out GE366.out GE382.out GE396.out; have n8_ := Nl0 BK363 hg; have n9_ := Nr0 BK363 hg; have n10_ := Nl0 BK366 hg; have n11_ := Nr0 BK366 hg; have n12_ := Nl0 BK382 hg; have n13_ := Nr0 BK382 hg; have n14_ := Nl0 BK396 hg; have n15_ := Nr0 BK396 hg; clear BK363; clear BK366; clear BK382; clear BK396; clear HB; have BK363 := n0_; have BK366 := n1_; have BK382 := n2_; have BK396 := n3_; have HB := n4_; have BK405 := n5_; have GW405 := n6_; have GE405 := n7_; have NB363_405 := n8_; have NB405_363 := n9_; have NB366_405 := n10_; have NB405_366 := n11_; have NB382_405 := n12_; have NB405_382 := n13_; have NB396_405 := n14_; have NB405_396 := n15_; clear n0_ n1_ n2_ n3_ n4_ n5_ n6_ n7_ n8_ n9_ n10_ n11_ n12_ n13_ n14_ n15_; clear hb hbox hg; have hnb56 := NB405_363.out; have hnc56 := NB363_405.out; have hnb57 := NB405_366.out; have hnc57 := NB366_405.out; have hnb58 := NB405_382.out; have hnc58 := NB382_405.out; have hnb59 := NB405_396.out; have hnc59 := NB396_405.out; obtain ⟨hcz60_0, hcz60_1, hcz60_2, hcz60_3, hfz60_0, hfz60_1, hfz60_2, hfz60_3⟩ := cl4 BK405) | ((with_reducible refine gate_callee (f := 19) rfl ?_); refine goesL_ (some 61) rfl rfl Try.func19 (by kernel_rfl) rfl #[.agg #[.int .u8 2, .int .i64 0]] rfl gS ?_; (with_reducible refine (msg_PutAction.calls k 2 0 t406 t407 _ A9.out).mono ?_); rintro e w61 ⟨rfl, hb⟩; refine ⟨_, rfl, ?_⟩; have n0_ := Bx4 BK363 hb NB363_405.out NB363_405.out NB363_405.out NB363_405.out; have n1_ := Bx4 BK366 hb NB366_405.out NB366_405.out NB366_405.out NB366_405.out; have n2_ := Bx4 BK382 hb NB382_405.out NB382_405.out NB382_405.out NB382_405.out; have n3_ := Bx4 BK396 hb NB396_405.out NB396_405.out NB396_405.out NB396_405.out; have n4_ := Ax (blk_below (g := gb405) (o := .cells #[.bool t399, .int .u64 t400, .int .u64 t401, .int .i64 t402] 27 (0, 0)) (by (with_reducible repeat (first | refine blk_drewN ?_ _ | refine blk_drew ?_ | refine blk_alloc ?_ _)); refine blk_put (cs := #[.bool t399, .int .u64 t400, .int .u64 t401, .int .i64 0]) ?_ 3 _ rfl; (with_reducible repeat (first | refine blk_drewN ?_ _ | refine blk_drew ?_ | refine blk_alloc ?_ _)); refine blk_put (cs := #[.bool t399, .int .u64 t400, .int .u64 0, .int .i64 0]) ?_ 2 _ rfl; (with_reducible repeat (first | refine blk_drewN ?_ _ | refine blk_drew ?_ | refine blk_alloc ?_ _)); refine blk_put (cs := #[.bool t399, .int .u64 0, .int .u64 0, .int .i64 0]) ?_ 1 _ rfl; (with_reducible repeat (first | refine blk_drewN ?_ _ | refine blk_drew ?_ | refine blk_alloc ?_ _)); refine blk_put (cs := #[.bool false, .int .u64 0, .int .u64 0, .int .i64 0]) ?_ 0 _ rfl; (with_reducible repeat (first | refine blk_drewN ?_ _ | refine blk_drew ?_ | refine blk_alloc ?_ _)); exact BK405.out) hb); have n5_ := Bs5 HB hb GE363.out GE366.out GE382.out GE396.out GE405.out; clear BK363; clear BK366; clear BK382; clear BK396; clear BK405; clear HB; have BK363 := n0_; have BK366 := n1_; have BK382 := n2_; have BK396 := n3_; have BK405 := n4_; have HB := n5_; clear n0_ n1_ n2_ n3_ n4_ n5_; (try clear hb)) | ((with_reducible refine gate_callee (f := 21) rfl ?_); refine goesL_ (some 67) rfl rfl Try.func21 (by kernel_rfl) rfl #[.string (t406 ++ (⟨#[122]⟩ : ByteArray))] rfl gS ?_; (with_reducible refine (msg_GetAction.calls k (t406 ++ (⟨#[122]⟩ : ByteArray)) t408 t409 t410 t411 _ A11.out).mono ?_); rintro e w62 ⟨rfl, hb⟩; refine ⟨_, rfl, ?_⟩; replace BK363 := Bx0 BK363 hb; replace BK366 := Bx0 BK366 hb; replace BK382 := Bx0 BK382 hb; replace BK396 := Bx0 BK396 hb; replace BK405 := Bx0 BK405 hb; replace HB := Bs5 HB hb GE363.out GE366.out GE382.out GE396.out GE405.out; (try clear hb)) | ((with_reducible refine gate_dst (N := 18) rfl ?_); refine box_event ?hg (N := 18) ?hd (cs := #[.int .u8 0, .int .i64 0]) (t := 30) ?hr ?_; (case hd => rfl); (case hg => rfl); (case hr => first | (go_simp; done) | (go_simp; rfl)); intro gb412 hg w63 hbox hb; have n0_ := Bx0 BK363 hb; have n1_ := Bx0 BK366 hb; have n2_ := Bx0 BK382 hb; have n3_ := Bx0 BK396 hb; have n4_ := Bx0 BK405 hb; have n5_ := Bs5 HB hb GE363.out GE366.out GE382.out GE396.out GE405.out; have n6_ := Ax (hbox); have n7_ := Gw5 HB hg GE363.out GE366.out GE382.out GE396.out GE405.out; have n8_ := Gw5 HB hg GE363.out GE366.out GE382.out GE396.out GE405.out; have n9_ := Nl0 BK363 hg; have n10_ := Nr0 BK363 hg; have n11_ := Nl0 BK366 hg; have n12_ := Nr0 BK366 hg; have n13_ := Nl0 BK382 hg; have n14_ := Nr0 BK382 hg; have n15_ := Nl0 BK396 hg; have n16_ := Nr0 BK396 hg; have n17_ := Nl0 BK405 hg; have n18_ := Nr0 BK405 hg; clear BK363; clear BK366; clear BK382; clear BK396; clear BK405; clear HB; have BK363 := n0_; have BK366 := n1_; have BK382 := n2_; have BK396 := n3_; have BK405 := n4_; have HB := n5_; have BK412 := n6_; have GW412 := n7_; have GE412 := n8_; have NB363_412 := n9_; have NB412_363 := n10_; have NB366_412 := n11_; have NB412_366 := n12_; have NB382_412 := n13_; have NB412_382 := n14_; have NB396_412 := n15_; have NB412_396 := n16_; have NB405_412 := n17_; have NB412_405 := n18_; clear n0_ n1_ n2_ n3_ n4_ n5_ n6_ n7_ n8_ n9_ n10_ n11_ n12_ n13_ n14_ n15_ n16_ n17_ n18_; clear hb hbox hg; have hnb64 := NB412_363.out; have hnc64 := NB363_412.out; have hnb65 := NB412_366.out; have hnc65 := NB366_412.out; have hnb66 := NB412_382.out; have hnc66 := NB382_412.out; have hnb67 := NB412_396.out; have hnc67 := NB396_412.out; have hnb68 := NB412_405.out; have hnc68 := NB405_412.out; obtain ⟨hcz69_0, hcz69_1, hfz69_0, hfz69_1⟩ := cl2 BK412; obtain ⟨hcz70_0, hcz70_1, hcz70_2, hcz70_3, hcz70_4, hcz70_5, hcz70_6, hcz70_7, hcz70_8, hcz70_9, hcz70_10, hcz70_11, hfz70_0, hfz70_1, hfz70_2, hfz70_3, hfz70_4, hfz70_5, hfz70_6, hfz70_7, hfz70_8, hfz70_9, hfz70_10, hfz70_11⟩ := cl12 BK366; obtain ⟨hcz71_0, hcz71_1, hcz71_2, hcz71_3, hcz71_4, hcz71_5, hcz71_6, hcz71_7, hcz71_8, hcz71_9, hcz71_10, hcz71_11, hfz71_0, hfz71_1, hfz71_2, hfz71_3, hfz71_4, hfz71_5, hfz71_6, hfz71_7, hfz71_8, hfz71_9, hfz71_10, hfz71_11⟩ := cl12 BK382; obtain ⟨hcz72_0, hcz72_1, hcz72_2, hcz72_3, hfz72_0, hfz72_1, hfz72_2, hfz72_3⟩ := cl4 BK363; obtain ⟨hcz73_0, hcz73_1, hcz73_2, hcz73_3, hfz73_0, hfz73_1, hfz73_2, hfz73_3⟩ := cl4 BK405) | (go_at_call 13; (with_reducible refine (msg_Check.calls k 3 1 2 300 false 0 167772160 8 1 7 1 0 t413 _ A30.out).mono ?_); rintro e w74 ⟨rfl, hb⟩; have n0_ := Bx3 BK363 hb NB363_366.out NB363_412.out NB363_412.out; have n1_ := Ax (blk_below (g := gb366) (o := .cells #[.int .u8 3, .int .i64 1, .int .u64 2, .int .i64 300, .bool false, .int .u64 0, .int .u64 167772160, .int .i64 8, .int .u8 1, .int .i64 7, .int .i64 1, .int .i64 0] 32 (0, 0)) (by (with_reducible repeat (first | refine blk_drewN ?_ _ | refine blk_drew ?_ | refine blk_alloc ?_ _)); refine blk_put (cs := #[.int .u8 3, .int .i64 1, .int .u64 2, .int .i64 300, .bool false, .int .u64 0, .int .u64 167772160, .int .i64 8, .int .u8 1, .int .i64 7, .int .i64 0, .int .i64 0]) ?_ 10 _ rfl; (with_reducible repeat (first | refine blk_drewN ?_ _ | refine blk_drew ?_ | refine blk_alloc ?_ _)); refine blk_far ?_ NB366_412.out _; (with_reducible repeat (first | refine blk_drewN ?_ _ | refine blk_drew ?_ | refine blk_alloc ?_ _)); refine blk_far ?_ NB366_412.out _; (with_reducible repeat (first | refine blk_drewN ?_ _ | refine blk_drew ?_ | refine blk_alloc ?_ _)); exact BK366.out) hb); have n2_ := Bx3 BK382 hb NB382_366.out NB382_412.out NB382_412.out; have n3_ := Bx3 BK396 hb NB396_366.out NB396_412.out NB396_412.out; have n4_ := Bx3 BK405 hb NB405_366.out NB405_412.out NB405_412.out; have n5_ := Ax (blk_below (g := gb412) (o := .cells #[.int .u8 t408, .int .i64 t409] 30 (0, 0)) (by (with_reducible repeat (first | refine blk_drewN ?_ _ | refine blk_drew ?_ | refine blk_alloc ?_ _)); refine blk_far ?_ NB412_366.out _; (with_reducible repeat (first | refine blk_drewN ?_ _ | refine blk_drew ?_ | refine blk_alloc ?_ _)); refine blk_put (cs := #[.int .u8 t408, .int .i64 0]) ?_ 1 _ rfl; (with_reducible repeat (first | refine blk_drewN ?_ _ | refine blk_drew ?_ | refine blk_alloc ?_ _)); refine blk_put (cs := #[.int .u8 0, .int .i64 0]) ?_ 0 _ rfl; (with_reducible repeat (first | refine blk_drewN ?_ _ | refine blk_drew ?_ | refine blk_alloc ?_ _)); exact BK412.out) hb); have n6_ := Bs6 HB hb GE363.out GE366.out GE382.out GE396.out GE405.out GE412.out; clear BK363; clear BK366; clear BK382; clear BK396; clear BK405; clear BK412; clear HB; have BK363 := n0_; have BK366 := n1_; have BK382 := n2_; have BK396 := n3_; have BK405 := n4_; have BK412 := n5_; have HB := n6_; clear n0_ n1_ n2_ n3_ n4_ n5_ n6_; (try clear hb); obtain ⟨hcz75_0, hcz75_1, hcz75_2, hcz75_3, hcz75_4, hcz75_5, hcz75_6, hcz75_7, hcz75_8, hcz75_9, hcz75_10, hcz75_11, hfz75_0, hfz75_1, hfz75_2, hfz75_3, hfz75_4, hfz75_5, hfz75_6, hfz75_7, hfz75_8, hfz75_9, hfz75_10, hfz75_11⟩ := cl12 BK382) | (go_at_call 13; (with_reducible refine (msg_Check.calls k t369 t370 t371 t372 t373 t374 t375 t376 t377 t378 t379 t380 t414 _ A32.out).mono ?_); rintro e w76 ⟨rfl, hb⟩; replace BK363 := Bx0 BK363 hb; replace BK366 := Bx0 BK366 hb; replace BK382 := Bx0 BK382 hb; replace BK396 := Bx0 BK396 hb; replace BK405 := Bx0 BK405 hb; replace BK412 := Bx0 BK412 hb; replace HB := Bs6 HB hb GE363.out GE366.out GE382.out GE396.out GE405.out GE412.out; (try clear hb)))
                       go_ret
                       exact ⟨eS, bw6 HB.out GE363.out GE366.out GE382.out GE396.out GE405.out GE412.out⟩
                      ·rw [if_neg c31] at H
                       exact absurd H (by simp)
                     ·rw [if_neg c29] at H
                      exact absurd H (by simp)
                    ·rw [if_neg c28] at H
                     exact absurd H (by simp)
                   ·rw [if_neg c27] at H
                    exact absurd H (by simp)
                  ·rw [if_neg c26] at H
                   exact absurd H (by simp)
                 ·rw [if_neg c25] at H
                  exact absurd H (by simp)
                ·rw [if_neg c24] at H
                 exact absurd H (by simp)
               ·rw [if_neg c23] at H
                exact absurd H (by simp)
              ·rw [if_neg c22] at H
               exact absurd H (by simp)
             ·rw [if_neg c21] at H
              exact absurd H (by simp)
            ·rw [if_neg c20] at H
             exact absurd H (by simp)
           ·rw [if_neg c19] at H
            exact absurd H (by simp)
          ·rw [if_neg c18] at H
           exact absurd H (by simp)
         ·rw [if_neg c17] at H
          exact absurd H (by simp)
        ·rw [if_neg c16] at H
         exact absurd H (by simp)
       ·rw [if_neg c15] at H
        exact absurd H (by simp)
      ·rw [if_neg c14] at H
       exact absurd H (by simp)
     ·rw [if_neg c13] at H
      exact absurd H (by simp)
    ·rw [if_neg c12] at H
     exact absurd H (by simp)
   ·rw [if_neg c10] at H
    exact absurd H (by simp)
  ·rw [if_neg c7] at H
   exact absurd H (by simp)
 ·rw [if_neg c4] at H
  exact absurd H (by simp)
def spoorlaw11_MsgParts.f (k : Nat) (a0_0 : Bool) (a0_1 : Int) (a0_2 : Int) (a0_3 : Int) (a1_0 : Int) (a1_1 : Int) (a2 : ByteArray) : Option (Bool) := (msg_PutPrefix.f k a0_0 a0_1 a0_2 a0_3).bind fun bt453 => ((spoorref11_PutPrefix.f k a0_0 a0_1 a0_2 a0_3).bind fun bt455 => ((msg_GetPrefix.f k a2).bind fun bt457 => ((spoorref11_GetPrefix.f k a2).bind fun bt464 => ((msg_PutAction.f k a1_0 a1_1).bind fun bt471 => ((spoorref11_PutAction.f k a1_0 a1_1).bind fun bt473 => ((msg_GetAction.f k a2).bind fun bt475 => ((spoorref11_GetAction.f k a2).bind fun bt480 => ((spoorlaw11_lives.f k).bind fun t485 => (if t485 = true then (if bt453.1.toList = bt455.1.toList then (if bt453.2 = bt455.2 then (if (bt457.1 == bt464.1 && ((bt457.2.1 == bt464.2.1 && (bt457.2.2.1 == bt464.2.2.1)) && (bt457.2.2.2.1 == bt464.2.2.2.1))) = true then (if bt457.2.2.2.2.1.toList = bt464.2.2.2.2.1.toList then (if bt457.2.2.2.2.2 = bt464.2.2.2.2.2 then (if bt471.1.toList = bt473.1.toList then (if bt471.2 = bt473.2 then (if (bt475.1 == bt480.1 && (bt475.2.1 == bt480.2.1)) = true then (if bt475.2.2.1.toList = bt480.2.2.1.toList then (some (bt475.2.2.2 == bt480.2.2.2)) else (none)) else (none)) else (none)) else (none)) else (none)) else (none)) else (none)) else (none)) else (none)) else (none))))))))))
set_option maxHeartbeats 8000000 in
set_option maxRecDepth 100000 in
theorem spoorlaw11_MsgParts.calls (k : Nat) (a0_0 : Bool) (a0_1 : Int) (a0_2 : Int) (a0_3 : Int) (a1_0 : Int) (a1_1 : Int) (a2 : ByteArray) (r : Bool) (w : World) (h : spoorlaw11_MsgParts.f k a0_0 a0_1 a0_2 a0_3 a1_0 a1_1 a2 = some r) :
  Calls Try.prog 4 #[.agg #[.bool a0_0, .int .u64 a0_1, .int .u64 a0_2, .int .i64 a0_3], .agg #[.int .u8 a1_0, .int .i64 a1_1], .string a2] w fun e w' => e = .returned (.bool r) ∧ Below w.heap.size w w' := by
 have hu27 := Try.underlying27
 have hu30 := Try.underlying30
 have HB := Ax (Below.refl w.heap.size w)
 have H : ((msg_PutPrefix.f k a0_0 a0_1 a0_2 a0_3).bind fun bt453 => ((spoorref11_PutPrefix.f k a0_0 a0_1 a0_2 a0_3).bind fun bt455 => ((msg_GetPrefix.f k a2).bind fun bt457 => ((spoorref11_GetPrefix.f k a2).bind fun bt464 => ((msg_PutAction.f k a1_0 a1_1).bind fun bt471 => ((spoorref11_PutAction.f k a1_0 a1_1).bind fun bt473 => ((msg_GetAction.f k a2).bind fun bt475 => ((spoorref11_GetAction.f k a2).bind fun bt480 => ((spoorlaw11_lives.f k).bind fun t485 => (if t485 = true then (if bt453.1.toList = bt455.1.toList then (if bt453.2 = bt455.2 then (if (bt457.1 == bt464.1 && ((bt457.2.1 == bt464.2.1 && (bt457.2.2.1 == bt464.2.2.1)) && (bt457.2.2.2.1 == bt464.2.2.2.1))) = true then (if bt457.2.2.2.2.1.toList = bt464.2.2.2.2.1.toList then (if bt457.2.2.2.2.2 = bt464.2.2.2.2.2 then (if bt471.1.toList = bt473.1.toList then (if bt471.2 = bt473.2 then (if (bt475.1 == bt480.1 && (bt475.2.1 == bt480.2.1)) = true then (if bt475.2.2.1.toList = bt480.2.2.1.toList then (some (bt475.2.2.2 == bt480.2.2.2)) else (none)) else (none)) else (none)) else (none)) else (none)) else (none)) else (none)) else (none)) else (none)) else (none))))))))))) = some r := h
 clear h
 replace H := Option.bind_eq_some_iff.mp H
 obtain ⟨⟨t453, t454⟩, A40, H⟩ := H
 replace H : ((spoorref11_PutPrefix.f k a0_0 a0_1 a0_2 a0_3).bind fun bt455 => ((msg_GetPrefix.f k a2).bind fun bt457 => ((spoorref11_GetPrefix.f k a2).bind fun bt464 => ((msg_PutAction.f k a1_0 a1_1).bind fun bt471 => ((spoorref11_PutAction.f k a1_0 a1_1).bind fun bt473 => ((msg_GetAction.f k a2).bind fun bt475 => ((spoorref11_GetAction.f k a2).bind fun bt480 => ((spoorlaw11_lives.f k).bind fun t485 => (if t485 = true then (if t453.toList = bt455.1.toList then (if t454 = bt455.2 then (if (bt457.1 == bt464.1 && ((bt457.2.1 == bt464.2.1 && (bt457.2.2.1 == bt464.2.2.1)) && (bt457.2.2.2.1 == bt464.2.2.2.1))) = true then (if bt457.2.2.2.2.1.toList = bt464.2.2.2.2.1.toList then (if bt457.2.2.2.2.2 = bt464.2.2.2.2.2 then (if bt471.1.toList = bt473.1.toList then (if bt471.2 = bt473.2 then (if (bt475.1 == bt480.1 && (bt475.2.1 == bt480.2.1)) = true then (if bt475.2.2.1.toList = bt480.2.2.1.toList then (some (bt475.2.2.2 == bt480.2.2.2)) else (none)) else (none)) else (none)) else (none)) else (none)) else (none)) else (none)) else (none)) else (none)) else (none)))))))))) = some r := H
 have A4 := Ax A40
 clear A40
 replace H := Option.bind_eq_some_iff.mp H
 obtain ⟨⟨t455, t456⟩, A50, H⟩ := H
 replace H : ((msg_GetPrefix.f k a2).bind fun bt457 => ((spoorref11_GetPrefix.f k a2).bind fun bt464 => ((msg_PutAction.f k a1_0 a1_1).bind fun bt471 => ((spoorref11_PutAction.f k a1_0 a1_1).bind fun bt473 => ((msg_GetAction.f k a2).bind fun bt475 => ((spoorref11_GetAction.f k a2).bind fun bt480 => ((spoorlaw11_lives.f k).bind fun t485 => (if t485 = true then (if t453.toList = t455.toList then (if t454 = t456 then (if (bt457.1 == bt464.1 && ((bt457.2.1 == bt464.2.1 && (bt457.2.2.1 == bt464.2.2.1)) && (bt457.2.2.2.1 == bt464.2.2.2.1))) = true then (if bt457.2.2.2.2.1.toList = bt464.2.2.2.2.1.toList then (if bt457.2.2.2.2.2 = bt464.2.2.2.2.2 then (if bt471.1.toList = bt473.1.toList then (if bt471.2 = bt473.2 then (if (bt475.1 == bt480.1 && (bt475.2.1 == bt480.2.1)) = true then (if bt475.2.2.1.toList = bt480.2.2.1.toList then (some (bt475.2.2.2 == bt480.2.2.2)) else (none)) else (none)) else (none)) else (none)) else (none)) else (none)) else (none)) else (none)) else (none)) else (none))))))))) = some r := H
 have A5 := Ax A50
 clear A50
 replace H := Option.bind_eq_some_iff.mp H
 obtain ⟨⟨t457, t458, t459, t460, t461, t462⟩, A60, H⟩ := H
 replace H : ((spoorref11_GetPrefix.f k a2).bind fun bt464 => ((msg_PutAction.f k a1_0 a1_1).bind fun bt471 => ((spoorref11_PutAction.f k a1_0 a1_1).bind fun bt473 => ((msg_GetAction.f k a2).bind fun bt475 => ((spoorref11_GetAction.f k a2).bind fun bt480 => ((spoorlaw11_lives.f k).bind fun t485 => (if t485 = true then (if t453.toList = t455.toList then (if t454 = t456 then (if (t457 == bt464.1 && ((t458 == bt464.2.1 && (t459 == bt464.2.2.1)) && (t460 == bt464.2.2.2.1))) = true then (if t461.toList = bt464.2.2.2.2.1.toList then (if t462 = bt464.2.2.2.2.2 then (if bt471.1.toList = bt473.1.toList then (if bt471.2 = bt473.2 then (if (bt475.1 == bt480.1 && (bt475.2.1 == bt480.2.1)) = true then (if bt475.2.2.1.toList = bt480.2.2.1.toList then (some (bt475.2.2.2 == bt480.2.2.2)) else (none)) else (none)) else (none)) else (none)) else (none)) else (none)) else (none)) else (none)) else (none)) else (none)))))))) = some r := H
 have A6 := Ax A60
 clear A60
 replace H := Option.bind_eq_some_iff.mp H
 obtain ⟨⟨t464, t465, t466, t467, t468, t469⟩, A70, H⟩ := H
 replace H : ((msg_PutAction.f k a1_0 a1_1).bind fun bt471 => ((spoorref11_PutAction.f k a1_0 a1_1).bind fun bt473 => ((msg_GetAction.f k a2).bind fun bt475 => ((spoorref11_GetAction.f k a2).bind fun bt480 => ((spoorlaw11_lives.f k).bind fun t485 => (if t485 = true then (if t453.toList = t455.toList then (if t454 = t456 then (if (t457 == t464 && ((t458 == t465 && (t459 == t466)) && (t460 == t467))) = true then (if t461.toList = t468.toList then (if t462 = t469 then (if bt471.1.toList = bt473.1.toList then (if bt471.2 = bt473.2 then (if (bt475.1 == bt480.1 && (bt475.2.1 == bt480.2.1)) = true then (if bt475.2.2.1.toList = bt480.2.2.1.toList then (some (bt475.2.2.2 == bt480.2.2.2)) else (none)) else (none)) else (none)) else (none)) else (none)) else (none)) else (none)) else (none)) else (none)) else (none))))))) = some r := H
 have A7 := Ax A70
 clear A70
 replace H := Option.bind_eq_some_iff.mp H
 obtain ⟨⟨t471, t472⟩, A80, H⟩ := H
 replace H : ((spoorref11_PutAction.f k a1_0 a1_1).bind fun bt473 => ((msg_GetAction.f k a2).bind fun bt475 => ((spoorref11_GetAction.f k a2).bind fun bt480 => ((spoorlaw11_lives.f k).bind fun t485 => (if t485 = true then (if t453.toList = t455.toList then (if t454 = t456 then (if (t457 == t464 && ((t458 == t465 && (t459 == t466)) && (t460 == t467))) = true then (if t461.toList = t468.toList then (if t462 = t469 then (if t471.toList = bt473.1.toList then (if t472 = bt473.2 then (if (bt475.1 == bt480.1 && (bt475.2.1 == bt480.2.1)) = true then (if bt475.2.2.1.toList = bt480.2.2.1.toList then (some (bt475.2.2.2 == bt480.2.2.2)) else (none)) else (none)) else (none)) else (none)) else (none)) else (none)) else (none)) else (none)) else (none)) else (none)))))) = some r := H
 have A8 := Ax A80
 clear A80
 replace H := Option.bind_eq_some_iff.mp H
 obtain ⟨⟨t473, t474⟩, A90, H⟩ := H
 replace H : ((msg_GetAction.f k a2).bind fun bt475 => ((spoorref11_GetAction.f k a2).bind fun bt480 => ((spoorlaw11_lives.f k).bind fun t485 => (if t485 = true then (if t453.toList = t455.toList then (if t454 = t456 then (if (t457 == t464 && ((t458 == t465 && (t459 == t466)) && (t460 == t467))) = true then (if t461.toList = t468.toList then (if t462 = t469 then (if t471.toList = t473.toList then (if t472 = t474 then (if (bt475.1 == bt480.1 && (bt475.2.1 == bt480.2.1)) = true then (if bt475.2.2.1.toList = bt480.2.2.1.toList then (some (bt475.2.2.2 == bt480.2.2.2)) else (none)) else (none)) else (none)) else (none)) else (none)) else (none)) else (none)) else (none)) else (none)) else (none))))) = some r := H
 have A9 := Ax A90
 clear A90
 replace H := Option.bind_eq_some_iff.mp H
 obtain ⟨⟨t475, t476, t477, t478⟩, A100, H⟩ := H
 replace H : ((spoorref11_GetAction.f k a2).bind fun bt480 => ((spoorlaw11_lives.f k).bind fun t485 => (if t485 = true then (if t453.toList = t455.toList then (if t454 = t456 then (if (t457 == t464 && ((t458 == t465 && (t459 == t466)) && (t460 == t467))) = true then (if t461.toList = t468.toList then (if t462 = t469 then (if t471.toList = t473.toList then (if t472 = t474 then (if (t475 == bt480.1 && (t476 == bt480.2.1)) = true then (if t477.toList = bt480.2.2.1.toList then (some (t478 == bt480.2.2.2)) else (none)) else (none)) else (none)) else (none)) else (none)) else (none)) else (none)) else (none)) else (none)) else (none)))) = some r := H
 have A10 := Ax A100
 clear A100
 replace H := Option.bind_eq_some_iff.mp H
 obtain ⟨⟨t480, t481, t482, t483⟩, A110, H⟩ := H
 replace H : ((spoorlaw11_lives.f k).bind fun t485 => (if t485 = true then (if t453.toList = t455.toList then (if t454 = t456 then (if (t457 == t464 && ((t458 == t465 && (t459 == t466)) && (t460 == t467))) = true then (if t461.toList = t468.toList then (if t462 = t469 then (if t471.toList = t473.toList then (if t472 = t474 then (if (t475 == t480 && (t476 == t481)) = true then (if t477.toList = t482.toList then (some (t478 == t483)) else (none)) else (none)) else (none)) else (none)) else (none)) else (none)) else (none)) else (none)) else (none)) else (none))) = some r := H
 have A11 := Ax A110
 clear A110
 replace H := Option.bind_eq_some_iff.mp H
 obtain ⟨t485, A120, H⟩ := H
 replace H : (if t485 = true then (if t453.toList = t455.toList then (if t454 = t456 then (if (t457 == t464 && ((t458 == t465 && (t459 == t466)) && (t460 == t467))) = true then (if t461.toList = t468.toList then (if t462 = t469 then (if t471.toList = t473.toList then (if t472 = t474 then (if (t475 == t480 && (t476 == t481)) = true then (if t477.toList = t482.toList then (some (t478 == t483)) else (none)) else (none)) else (none)) else (none)) else (none)) else (none)) else (none)) else (none)) else (none)) else (none)) = some r := H
 have A12 := Ax A120
 clear A120
 by_cases c13 : t485 = true
 ·subst c13
  have H1 : (if t453.toList = t455.toList then (if t454 = t456 then (if (t457 == t464 && ((t458 == t465 && (t459 == t466)) && (t460 == t467))) = true then (if t461.toList = t468.toList then (if t462 = t469 then (if t471.toList = t473.toList then (if t472 = t474 then (if (t475 == t480 && (t476 == t481)) = true then (if t477.toList = t482.toList then (some (t478 == t483)) else (none)) else (none)) else (none)) else (none)) else (none)) else (none)) else (none)) else (none)) else (none)) = some r := by rw [if_pos rfl] at H; exact H
  clear H
  have H := H1
  clear H1
  by_cases c14 : t453.toList = t455.toList
  ·rw [if_pos c14] at H
   have c14b0 : (t453.toList == t455.toList) = true := beq_iff_eq.mpr c14
   have c14b1 : (t453.toList != t455.toList) = false := bne_eq_false_iff_eq.mpr c14
   clear c14
   by_cases c15 : t454 = t456
   ·rw [if_pos c15] at H
    have c15b0 : (t454 == t456) = true := beq_iff_eq.mpr c15
    have c15b1 : (t454 != t456) = false := bne_eq_false_iff_eq.mpr c15
    clear c15
    by_cases c16 : (t457 == t464 && ((t458 == t465 && (t459 == t466)) && (t460 == t467))) = true
    ·rw [if_pos c16] at H
     have c16b0 : (t457 == t464 && ((t458 == t465 && (t459 == t466)) && (t460 == t467))) = true := c16
     (try (have c16b1 : decide (t457 = t464 && ((t458 == t465 && (t459 == t466)) && (t460 == t467))) = true := by simpa using c16))
     (try (have c16b2 : (t457 == t464 && ((t458 == t465 && (t459 == t466)) && (t460 == t467))) = true := by simpa using c16))
     clear c16
     by_cases c17 : t461.toList = t468.toList
     ·rw [if_pos c17] at H
      have c17b0 : (t461.toList == t468.toList) = true := beq_iff_eq.mpr c17
      have c17b1 : (t461.toList != t468.toList) = false := bne_eq_false_iff_eq.mpr c17
      clear c17
      by_cases c18 : t462 = t469
      ·rw [if_pos c18] at H
       have c18b0 : (t462 == t469) = true := beq_iff_eq.mpr c18
       have c18b1 : (t462 != t469) = false := bne_eq_false_iff_eq.mpr c18
       clear c18
       by_cases c19 : t471.toList = t473.toList
       ·rw [if_pos c19] at H
        have c19b0 : (t471.toList == t473.toList) = true := beq_iff_eq.mpr c19
        have c19b1 : (t471.toList != t473.toList) = false := bne_eq_false_iff_eq.mpr c19
        clear c19
        by_cases c20 : t472 = t474
        ·rw [if_pos c20] at H
         have c20b0 : (t472 == t474) = true := beq_iff_eq.mpr c20
         have c20b1 : (t472 != t474) = false := bne_eq_false_iff_eq.mpr c20
         clear c20
         by_cases c21 : (t475 == t480 && (t476 == t481)) = true
         ·rw [if_pos c21] at H
          have c21b0 : (t475 == t480 && (t476 == t481)) = true := c21
          (try (have c21b1 : decide (t475 = t480 && (t476 == t481)) = true := by simpa using c21))
          (try (have c21b2 : (t475 == t480 && (t476 == t481)) = true := by simpa using c21))
          clear c21
          by_cases c22 : t477.toList = t482.toList
          ·rw [if_pos c22] at H
           have c22b0 : (t477.toList == t482.toList) = true := beq_iff_eq.mpr c22
           have c22b1 : (t477.toList != t482.toList) = false := bne_eq_false_iff_eq.mpr c22
           clear c22
           obtain rfl := Option.some.inj H
           go_enter Try.func4, Try.ntmps4
           go_wp2_with (first | ((with_reducible refine gate_dst (N := 3) rfl ?_); refine box_event ?hg (N := 3) ?hd (cs := #[.bool a0_0, .int .u64 a0_1, .int .u64 a0_2, .int .i64 a0_3]) (t := 27) ?hr ?_; (case hd => rfl); (case hg => rfl); (case hr => first | (go_simp; done) | (go_simp; rfl)); intro gb451 hg w23 hbox hb; have n0_ := Bs0 HB hb; have n1_ := Ax (hbox); have n2_ := Gw0 HB hg; have n3_ := Gw0 HB hg; clear HB; have HB := n0_; have BK451 := n1_; have GW451 := n2_; have GE451 := n3_; clear n0_ n1_ n2_ n3_; clear hb hbox hg) | ((with_reducible refine gate_dst (N := 4) rfl ?_); refine box_event ?hg (N := 4) ?hd (cs := #[.int .u8 a1_0, .int .i64 a1_1]) (t := 30) ?hr ?_; (case hd => rfl); (case hg => rfl); (case hr => first | (go_simp; done) | (go_simp; rfl)); intro gb452 hg w24 hbox hb; have n0_ := Bx0 BK451 hb; have n1_ := Bs1 HB hb GE451.out; have n2_ := Ax (hbox); have n3_ := Gw1 HB hg GE451.out; have n4_ := Gw1 HB hg GE451.out; have n5_ := Nl0 BK451 hg; have n6_ := Nr0 BK451 hg; clear BK451; clear HB; have BK451 := n0_; have HB := n1_; have BK452 := n2_; have GW452 := n3_; have GE452 := n4_; have NB451_452 := n5_; have NB452_451 := n6_; clear n0_ n1_ n2_ n3_ n4_ n5_ n6_; clear hb hbox hg; have hnb25 := NB451_452.out; have hnc25 := NB452_451.out; obtain ⟨hcz26_0, hcz26_1, hcz26_2, hcz26_3, hfz26_0, hfz26_1, hfz26_2, hfz26_3⟩ := cl4 BK451) | ((with_reducible refine gate_callee (f := 15) rfl ?_); refine goesL_ (some 29) rfl rfl Try.func15 (by kernel_rfl) rfl #[.agg #[.bool a0_0, .int .u64 a0_1, .int .u64 a0_2, .int .i64 a0_3]] rfl gS ?_; (with_reducible refine (msg_PutPrefix.calls k a0_0 a0_1 a0_2 a0_3 t453 t454 _ A4.out).mono ?_); rintro e w27 ⟨rfl, hb⟩; refine ⟨_, rfl, ?_⟩; replace BK451 := Bx0 BK451 hb; replace BK452 := Bx0 BK452 hb; replace HB := Bs2 HB hb GE451.out GE452.out; (try clear hb); obtain ⟨hcz28_0, hcz28_1, hcz28_2, hcz28_3, hfz28_0, hfz28_1, hfz28_2, hfz28_3⟩ := cl4 BK451) | ((with_reducible refine gate_callee (f := 16) rfl ?_); refine goesL_ (some 34) rfl rfl Try.func16 (by kernel_rfl) rfl #[.agg #[.bool a0_0, .int .u64 a0_1, .int .u64 a0_2, .int .i64 a0_3]] rfl gS ?_; (with_reducible refine (spoorref11_PutPrefix.calls k a0_0 a0_1 a0_2 a0_3 t455 t456 _ A5.out).mono ?_); rintro e w29 ⟨rfl, hb⟩; refine ⟨_, rfl, ?_⟩; replace BK451 := Bx0 BK451 hb; replace BK452 := Bx0 BK452 hb; replace HB := Bs2 HB hb GE451.out GE452.out; (try clear hb)) | ((with_reducible refine gate_callee (f := 17) rfl ?_); refine goesL_ (some 39) rfl rfl Try.func17 (by kernel_rfl) rfl #[.string a2] rfl gS ?_; (with_reducible refine (msg_GetPrefix.calls k a2 t457 t458 t459 t460 t461 t462 _ A6.out).mono ?_); rintro e w30 ⟨rfl, hb⟩; refine ⟨_, rfl, ?_⟩; replace BK451 := Bx0 BK451 hb; replace BK452 := Bx0 BK452 hb; replace HB := Bs2 HB hb GE451.out GE452.out; (try clear hb)) | ((with_reducible refine gate_dst (N := 11) rfl ?_); refine box_event ?hg (N := 11) ?hd (cs := #[.bool false, .int .u64 0, .int .u64 0, .int .i64 0]) (t := 27) ?hr ?_; (case hd => rfl); (case hg => rfl); (case hr => first | (go_simp; done) | (go_simp; rfl)); intro gb463 hg w31 hbox hb; have n0_ := Bx0 BK451 hb; have n1_ := Bx0 BK452 hb; have n2_ := Bs2 HB hb GE451.out GE452.out; have n3_ := Ax (hbox); have n4_ := Gw2 HB hg GE451.out GE452.out; have n5_ := Gw2 HB hg GE451.out GE452.out; have n6_ := Nl0 BK451 hg; have n7_ := Nr0 BK451 hg; have n8_ := Nl0 BK452 hg; have n9_ := Nr0 BK452 hg; clear BK451; clear BK452; clear HB; have BK451 := n0_; have BK452 := n1_; have HB := n2_; have BK463 := n3_; have GW463 := n4_; have GE463 := n5_; have NB451_463 := n6_; have NB463_451 := n7_; have NB452_463 := n8_; have NB463_452 := n9_; clear n0_ n1_ n2_ n3_ n4_ n5_ n6_ n7_ n8_ n9_; clear hb hbox hg; have hnb32 := NB463_451.out; have hnc32 := NB451_463.out; have hnb33 := NB463_452.out; have hnc33 := NB452_463.out; obtain ⟨hcz34_0, hcz34_1, hcz34_2, hcz34_3, hfz34_0, hfz34_1, hfz34_2, hfz34_3⟩ := cl4 BK463) | ((with_reducible refine gate_callee (f := 18) rfl ?_); refine goesL_ (some 45) rfl rfl Try.func18 (by kernel_rfl) rfl #[.string a2] rfl gS ?_; (with_reducible refine (spoorref11_GetPrefix.calls k a2 t464 t465 t466 t467 t468 t469 _ A7.out).mono ?_); rintro e w35 ⟨rfl, hb⟩; refine ⟨_, rfl, ?_⟩; have n0_ := Bx4 BK451 hb NB451_463.out NB451_463.out NB451_463.out NB451_463.out; have n1_ := Bx4 BK452 hb NB452_463.out NB452_463.out NB452_463.out NB452_463.out; have n2_ := Ax (blk_below (g := gb463) (o := .cells #[.bool t457, .int .u64 t458, .int .u64 t459, .int .i64 t460] 27 (0, 0)) (by (with_reducible repeat (first | refine blk_drewN ?_ _ | refine blk_drew ?_ | refine blk_alloc ?_ _)); refine blk_put (cs := #[.bool t457, .int .u64 t458, .int .u64 t459, .int .i64 0]) ?_ 3 _ rfl; (with_reducible repeat (first | refine blk_drewN ?_ _ | refine blk_drew ?_ | refine blk_alloc ?_ _)); refine blk_put (cs := #[.bool t457, .int .u64 t458, .int .u64 0, .int .i64 0]) ?_ 2 _ rfl; (with_reducible repeat (first | refine blk_drewN ?_ _ | refine blk_drew ?_ | refine blk_alloc ?_ _)); refine blk_put (cs := #[.bool t457, .int .u64 0, .int .u64 0, .int .i64 0]) ?_ 1 _ rfl; (with_reducible repeat (first | refine blk_drewN ?_ _ | refine blk_drew ?_ | refine blk_alloc ?_ _)); refine blk_put (cs := #[.bool false, .int .u64 0, .int .u64 0, .int .i64 0]) ?_ 0 _ rfl; (with_reducible repeat (first | refine blk_drewN ?_ _ | refine blk_drew ?_ | refine blk_alloc ?_ _)); exact BK463.out) hb); have n3_ := Bs3 HB hb GE451.out GE452.out GE463.out; clear BK451; clear BK452; clear BK463; clear HB; have BK451 := n0_; have BK452 := n1_; have BK463 := n2_; have HB := n3_; clear n0_ n1_ n2_ n3_; (try clear hb)) | ((with_reducible refine gate_dst (N := 14) rfl ?_); refine box_event ?hg (N := 14) ?hd (cs := #[.bool false, .int .u64 0, .int .u64 0, .int .i64 0]) (t := 27) ?hr ?_; (case hd => rfl); (case hg => rfl); (case hr => first | (go_simp; done) | (go_simp; rfl)); intro gb470 hg w36 hbox hb; have n0_ := Bx0 BK451 hb; have n1_ := Bx0 BK452 hb; have n2_ := Bx0 BK463 hb; have n3_ := Bs3 HB hb GE451.out GE452.out GE463.out; have n4_ := Ax (hbox); have n5_ := Gw3 HB hg GE451.out GE452.out GE463.out; have n6_ := Gw3 HB hg GE451.out GE452.out GE463.out; have n7_ := Nl0 BK451 hg; have n8_ := Nr0 BK451 hg; have n9_ := Nl0 BK452 hg; have n10_ := Nr0 BK452 hg; have n11_ := Nl0 BK463 hg; have n12_ := Nr0 BK463 hg; clear BK451; clear BK452; clear BK463; clear HB; have BK451 := n0_; have BK452 := n1_; have BK463 := n2_; have HB := n3_; have BK470 := n4_; have GW470 := n5_; have GE470 := n6_; have NB451_470 := n7_; have NB470_451 := n8_; have NB452_470 := n9_; have NB470_452 := n10_; have NB463_470 := n11_; have NB470_463 := n12_; clear n0_ n1_ n2_ n3_ n4_ n5_ n6_ n7_ n8_ n9_ n10_ n11_ n12_; clear hb hbox hg; have hnb37 := NB470_451.out; have hnc37 := NB451_470.out; have hnb38 := NB470_452.out; have hnc38 := NB452_470.out; have hnb39 := NB470_463.out; have hnc39 := NB463_470.out; obtain ⟨hcz40_0, hcz40_1, hcz40_2, hcz40_3, hfz40_0, hfz40_1, hfz40_2, hfz40_3⟩ := cl4 BK470; obtain ⟨hcz41_0, hcz41_1, hfz41_0, hfz41_1⟩ := cl2 BK452) | ((with_reducible refine gate_callee (f := 19) rfl ?_); refine goesL_ (some 51) rfl rfl Try.func19 (by kernel_rfl) rfl #[.agg #[.int .u8 a1_0, .int .i64 a1_1]] rfl gS ?_; (with_reducible refine (msg_PutAction.calls k a1_0 a1_1 t471 t472 _ A8.out).mono ?_); rintro e w42 ⟨rfl, hb⟩; refine ⟨_, rfl, ?_⟩; have n0_ := Bx4 BK451 hb NB451_470.out NB451_470.out NB451_470.out NB451_470.out; have n1_ := Bx4 BK452 hb NB452_470.out NB452_470.out NB452_470.out NB452_470.out; have n2_ := Bx4 BK463 hb NB463_470.out NB463_470.out NB463_470.out NB463_470.out; have n3_ := Ax (blk_below (g := gb470) (o := .cells #[.bool t464, .int .u64 t465, .int .u64 t466, .int .i64 t467] 27 (0, 0)) (by (with_reducible repeat (first | refine blk_drewN ?_ _ | refine blk_drew ?_ | refine blk_alloc ?_ _)); refine blk_put (cs := #[.bool t464, .int .u64 t465, .int .u64 t466, .int .i64 0]) ?_ 3 _ rfl; (with_reducible repeat (first | refine blk_drewN ?_ _ | refine blk_drew ?_ | refine blk_alloc ?_ _)); refine blk_put (cs := #[.bool t464, .int .u64 t465, .int .u64 0, .int .i64 0]) ?_ 2 _ rfl; (with_reducible repeat (first | refine blk_drewN ?_ _ | refine blk_drew ?_ | refine blk_alloc ?_ _)); refine blk_put (cs := #[.bool t464, .int .u64 0, .int .u64 0, .int .i64 0]) ?_ 1 _ rfl; (with_reducible repeat (first | refine blk_drewN ?_ _ | refine blk_drew ?_ | refine blk_alloc ?_ _)); refine blk_put (cs := #[.bool false, .int .u64 0, .int .u64 0, .int .i64 0]) ?_ 0 _ rfl; (with_reducible repeat (first | refine blk_drewN ?_ _ | refine blk_drew ?_ | refine blk_alloc ?_ _)); exact BK470.out) hb); have n4_ := Bs4 HB hb GE451.out GE452.out GE463.out GE470.out; clear BK451; clear BK452; clear BK463; clear BK470; clear HB; have BK451 := n0_; have BK452 := n1_; have BK463 := n2_; have BK470 := n3_; have HB := n4_; clear n0_ n1_ n2_ n3_ n4_; (try clear hb); obtain ⟨hcz43_0, hcz43_1, hfz43_0, hfz43_1⟩ := cl2 BK452) | ((with_reducible refine gate_callee (f := 20) rfl ?_); refine goesL_ (some 56) rfl rfl Try.func20 (by kernel_rfl) rfl #[.agg #[.int .u8 a1_0, .int .i64 a1_1]] rfl gS ?_; (with_reducible refine (spoorref11_PutAction.calls k a1_0 a1_1 t473 t474 _ A9.out).mono ?_); rintro e w44 ⟨rfl, hb⟩; refine ⟨_, rfl, ?_⟩; replace BK451 := Bx0 BK451 hb; replace BK452 := Bx0 BK452 hb; replace BK463 := Bx0 BK463 hb; replace BK470 := Bx0 BK470 hb; replace HB := Bs4 HB hb GE451.out GE452.out GE463.out GE470.out; (try clear hb)) | ((with_reducible refine gate_callee (f := 21) rfl ?_); refine goesL_ (some 61) rfl rfl Try.func21 (by kernel_rfl) rfl #[.string a2] rfl gS ?_; (with_reducible refine (msg_GetAction.calls k a2 t475 t476 t477 t478 _ A10.out).mono ?_); rintro e w45 ⟨rfl, hb⟩; refine ⟨_, rfl, ?_⟩; replace BK451 := Bx0 BK451 hb; replace BK452 := Bx0 BK452 hb; replace BK463 := Bx0 BK463 hb; replace BK470 := Bx0 BK470 hb; replace HB := Bs4 HB hb GE451.out GE452.out GE463.out GE470.out; (try clear hb)) | ((with_reducible refine gate_dst (N := 21) rfl ?_); refine box_event ?hg (N := 21) ?hd (cs := #[.int .u8 0, .int .i64 0]) (t := 30) ?hr ?_; (case hd => rfl); (case hg => rfl); (case hr => first | (go_simp; done) | (go_simp; rfl)); intro gb479 hg w46 hbox hb; have n0_ := Bx0 BK451 hb; have n1_ := Bx0 BK452 hb; have n2_ := Bx0 BK463 hb; have n3_ := Bx0 BK470 hb; have n4_ := Bs4 HB hb GE451.out GE452.out GE463.out GE470.out; have n5_ := Ax (hbox); have n6_ := Gw4 HB hg GE451.out GE452.out GE463.out GE470.out; have n7_ := Gw4 HB hg GE451.out GE452.out GE463.out GE470.out; have n8_ := Nl0 BK451 hg; have n9_ := Nr0 BK451 hg; have n10_ := Nl0 BK452 hg; have n11_ := Nr0 BK452 hg; have n12_ := Nl0 BK463 hg; have n13_ := Nr0 BK463 hg; have n14_ := Nl0 BK470 hg; have n15_ := Nr0 BK470 hg; clear BK451; clear BK452; clear BK463; clear BK470; clear HB; have BK451 := n0_; have BK452 := n1_; have BK463 := n2_; have BK470 := n3_; have HB := n4_; have BK479 := n5_; have GW479 := n6_; have GE479 := n7_; have NB451_479 := n8_; have NB479_451 := n9_; have NB452_479 := n10_; have NB479_452 := n11_; have NB463_479 := n12_; have NB479_463 := n13_; have NB470_479 := n14_; have NB479_470 := n15_; clear n0_ n1_ n2_ n3_ n4_ n5_ n6_ n7_ n8_ n9_ n10_ n11_ n12_ n13_ n14_ n15_; clear hb hbox hg; have hnb47 := NB479_451.out; have hnc47 := NB451_479.out; have hnb48 := NB479_452.out; have hnc48 := NB452_479.out; have hnb49 := NB479_463.out; have hnc49 := NB463_479.out; have hnb50 := NB479_470.out; have hnc50 := NB470_479.out; obtain ⟨hcz51_0, hcz51_1, hfz51_0, hfz51_1⟩ := cl2 BK479) | ((with_reducible refine gate_callee (f := 22) rfl ?_); refine goesL_ (some 67) rfl rfl Try.func22 (by kernel_rfl) rfl #[.string a2] rfl gS ?_; (with_reducible refine (spoorref11_GetAction.calls k a2 t480 t481 t482 t483 _ A11.out).mono ?_); rintro e w52 ⟨rfl, hb⟩; refine ⟨_, rfl, ?_⟩; have n0_ := Bx2 BK451 hb NB451_479.out NB451_479.out; have n1_ := Bx2 BK452 hb NB452_479.out NB452_479.out; have n2_ := Bx2 BK463 hb NB463_479.out NB463_479.out; have n3_ := Bx2 BK470 hb NB470_479.out NB470_479.out; have n4_ := Ax (blk_below (g := gb479) (o := .cells #[.int .u8 t475, .int .i64 t476] 30 (0, 0)) (by (with_reducible repeat (first | refine blk_drewN ?_ _ | refine blk_drew ?_ | refine blk_alloc ?_ _)); refine blk_put (cs := #[.int .u8 t475, .int .i64 0]) ?_ 1 _ rfl; (with_reducible repeat (first | refine blk_drewN ?_ _ | refine blk_drew ?_ | refine blk_alloc ?_ _)); refine blk_put (cs := #[.int .u8 0, .int .i64 0]) ?_ 0 _ rfl; (with_reducible repeat (first | refine blk_drewN ?_ _ | refine blk_drew ?_ | refine blk_alloc ?_ _)); exact BK479.out) hb); have n5_ := Bs5 HB hb GE451.out GE452.out GE463.out GE470.out GE479.out; clear BK451; clear BK452; clear BK463; clear BK470; clear BK479; clear HB; have BK451 := n0_; have BK452 := n1_; have BK463 := n2_; have BK470 := n3_; have BK479 := n4_; have HB := n5_; clear n0_ n1_ n2_ n3_ n4_ n5_; (try clear hb)) | ((with_reducible refine gate_dst (N := 24) rfl ?_); refine box_event ?hg (N := 24) ?hd (cs := #[.int .u8 0, .int .i64 0]) (t := 30) ?hr ?_; (case hd => rfl); (case hg => rfl); (case hr => first | (go_simp; done) | (go_simp; rfl)); intro gb484 hg w53 hbox hb; have n0_ := Bx0 BK451 hb; have n1_ := Bx0 BK452 hb; have n2_ := Bx0 BK463 hb; have n3_ := Bx0 BK470 hb; have n4_ := Bx0 BK479 hb; have n5_ := Bs5 HB hb GE451.out GE452.out GE463.out GE470.out GE479.out; have n6_ := Ax (hbox); have n7_ := Gw5 HB hg GE451.out GE452.out GE463.out GE470.out GE479.out; have n8_ := Gw5 HB hg GE451.out GE452.out GE463.out GE470.out GE479.out; have n9_ := Nl0 BK451 hg; have n10_ := Nr0 BK451 hg; have n11_ := Nl0 BK452 hg; have n12_ := Nr0 BK452 hg; have n13_ := Nl0 BK463 hg; have n14_ := Nr0 BK463 hg; have n15_ := Nl0 BK470 hg; have n16_ := Nr0 BK470 hg; have n17_ := Nl0 BK479 hg; have n18_ := Nr0 BK479 hg; clear BK451; clear BK452; clear BK463; clear BK470; clear BK479; clear HB; have BK451 := n0_; have BK452 := n1_; have BK463 := n2_; have BK470 := n3_; have BK479 := n4_; have HB := n5_; have BK484 := n6_; have GW484 := n7_; have GE484 := n8_; have NB451_484 := n9_; have NB484_451 := n10_; have NB452_484 := n11_; have NB484_452 := n12_; have NB463_484 := n13_; have NB484_463 := n14_; have NB470_484 := n15_; have NB484_470 := n16_; have NB479_484 := n17_; have NB484_479 := n18_; clear n0_ n1_ n2_ n3_ n4_ n5_ n6_ n7_ n8_ n9_ n10_ n11_ n12_ n13_ n14_ n15_ n16_ n17_ n18_; clear hb hbox hg; have hnb54 := NB484_451.out; have hnc54 := NB451_484.out; have hnb55 := NB484_452.out; have hnc55 := NB452_484.out; have hnb56 := NB484_463.out; have hnc56 := NB463_484.out; have hnb57 := NB484_470.out; have hnc57 := NB470_484.out; have hnb58 := NB484_479.out; have hnc58 := NB479_484.out; obtain ⟨hcz59_0, hcz59_1, hfz59_0, hfz59_1⟩ := cl2 BK484) | ((with_reducible refine gate_callee (f := 12) rfl ?_); refine goesL_ (some 71) rfl rfl Try.func12 (by kernel_rfl) rfl #[] rfl gS ?_; (with_reducible refine (spoorlaw11_lives.calls k  true _ A12.out).mono ?_); rintro e w60 ⟨rfl, hb⟩; refine ⟨_, rfl, ?_⟩; have n0_ := Bx2 BK451 hb NB451_484.out NB451_484.out; have n1_ := Bx2 BK452 hb NB452_484.out NB452_484.out; have n2_ := Bx2 BK463 hb NB463_484.out NB463_484.out; have n3_ := Bx2 BK470 hb NB470_484.out NB470_484.out; have n4_ := Bx2 BK479 hb NB479_484.out NB479_484.out; have n5_ := Ax (blk_below (g := gb484) (o := .cells #[.int .u8 t480, .int .i64 t481] 30 (0, 0)) (by (with_reducible repeat (first | refine blk_drewN ?_ _ | refine blk_drew ?_ | refine blk_alloc ?_ _)); refine blk_put (cs := #[.int .u8 t480, .int .i64 0]) ?_ 1 _ rfl; (with_reducible repeat (first | refine blk_drewN ?_ _ | refine blk_drew ?_ | refine blk_alloc ?_ _)); refine blk_put (cs := #[.int .u8 0, .int .i64 0]) ?_ 0 _ rfl; (with_reducible repeat (first | refine blk_drewN ?_ _ | refine blk_drew ?_ | refine blk_alloc ?_ _)); exact BK484.out) hb); have n6_ := Bs6 HB hb GE451.out GE452.out GE463.out GE470.out GE479.out GE484.out; clear BK451; clear BK452; clear BK463; clear BK470; clear BK479; clear BK484; clear HB; have BK451 := n0_; have BK452 := n1_; have BK463 := n2_; have BK470 := n3_; have BK479 := n4_; have BK484 := n5_; have HB := n6_; clear n0_ n1_ n2_ n3_ n4_ n5_ n6_; (try clear hb); obtain ⟨hcz61_0, hcz61_1, hcz61_2, hcz61_3, hfz61_0, hfz61_1, hfz61_2, hfz61_3⟩ := cl4 BK463; obtain ⟨hcz62_0, hcz62_1, hcz62_2, hcz62_3, hfz62_0, hfz62_1, hfz62_2, hfz62_3⟩ := cl4 BK470; obtain ⟨hcz63_0, hcz63_1, hfz63_0, hfz63_1⟩ := cl2 BK479; obtain ⟨hcz64_0, hcz64_1, hfz64_0, hfz64_1⟩ := cl2 BK484))
           go_ret
           exact ⟨eS, bw6 HB.out GE451.out GE452.out GE463.out GE470.out GE479.out GE484.out⟩
          ·rw [if_neg c22] at H
           exact absurd H (by simp)
         ·rw [if_neg c21] at H
          exact absurd H (by simp)
        ·rw [if_neg c20] at H
         exact absurd H (by simp)
       ·rw [if_neg c19] at H
        exact absurd H (by simp)
      ·rw [if_neg c18] at H
       exact absurd H (by simp)
     ·rw [if_neg c17] at H
      exact absurd H (by simp)
    ·rw [if_neg c16] at H
     exact absurd H (by simp)
   ·rw [if_neg c15] at H
    exact absurd H (by simp)
  ·rw [if_neg c14] at H
   exact absurd H (by simp)
 ·replace c13 := Bool.eq_false_iff.mpr c13
  subst c13
  have H1 : (none) = some r := by rw [if_neg (show ¬ (false = true) by decide)] at H; exact H
  clear H
  have H := H1
  clear H1
  exact absurd H (by simp)
end Go.Proofs.Ytodgadhegcjbhaa.Q
end
section
namespace Go.Proofs.Ytodgadhegcjbhaa.Open
set_option linter.unusedVariables false
open Go.RowKit Go.WideShapes Go.Proofs.YtodgadhegcjbhaaW.PrintWords Go.Proofs.YtodgadhegcjbhaaW.PrintLast Go.Proofs.YtodgadhegcjbhaaW.PrintMore
open Go.Proofs.Ytodgadhegcjbhaa.Rows (uptoBulk uptoBulkAll)
def Opens {α : Type} (P : Program) (t : TypeId) (K : Kd α) (wf : α → Prop) (mu : α → Nat) : Prop :=
  ∀ {H : Type} (enc : TypeId × Value → H) (W : World) (spare : Nat → Bool) (held : Bool) (n : Nat) (cs : List Value) (x : DataW H × List MemPlace),
    DataW.trod enc P W 0 spare held n t cs = some x → ∃ a, K.K W a cs ∧ wf a ∧ mu a ≤ uptoBulk x.1
def wfInt (k : IntKind) (n : Int) : Prop := (Lit.int k n).wf = true
def wfStr (s : ByteArray) : Prop := s.size ≤ maxLen
def wfAny {α : Type} (_ : α) : Prop := True
def mu1 {α : Type} (_ : α) : Nat := 1
def muStr (s : ByteArray) : Nat := s.size + 1
theorem opens_int {P : Program} {t : TypeId} {k : IntKind} (hu : P.underlying t = some (.int k)) : Opens P t (Kd.int k) (wfInt k) mu1 := by
  intro H enc W spare held n cs x h
  obtain ⟨a, rfl, rfl, hw⟩ := DataW.trod_int hu h
  exact ⟨a, rfl, hw, by simp [mu1, uptoBulk]⟩
theorem opens_bool {P : Program} {t : TypeId} (hu : P.underlying t = some .bool) : Opens P t Kd.bool wfAny mu1 := by
  intro H enc W spare held n cs x h
  obtain ⟨a, rfl, rfl⟩ := DataW.trod_bool hu h
  exact ⟨a, rfl, trivial, by simp [mu1, uptoBulk]⟩
theorem opens_string {P : Program} {t : TypeId} (hu : P.underlying t = some .string) : Opens P t Kd.string wfStr muStr := by
  intro H enc W spare held n cs x h
  obtain ⟨s, rfl, rfl, hs⟩ := DataW.trod_string hu h
  exact ⟨s, rfl, hs, by simp [muStr, uptoBulk]⟩
theorem sized_text {H : Type} {enc : TypeId × Value → H} {P : Program} {W : World} {base : Nat} {spare : Nat → Bool} {held : Bool} {t : TypeId} {s : ByteArray} {d : DataW H} {ps : List MemPlace} {ts : List TypeId} {ds : List (DataW H)} {j : Nat}
    (hsz : (DataW.weightsEach P ts ds).all (· ≤ reachBytes) = true) (ht : ts[j]? = some t) (hd : ds[j]? = some d) (hu : P.underlying t = some .string)
    (h : DataW.Trod enc P W base spare held t (.string s) d ps) : s.size ≤ 140737488351232 := by
  obtain ⟨fuel, hf⟩ := h
  obtain ⟨s', hcs, hx, hs⟩ := DataW.trod_string hu hf
  simp [Value.cells] at hcs
  subst hcs
  obtain ⟨hx, _⟩ := Prod.mk.inj hx
  subst hx
  have z := sized_string hsz ht hd
  rw [Array.length_toList] at z
  exact z
end Go.Proofs.Ytodgadhegcjbhaa.Open
end
section
namespace Go.Proofs.Ytodgadhegcjbhaa.Q
set_option linter.unusedVariables false
set_option linter.unusedSimpArgs false
open Go.RowKit Go.Proofs.YtodgadhegcjbhaaW.PrintWords Go.Proofs.YtodgadhegcjbhaaW.PrintLast Go.Proofs.YtodgadhegcjbhaaW.PrintMore Go.Proofs.Ytodgadhegcjbhaa.Open
open Go.Proofs.Ytodgadhegcjbhaa.Rows (uptoBulk uptoBulkAll)
def wf25 (x : S25) : Prop := (wfInt .u64) x.f0 ∧ (wfInt .u64) x.f1
def mu25 (x : S25) : Nat := mu1 x.f0 + mu1 x.f1 + 1
theorem opn25 : Opens Try.prog 25 k25 wf25 mu25 := by
  intro H enc W spare held n cs x h
  obtain ⟨xs, m, rfl, rfl, hl, hs, hf⟩ := DataW.trod_struct Try.underlying25 h
  have hc : cs.length = 2 := hl.trans (by kernel_rfl)
  have hx : xs.length = 2 := hs
  clear hl hs h
  match cs, hc, xs, hx, hf with
  | [c0, c1], _, [y0, y1], _, hf =>
    have e0 : Try.prog.cellsOf 23 = 1 := by kernel_rfl
    have e1 : Try.prog.cellsOf 23 = 1 := by kernel_rfl
    have g0 := hf 0 _ rfl
    simp only [List.getElem_toArray, List.getElem_cons_zero, List.getElem_cons_succ, e0] at g0
    obtain ⟨a0, K0, w0, m0⟩ := (opens_int Try.underlying23) enc W spare held m [c0] y0 g0
    have g1 := hf 1 _ rfl
    simp only [List.getElem_toArray, List.getElem_cons_zero, List.getElem_cons_succ, e1] at g1
    obtain ⟨a1, K1, w1, m1⟩ := (opens_int Try.underlying23) enc W spare held m [c1] y1 g1
    exact ⟨⟨a0, a1⟩, ⟨[c0], [c1], rfl, K0, K1⟩, ⟨w0, w1⟩, by simp only [mu25, List.map_cons, List.map_nil, uptoBulk, uptoBulkAll]; omega⟩
def wf27 (x : S27) : Prop := wfAny x.f0 ∧ wf25 x.f1 ∧ (wfInt .i64) x.f2
def mu27 (x : S27) : Nat := mu1 x.f0 + mu25 x.f1 + mu1 x.f2 + 1
theorem opn27 : Opens Try.prog 27 k27 wf27 mu27 := by
  intro H enc W spare held n cs x h
  obtain ⟨xs, m, rfl, rfl, hl, hs, hf⟩ := DataW.trod_struct Try.underlying27 h
  have hc : cs.length = 4 := hl.trans (by kernel_rfl)
  have hx : xs.length = 3 := hs
  clear hl hs h
  match cs, hc, xs, hx, hf with
  | [c0, c1, c2, c3], _, [y0, y1, y2], _, hf =>
    have e0 : Try.prog.cellsOf 4 = 1 := by kernel_rfl
    have e1 : Try.prog.cellsOf 25 = 2 := by kernel_rfl
    have e2 : Try.prog.cellsOf 3 = 1 := by kernel_rfl
    have g0 := hf 0 _ rfl
    simp only [List.getElem_toArray, List.getElem_cons_zero, List.getElem_cons_succ, e0] at g0
    obtain ⟨a0, K0, w0, m0⟩ := (opens_bool Try.underlying4) enc W spare held m [c0] y0 g0
    have g1 := hf 1 _ rfl
    simp only [List.getElem_toArray, List.getElem_cons_zero, List.getElem_cons_succ, e1] at g1
    obtain ⟨a1, K1, w1, m1⟩ := opn25 enc W spare held m [c1, c2] y1 g1
    have g2 := hf 2 _ rfl
    simp only [List.getElem_toArray, List.getElem_cons_zero, List.getElem_cons_succ, e2] at g2
    obtain ⟨a2, K2, w2, m2⟩ := (opens_int Try.underlying3) enc W spare held m [c3] y2 g2
    exact ⟨⟨a0, a1, a2⟩, ⟨[c0], [c1, c2, c3], rfl, K0, ⟨[c1, c2], [c3], rfl, K1, K2⟩⟩, ⟨w0, w1, w2⟩, by simp only [mu27, List.map_cons, List.map_nil, uptoBulk, uptoBulkAll]; omega⟩
def wf30 (x : S30) : Prop := (wfInt .u8) x.f0 ∧ (wfInt .i64) x.f1
def mu30 (x : S30) : Nat := mu1 x.f0 + mu1 x.f1 + 1
theorem opn30 : Opens Try.prog 30 k30 wf30 mu30 := by
  intro H enc W spare held n cs x h
  obtain ⟨xs, m, rfl, rfl, hl, hs, hf⟩ := DataW.trod_struct Try.underlying30 h
  have hc : cs.length = 2 := hl.trans (by kernel_rfl)
  have hx : xs.length = 2 := hs
  clear hl hs h
  match cs, hc, xs, hx, hf with
  | [c0, c1], _, [y0, y1], _, hf =>
    have e0 : Try.prog.cellsOf 28 = 1 := by kernel_rfl
    have e1 : Try.prog.cellsOf 3 = 1 := by kernel_rfl
    have g0 := hf 0 _ rfl
    simp only [List.getElem_toArray, List.getElem_cons_zero, List.getElem_cons_succ, e0] at g0
    obtain ⟨a0, K0, w0, m0⟩ := (opens_int Try.underlying28) enc W spare held m [c0] y0 g0
    have g1 := hf 1 _ rfl
    simp only [List.getElem_toArray, List.getElem_cons_zero, List.getElem_cons_succ, e1] at g1
    obtain ⟨a1, K1, w1, m1⟩ := (opens_int Try.underlying3) enc W spare held m [c1] y1 g1
    exact ⟨⟨a0, a1⟩, ⟨[c0], [c1], rfl, K0, K1⟩, ⟨w0, w1⟩, by simp only [mu30, List.map_cons, List.map_nil, uptoBulk, uptoBulkAll]; omega⟩
end Go.Proofs.Ytodgadhegcjbhaa.Q
end
section
namespace Go.Proofs.Ytodgadhegcjbhaa.Q
set_option linter.unusedVariables false
open Go.RowKit Go.Proofs.YtodgadhegcjbhaaW.PrintWords Go.Proofs.YtodgadhegcjbhaaW.PrintLast Go.Proofs.YtodgadhegcjbhaaW.PrintMore Go.Proofs.Ytodgadhegcjbhaa.Open
def spoorlaw11_MsgParts.Pure : Prop := ∀ (a0_0 : Bool) (a0_1 : Int) (a0_2 : Int) (a0_3 : Int) (a1_0 : Int) (a1_1 : Int) (a2 : ByteArray), wf27 (⟨a0_0, (⟨a0_1, a0_2⟩ : S25), a0_3⟩ : S27) → wf30 (⟨a1_0, a1_1⟩ : S30) → wfStr a2 → a2.size ≤ 140737488351232 → ∃ k, spoorlaw11_MsgParts.f k a0_0 a0_1 a0_2 a0_3 a1_0 a1_1 a2 = some true
end Go.Proofs.Ytodgadhegcjbhaa.Q
end
section
namespace Go.Proofs.Ytodgadhegcjbhaa.Base
set_option linter.unusedVariables false
open Go.RowKit Go.Proofs.YtodgadhegcjbhaaW.PrintWords Go.Proofs.YtodgadhegcjbhaaW.PrintLast Go.Proofs.YtodgadhegcjbhaaW.PrintMore
theorem Ev.pos {α : Type} {c : Prop} [Decidable c] {f g : Nat → Option α} {r : α} (h : c) (k : Ev f r) : Ev (fun n => if c then f n else g n) r := Ev.congr (fun _ => if_pos h) k
theorem Ev.neg {α : Type} {c : Prop} [Decidable c] {f g : Nat → Option α} {r : α} (h : ¬ c) (k : Ev g r) : Ev (fun n => if c then f n else g n) r := Ev.congr (fun _ => if_neg h) k
theorem Ev.const {α : Type} {o : Option α} {r : α} (h : o = some r) : Ev (fun _ => o) r := ⟨0, fun _ _ => h⟩
theorem Ev.succ {α : Type} {g : Nat → Option α} {r : α} (h : Ev (fun k => g (k + 1)) r) : Ev g r := Ev.step (fun _ => rfl) h
theorem Ev.to {α : Type} {g : Nat → Option α} {r q : α} (h : Ev g r) (e : r = q) : Ev g q := e ▸ h
theorem w64 {n : Int} (h0 : -9223372036854775808 ≤ n) (h1 : n ≤ 9223372036854775807) : wrap64 n = n := by unfold wrap64; omega
theorem u64w {n : Int} (h0 : 0 ≤ n) (h1 : n < 18446744073709551616) : IntKind.u64.wrap n = n := by
  simp [IntKind.wrap, IntKind.bits, IntKind.signed]
  omega
theorem u64m (n : Int) : IntKind.u64.wrap n = n % 18446744073709551616 := by simp [IntKind.wrap, IntKind.bits, IntKind.signed]
theorem wf_u64 {n : Int} (h : (Lit.int .u64 n).wf = true) : 0 ≤ n ∧ n < 18446744073709551616 := by
  have h1 : IntKind.u64.min ≤ n ∧ n ≤ IntKind.u64.max := by simpa [Lit.wf] using h
  have a : IntKind.u64.min = 0 := by decide
  have b : IntKind.u64.max = 18446744073709551615 := by decide
  omega
def Bytes (l : List Int) : Prop := ∀ x ∈ l, 0 ≤ x ∧ x < 256
theorem Bytes.nil : Bytes [] := fun _ h => by cases h
theorem Bytes.cons {x : Int} {l : List Int} (h0 : 0 ≤ x) (h1 : x < 256) (h : Bytes l) : Bytes (x :: l) := fun y hy => by
  rcases List.mem_cons.1 hy with rfl | hy
  · exact ⟨h0, h1⟩
  · exact h y hy
theorem Bytes.head {x : Int} {l : List Int} (h : Bytes (x :: l)) : 0 ≤ x ∧ x < 256 := h x (by simp)
theorem Bytes.tail {x : Int} {l : List Int} (h : Bytes (x :: l)) : Bytes l := fun y hy => h y (by simp [hy])
theorem Bytes.append {a b : List Int} (ha : Bytes a) (hb : Bytes b) : Bytes (a ++ b) := fun x hx => (List.mem_append.1 hx).elim (ha x) (hb x)
theorem Bytes.left {a b : List Int} (h : Bytes (a ++ b)) : Bytes a := fun x hx => h x (by simp [hx])
theorem Bytes.right {a b : List Int} (h : Bytes (a ++ b)) : Bytes b := fun x hx => h x (by simp [hx])
theorem Bytes.drop {l : List Int} (h : Bytes l) (n : Nat) : Bytes (l.drop n) := fun x hx => h x (List.mem_of_mem_drop hx)
theorem Bytes.take {l : List Int} (h : Bytes l) (n : Nat) : Bytes (l.take n) := fun x hx => h x (List.mem_of_mem_take hx)
theorem bytesOf_bytes (s : ByteArray) : Bytes (bytesOf s) := by
  intro x hx
  obtain ⟨b, _, rfl⟩ := List.mem_map.1 hx
  have := b.toNat_lt
  omega
theorem str_ext {a b : ByteArray} (h : a.data.toList = b.data.toList) : a = b := by
  cases a with | mk a => cases b with | mk b =>
  have : a = b := Array.toList_inj.mp h
  rw [this]
theorem str_bytes (s : ByteArray) : strOfNums (bytesOf s) = s := by
  refine str_ext ?_
  rw [strOfNums_data, bytesOf, List.map_map]
  conv => rhs; rw [← List.map_id s.data.toList]
  refine List.map_congr_left fun b _ => ?_
  simp
theorem bytes_str {l : List Int} (h : Bytes l) : bytesOf (strOfNums l) = l := by
  rw [bytesOf, strOfNums_data, List.map_map]
  conv => rhs; rw [← List.map_id l]
  refine List.map_congr_left fun x hx => ?_
  obtain ⟨h0, h1⟩ := h x hx
  simp
  omega
theorem str_append (a b : List Int) : strOfNums (a ++ b) = strOfNums a ++ strOfNums b := by
  refine str_ext ?_
  rw [ByteArray.data_append, Array.toList_append, strOfNums_data, strOfNums_data, strOfNums_data, List.map_append]
theorem bytes_extract (s : ByteArray) (i j : Nat) : bytesOf (s.extract i j) = ((bytesOf s).take j).drop i := by
  unfold bytesOf
  rw [ByteArray.data_extract, Array.toList_extract, List.extract_eq_take_drop, List.map_take, List.map_drop, List.drop_take]
theorem bytes_from (s : ByteArray) (i : Nat) : bytesOf (s.extract i s.size) = (bytesOf s).drop i := by
  rw [bytes_extract, List.take_of_length_le (by rw [bytesOf_length]; exact Nat.le_refl _)]
theorem str_from (s : ByteArray) (i : Nat) : s.extract i s.size = strOfNums ((bytesOf s).drop i) := by rw [← bytes_from, str_bytes]
theorem str_part (s : ByteArray) (i j : Nat) : s.extract i j = strOfNums (((bytesOf s).take j).drop i) := by rw [← bytes_extract, str_bytes]
theorem bt_of {s : ByteArray} {l : List Int} (h : bytesOf s = l) (i : Int) : bt s i = rd l i := by rw [← rd_bytesOf, h]
theorem rd_drop {l : List Int} {i : Nat} {x : Int} {r : List Int} (h : l.drop i = x :: r) : rd l (i : Int) = x := by
  have h1 : l[i]? = some x := by
    have := List.getElem?_drop (xs := l) (i := i) (j := 0)
    rw [h] at this
    simpa using this.symm
  simp [rd, List.getD_eq_getElem?_getD, h1]
theorem drop_lt {l : List Int} {i : Nat} {x : Int} {r : List Int} (h : l.drop i = x :: r) : i < l.length := by
  rcases Nat.lt_or_ge i l.length with g | g
  · exact g
  · rw [List.drop_eq_nil_of_le g] at h; cases h
theorem drop_next {α : Type} {l : List α} {i : Nat} {x : α} {r : List α} (h : l.drop i = x :: r) : l.drop (i + 1) = r := by
  rw [← List.drop_drop, h]; rfl
theorem drop_nil_le {α : Type} {l : List α} {i : Nat} (h : l.drop i = []) : l.length ≤ i := List.drop_eq_nil_iff.1 h
theorem or128 {x : Int} (h0 : 0 ≤ x) (h1 : x < 256) : Go.bits .or .u8 x 128 = x % 128 + 128 := by
  have h : ∀ n : Fin 256, Go.bits .or .u8 ((n.val : Nat) : Int) 128 = ((n.val : Nat) : Int) % 128 + 128 := by decide +kernel
  have := h ⟨x.toNat, by omega⟩
  simpa [Int.toNat_of_nonneg h0] using this
theorem andNot128 {x : Int} (h0 : 0 ≤ x) (h1 : x < 256) : Go.bits .andNot .u8 x 128 = x % 128 := by
  have h : ∀ n : Fin 256, Go.bits .andNot .u8 ((n.val : Nat) : Int) 128 = ((n.val : Nat) : Int) % 128 := by decide +kernel
  have := h ⟨x.toNat, by omega⟩
  simpa [Int.toNat_of_nonneg h0] using this
theorem bits_or_comm (k : IntKind) (x y : Int) : Go.bits .or k x y = Go.bits .or k y x := by
  unfold Go.bits
  simp only [BitVec.or_comm]
theorem wraps_u64 (n : Int) (h₀ : 0 ≤ n) (h₁ : n < 2 ^ 64) : IntKind.u64.wrap n = n := u64w h₀ (by omega)
theorem or_join {x y : Int} (i : Nat) (hx : 0 ≤ x) (hm : x % 2 ^ i = 0) (hx1 : x < 18446744073709551616) (hy : 0 ≤ y) (hy1 : y < 2 ^ i) (hy2 : y < 18446744073709551616) : Go.bits .or .u64 x y = x + y :=
  bits_join .u64 64 (by decide) wraps_u64 i x y hx hm (by omega) hy hy1 (by omega)
end Go.Proofs.Ytodgadhegcjbhaa.Base
end
section
namespace Go.Proofs.Ytodgadhegcjbhaa.Num
set_option linter.unusedVariables false
open Go.RowKit Go.Proofs.YtodgadhegcjbhaaW.PrintWords Go.Proofs.YtodgadhegcjbhaaW.PrintLast Go.Proofs.YtodgadhegcjbhaaW.PrintMore Go.Proofs.Ytodgadhegcjbhaa.Base
def putL (n : Nat) : List Int := if n < 128 then [(n : Int)] else ((n : Int) % 128 + 128) :: putL (n / 128)
termination_by n
theorem putL_small {n : Nat} (h : n < 128) : putL n = [(n : Int)] := by rw [putL, if_pos h]
theorem putL_great {n : Nat} (h : ¬ n < 128) : putL n = ((n : Int) % 128 + 128) :: putL (n / 128) := by rw [putL, if_neg h]
theorem putL_ne (n : Nat) : putL n ≠ [] := by
  rw [putL]
  split <;> simp
theorem putL_pos (n : Nat) : 0 < (putL n).length := List.length_pos_iff.2 (putL_ne n)
theorem putL_len_aux : ∀ (j n : Nat), n < 128 ^ (j + 1) → (putL n).length ≤ j + 1
  | 0, n, h => by rw [putL_small (by simpa using h)]; simp
  | j + 1, n, h => by
    by_cases g : n < 128
    · rw [putL_small g]; simp
    · rw [putL_great g, List.length_cons]
      have := putL_len_aux j (n / 128) (by
        rw [Nat.div_lt_iff_lt_mul (by decide)]
        rwa [Nat.pow_succ] at h)
      omega
theorem putL_len {n : Nat} (h : n < 18446744073709551616) : (putL n).length ≤ 10 := putL_len_aux 9 n (Nat.lt_of_lt_of_le h (by decide))
def getL : Nat → Int → List Int → Int × List Int × Int
  | _, _, [] => (0, [], 5)
  | i, n, b :: r => if i = 9 ∧ b > 1 then (0, [], 7) else if b ≥ 128 then getL (i + 1) (n + b % 128 * 128 ^ i) r else if b = 0 ∧ 0 < i then (0, [], 7) else (n + b * 128 ^ i, r, 0)
theorem getL_back : ∀ (l : List Int) (i : Nat) (n v : Int) (r : List Int), Bytes l → i ≤ 9 → getL i n l = (v, r, 0) → ∃ m : Nat, v = n + m * 128 ^ i ∧ l = putL m ++ r ∧ (0 < i → 0 < m) ∧ m * 128 ^ i < 18446744073709551616
  | [], i, n, v, r, _, _, h => by simp [getL] at h
  | b :: l, i, n, v, r, hb, hi, h => by
    obtain ⟨b0, b1⟩ := hb.head
    simp only [getL] at h
    by_cases h1 : i = 9 ∧ b > 1
    · rw [if_pos h1] at h; simp at h
    rw [if_neg h1] at h
    by_cases h2 : b ≥ 128
    · rw [if_pos h2] at h
      obtain ⟨m, hv, hl, hm, hs⟩ := getL_back l (i + 1) _ v r hb.tail (by omega) h
      have hm := hm (by omega)
      have e : (((b % 128).toNat + m * 128 : Nat) : Int) = b % 128 + m * 128 := by omega
      refine ⟨(b % 128).toNat + m * 128, ?_, ?_, by omega, ?_⟩
      · rw [hv, e, Int.pow_succ, Int.add_mul, Int.add_assoc, Int.mul_comm (128 ^ i) 128, Int.mul_assoc]
      · rw [putL_great (by omega), hl]
        have e1 : ((b % 128).toNat + m * 128) / 128 = m := by omega
        have e2 : ((((b % 128).toNat + m * 128 : Nat) : Int) % 128 + 128) = b := by omega
        rw [e1, e2]
        rfl
      · have hp : 0 < 128 ^ i := Nat.pow_pos (by decide)
        have hlt : ((b % 128).toNat + m * 128) * 128 ^ i < (m + 1) * 128 ^ (i + 1) := by
          rw [Nat.pow_succ, Nat.mul_comm (128 ^ i), ← Nat.mul_assoc]
          exact Nat.mul_lt_mul_of_pos_right (by omega) hp
        have hi8 : i ≤ 8 := by omega
        have hmm : m * 128 ^ (i + 1) < 18446744073709551616 := hs
        have key : ∀ j : Nat, j ≤ 8 → m * 128 ^ (j + 1) < 18446744073709551616 → 18446744073709551616 = 128 ^ (j + 1) * (18446744073709551616 / 128 ^ (j + 1)) := by
          intro j hj _
          have : j = 0 ∨ j = 1 ∨ j = 2 ∨ j = 3 ∨ j = 4 ∨ j = 5 ∨ j = 6 ∨ j = 7 ∨ j = 8 := by omega
          rcases this with rfl | rfl | rfl | rfl | rfl | rfl | rfl | rfl | rfl <;> decide
        have hq := key i hi8 hmm
        have hm1 : m + 1 ≤ 18446744073709551616 / 128 ^ (i + 1) := by
          have : m * 128 ^ (i + 1) < 18446744073709551616 / 128 ^ (i + 1) * 128 ^ (i + 1) := by rw [Nat.mul_comm (18446744073709551616 / _)]; omega
          exact Nat.lt_of_mul_lt_mul_right this
        have : (m + 1) * 128 ^ (i + 1) ≤ 18446744073709551616 := by
          rw [hq, Nat.mul_comm (128 ^ (i + 1))]
          exact Nat.mul_le_mul_right _ hm1
        omega
    rw [if_neg h2] at h
    by_cases h3 : b = 0 ∧ 0 < i
    · rw [if_pos h3] at h; simp at h
    rw [if_neg h3] at h
    simp only [Prod.mk.injEq, and_true] at h
    obtain ⟨rfl, rfl⟩ := h
    refine ⟨b.toNat, by rw [Int.toNat_of_nonneg b0], ?_, by omega, ?_⟩
    · rw [putL_small (by omega), Int.toNat_of_nonneg b0]; rfl
    · have : i = 0 ∨ i = 1 ∨ i = 2 ∨ i = 3 ∨ i = 4 ∨ i = 5 ∨ i = 6 ∨ i = 7 ∨ i = 8 ∨ i = 9 := by omega
      rcases this with rfl | rfl | rfl | rfl | rfl | rfl | rfl | rfl | rfl | rfl <;> simp only [Nat.reducePow] <;> omega
theorem getL_back0 {l r : List Int} {v : Int} (hb : Bytes l) (h : getL 0 0 l = (v, r, 0)) : ∃ m : Nat, v = m ∧ l = putL m ++ r ∧ m < 18446744073709551616 := by
  obtain ⟨m, hv, hl, _, hs⟩ := getL_back l 0 0 v r hb (by omega) h
  exact ⟨m, by simpa using hv, hl, by simpa using hs⟩
theorem getL_err : ∀ (l : List Int) (i : Nat) (n : Int), (getL i n l).2.2 = 0 ∨ ((getL i n l).2.2 ≠ 0 ∧ (getL i n l).1 = 0 ∧ (getL i n l).2.1 = [])
  | [], _, _ => by simp [getL]
  | b :: l, i, n => by
    simp only [getL]
    split
    · exact .inr (by simp)
    split
    · exact getL_err l _ _
    split
    · exact .inr (by simp)
    · exact .inl rfl
theorem getL_len : ∀ (l : List Int) (i : Nat) (n : Int), (getL i n l).2.1.length ≤ l.length
  | [], _, _ => by simp [getL]
  | b :: l, i, n => by
    simp only [getL]
    split
    · simp
    split
    · have := getL_len l (i + 1) (n + b % 128 * 128 ^ i); simp; omega
    split
    · simp
    · simp
end Go.Proofs.Ytodgadhegcjbhaa.Num
end
section
namespace Go.Proofs.Ytodgadhegcjbhaa.Addr
set_option linter.unusedVariables false
open Go.RowKit Go.Proofs.YtodgadhegcjbhaaW.PrintWords Go.Proofs.YtodgadhegcjbhaaW.PrintLast Go.Proofs.YtodgadhegcjbhaaW.PrintMore Go.Proofs.Ytodgadhegcjbhaa.Base
def Wn (six : Bool) : Nat := if six then 128 else 32
theorem Wn_le (six : Bool) : Wn six ≤ 128 := by cases six <;> simp [Wn]
def hi (n : Nat) : Int := ((n / 18446744073709551616 : Nat) : Int)
def lo (n : Nat) : Int := ((n % 18446744073709551616 : Nat) : Int)
theorem lo_range (n : Nat) : 0 ≤ lo n ∧ lo n < 18446744073709551616 := by unfold lo; omega
theorem hi_range {n : Nat} (h : n < 340282366920938463463374607431768211456) : 0 ≤ hi n ∧ hi n < 18446744073709551616 := by unfold hi; omega
theorem of_parts {h l : Int} (h0 : 0 ≤ h) (h1 : h < 18446744073709551616) (l0 : 0 ≤ l) (l1 : l < 18446744073709551616) : ∃ n, n < 340282366920938463463374607431768211456 ∧ h = hi n ∧ l = lo n :=
  ⟨h.toNat * 18446744073709551616 + l.toNat, by omega, by unfold hi; omega, by unfold lo; omega⟩
theorem p2pos (n : Nat) : 0 < 2 ^ n := Nat.two_pow_pos n
theorem p2le {n : Nat} (h : n ≤ 128) : 2 ^ n ≤ 340282366920938463463374607431768211456 := Nat.le_trans (Nat.pow_le_pow_right (by decide) h) (by decide)
theorem p2le64 {n : Nat} (h : n ≤ 64) : 2 ^ n ≤ 18446744073709551616 := Nat.le_trans (Nat.pow_le_pow_right (by decide) h) (by decide)
theorem p2lt64 {n : Nat} (h : n < 64) : 2 ^ n ≤ 9223372036854775808 := Nat.le_trans (Nat.pow_le_pow_right (show 0 < 2 by decide) (show n ≤ 63 by omega)) (by decide)
theorem p2split {n : Nat} (h : 64 ≤ n) : 2 ^ n = 18446744073709551616 * 2 ^ (n - 64) := by
  have : 2 ^ n = 2 ^ 64 * 2 ^ (n - 64) := by rw [← Nat.pow_add]; congr 1; omega
  rw [this]
theorem p2split' {n : Nat} (h : n ≤ 64) : 18446744073709551616 = 2 ^ n * 2 ^ (64 - n) := by
  have : 2 ^ 64 = 2 ^ n * 2 ^ (64 - n) := by rw [← Nat.pow_add]; congr 1; omega
  rw [← this]
theorem wn_pow (six : Bool) : 2 ^ Wn six ≤ 340282366920938463463374607431768211456 := p2le (Wn_le six)
theorem wn_six {n : Nat} : (n < 2 ^ Wn true) ↔ n < 340282366920938463463374607431768211456 := Iff.rfl
theorem wn_four {n : Nat} : (n < 2 ^ Wn false) ↔ n < 4294967296 := Iff.rfl
theorem mod_parts {n N : Nat} (h : 64 ≤ n) : N % 2 ^ n = 0 ↔ (N / 18446744073709551616) % 2 ^ (n - 64) = 0 ∧ N % 18446744073709551616 = 0 := by
  rw [p2split h, Nat.mod_mul]
  constructor
  · intro e
    constructor
    · rcases Nat.eq_zero_or_pos (N / 18446744073709551616 % 2 ^ (n - 64)) with z | z
      · exact z
      · omega
    · omega
  · rintro ⟨a, b⟩
    rw [a, b]
theorem mod_low {n N : Nat} (h : n ≤ 64) : (N % 18446744073709551616) % 2 ^ n = N % 2 ^ n := by
  refine Nat.mod_mod_of_dvd N ⟨2 ^ (64 - n), ?_⟩
  exact p2split' h
theorem or_zero {x y : Int} (hx : 0 ≤ x) (hx1 : x < 18446744073709551616) (hy : 0 ≤ y) (hy1 : y < 18446744073709551616) : Go.bits .or .u64 x y = 0 ↔ x = 0 ∧ y = 0 := by
  obtain ⟨a, rfl⟩ := Int.eq_ofNat_of_zero_le hx
  obtain ⟨b, rfl⟩ := Int.eq_ofNat_of_zero_le hy
  rw [(bits_nat .u64 64 (by decide) wraps_u64 a b (by omega) (by omega)).2]
  constructor
  · intro h
    have h0 : a ||| b = 0 := by exact_mod_cast h
    have := Nat.or_eq_zero_iff.1 h0
    omega
  · rintro ⟨h1, h2⟩
    have e1 : a = 0 := by omega
    have e2 : b = 0 := by omega
    subst e1; subst e2
    rfl
theorem and_mask {x : Int} {j : Nat} (hx : 0 ≤ x) (hx1 : x < 18446744073709551616) (hj : j ≤ 64) : Go.bits .and .u64 x ((2 ^ j - 1 : Nat) : Int) = x % ((2 ^ j : Nat) : Int) := by
  have := bits_mask .u64 64 (by decide) wraps_u64 j hj x hx (by omega)
  have e : ((2 ^ j - 1 : Nat) : Int) = (2 : Int) ^ j - 1 := by
    rw [Int.natCast_sub (p2pos j)]; simp
  rw [e, this]
  simp
theorem shl1 {m : Nat} (h : m < 64) : shl .u64 1 (m : Int) = ((2 ^ m : Nat) : Int) := by
  have := p2lt64 h
  unfold shl
  rw [Int.toNat_natCast, Nat.min_eq_left (by simp [IntKind.bits]; omega), Int.one_mul]
  have e : (2 : Int) ^ m = ((2 ^ m : Nat) : Int) := by simp
  rw [e]
  generalize 2 ^ m = q at *
  exact u64w (by omega) (by omega)
def bitsL : Nat → Nat → List Int
  | 0, _ => []
  | w + 1, n => bitsL w (n / 2) ++ [((n % 2 : Nat) : Int)]
theorem bitsL_len : ∀ w n, (bitsL w n).length = w
  | 0, _ => rfl
  | w + 1, n => by simp [bitsL, bitsL_len w]
theorem bitsL_split : ∀ (b a n : Nat), bitsL (a + b) n = bitsL a (n / 2 ^ b) ++ bitsL b n
  | 0, a, n => by simp [bitsL]
  | b + 1, a, n => by
    have e : n / 2 / 2 ^ b = n / 2 ^ (b + 1) := by rw [Nat.div_div_eq_div_mul, Nat.pow_succ, Nat.mul_comm]
    rw [← Nat.add_assoc, bitsL, bitsL_split b a (n / 2), e, bitsL, List.append_assoc]
theorem bitsL_zero : ∀ (w n : Nat), (∀ x ∈ bitsL w n, x = 0) ↔ n % 2 ^ w = 0
  | 0, n => by simp [bitsL, Nat.mod_one]
  | w + 1, n => by
    have ih := bitsL_zero w (n / 2)
    have e : n % 2 ^ (w + 1) = 2 * (n / 2 % 2 ^ w) + n % 2 := by
      rw [Nat.pow_succ, Nat.mul_comm, Nat.mod_mul]; omega
    rw [e]
    constructor
    · intro h
      have h1 := ih.1 (fun x hx => h x (by simp [bitsL, hx]))
      have h2 := h ((n % 2 : Nat) : Int) (by simp [bitsL])
      omega
    · intro h x hx
      rcases List.mem_append.1 hx with hx | hx
      · exact ih.2 (by omega) x hx
      · simp at hx; omega
def okP (six : Bool) (n : Nat) (len : Int) : Prop := 0 ≤ len ∧ len ≤ Wn six ∧ n < 2 ^ Wn six ∧ n % 2 ^ (Wn six - len.toNat) = 0
instance (six : Bool) (n : Nat) (len : Int) : Decidable (okP six n len) := by unfold okP; exact inferInstance
def hostN (six : Bool) (len : Int) : Nat := 2 ^ (Wn six - len.toNat) - 1
def hasP (six : Bool) (n : Nat) (len : Int) (six' : Bool) (m : Nat) : Prop := okP six n len ∧ six = six' ∧ m < 2 ^ Wn six' ∧ n ≤ m ∧ m ≤ n + hostN six len
instance (six : Bool) (n : Nat) (len : Int) (six' : Bool) (m : Nat) : Decidable (hasP six n len six' m) := by unfold hasP; exact inferInstance
end Go.Proofs.Ytodgadhegcjbhaa.Addr
end
section
namespace Go.Proofs.Ytodgadhegcjbhaa.Be
set_option linter.unusedVariables false
open Go.RowKit Go.Proofs.YtodgadhegcjbhaaW.PrintWords Go.Proofs.YtodgadhegcjbhaaW.PrintLast Go.Proofs.YtodgadhegcjbhaaW.PrintMore Go.Proofs.Ytodgadhegcjbhaa.Base
def be : Nat → Nat → List Int
  | 0, _ => []
  | j + 1, n => be j (n / 256) ++ [((n % 256 : Nat) : Int)]
def nb (l : List Int) : Nat := l.foldl (fun a b => 256 * a + b.toNat) 0
theorem snoc_ind {P : List Int → Prop} (h0 : P []) (h1 : ∀ l x, P l → P (l ++ [x])) (l : List Int) : P l := by
  have h : ∀ r : List Int, P r.reverse := by
    intro r
    induction r with
    | nil => exact h0
    | cons a r ih => rw [List.reverse_cons]; exact h1 _ _ ih
  have := h l.reverse
  rwa [List.reverse_reverse] at this
theorem nb_snoc (l : List Int) (b : Int) : nb (l ++ [b]) = 256 * nb l + b.toNat := by simp [nb, List.foldl_append]
theorem be_len : ∀ j n, (be j n).length = j
  | 0, _ => rfl
  | j + 1, n => by rw [be, List.length_append, be_len j]; rfl
theorem be_bytes : ∀ j n, Bytes (be j n)
  | 0, _ => Bytes.nil
  | j + 1, n => by
    rw [be]
    exact (be_bytes j _).append (Bytes.cons (by omega) (by omega) Bytes.nil)
theorem nb_be : ∀ j n, nb (be j n) = n % 256 ^ j
  | 0, n => by simp [be, nb, Nat.mod_one]
  | j + 1, n => by
    rw [be, nb_snoc, nb_be j, Int.toNat_natCast, Nat.pow_succ, Nat.mul_comm (256 ^ j) 256, Nat.mod_mul]
    omega
theorem be_nb (l : List Int) : Bytes l → be l.length (nb l) = l := by
  induction l using snoc_ind with
  | h0 => intro _; rfl
  | h1 l x ih =>
    intro hb
    have hx := hb.right.head
    have e : (l ++ [x]).length = l.length + 1 := by simp
    rw [e, be, nb_snoc]
    have e1 : (256 * nb l + x.toNat) / 256 = nb l := by omega
    have e2 : (((256 * nb l + x.toNat) % 256 : Nat) : Int) = x := by omega
    rw [e1, e2, ih hb.left]
theorem be_split : ∀ (b a n : Nat), be (a + b) n = be a (n / 256 ^ b) ++ be b n
  | 0, a, n => by simp [be]
  | b + 1, a, n => by
    rw [show a + (b + 1) = a + b + 1 by omega, be, be_split b a, be, Nat.div_div_eq_div_mul, Nat.pow_succ, Nat.mul_comm 256, List.append_assoc]
theorem nb_append (a b : List Int) : nb (a ++ b) = nb a * 256 ^ b.length + nb b := by
  induction b using snoc_ind with
  | h0 => simp [nb]
  | h1 l x ih =>
    rw [← List.append_assoc, nb_snoc, nb_snoc, ih, List.length_append, List.length_singleton, Nat.pow_succ, Nat.mul_add, ← Nat.add_assoc, ← Nat.mul_assoc (nb a), Nat.mul_comm 256 (nb a * _)]
theorem nb_lt (l : List Int) : Bytes l → nb l < 256 ^ l.length := by
  induction l using snoc_ind with
  | h0 => intro _; simp [nb]
  | h1 l x ih =>
    intro hb
    have hx := hb.right.head
    have := ih hb.left
    rw [nb_snoc, List.length_append, List.length_singleton, Nat.pow_succ]
    omega
theorem be_zero (j : Nat) : be j 0 = List.replicate j 0 := by
  induction j with
  | zero => rfl
  | succ j ih => rw [be, Nat.zero_div, ih, List.replicate_succ']; rfl
theorem be_mod (j n m : Nat) (h : n % 256 ^ j = m % 256 ^ j) : be j n = be j m := by
  have e : ∀ x, be j (nb (be j x)) = be j x := fun x => by
    have := be_nb (be j x) (be_bytes j x)
    rwa [be_len] at this
  rw [← e n, ← e m, nb_be, nb_be, h]
theorem nb_zeros (j : Nat) : nb (List.replicate j 0) = 0 := by rw [← be_zero, nb_be, Nat.zero_mod]
theorem bytes_zeros (n : Nat) : Bytes (List.replicate n 0) := fun x hx => by
  rw [List.eq_of_mem_replicate hx]
  omega
end Go.Proofs.Ytodgadhegcjbhaa.Be
end
section
namespace Go.Proofs.Ytodgadhegcjbhaa.Msg
set_option linter.unusedVariables false
open Go.RowKit Go.Proofs.YtodgadhegcjbhaaW.PrintWords Go.Proofs.YtodgadhegcjbhaaW.PrintLast Go.Proofs.YtodgadhegcjbhaaW.PrintMore Go.Proofs.Ytodgadhegcjbhaa.Base Go.Proofs.Ytodgadhegcjbhaa.Num Go.Proofs.Ytodgadhegcjbhaa.Addr Go.Proofs.Ytodgadhegcjbhaa.Be
def Bn (six : Bool) : Nat := if six then 16 else 4
theorem bn_wn (six : Bool) : Wn six = 8 * Bn six := by cases six <;> rfl
theorem p256 (j : Nat) : 256 ^ j = 2 ^ (8 * j) := by rw [Nat.pow_mul]
def Kn (len : Int) : Nat := (len.toNat + 7) / 8
def sixB (six : Bool) : Int := if six then 6 else 4
def preL (six : Bool) (n : Nat) (len : Int) : List Int := sixB six :: len :: (be (Bn six) n).take (Kn len)
theorem kn_le {six : Bool} {len : Int} (h : len ≤ Wn six) : Kn len ≤ Bn six := by rw [bn_wn] at h; unfold Kn; omega
def preN (six : Bool) (len : Int) (l : List Int) : Nat := nb (l.take (Kn len) ++ List.replicate (Bn six - Kn len) 0)
abbrev Pfx := Bool × Nat × Int
def getP : List Int → Option (Pfx × List Int)
  | b :: len :: l => if (b = 4 ∨ b = 6) ∧ len ≤ Wn (b == 6) ∧ Kn len ≤ l.length ∧ okP (b == 6) (preN (b == 6) len l) len then some ((b == 6, preN (b == 6) len l, len), l.drop (Kn len)) else none
  | _ => none
def okA (k i : Int) : Prop := k = 1 ∧ 0 ≤ i ∧ i ≤ 65536 ∨ (k = 2 ∨ k = 3) ∧ i = 0
instance (k i : Int) : Decidable (okA k i) := by unfold okA; exact inferInstance
def actL (k i : Int) : List Int := k :: (if k = 1 then putL i.toNat else [])
def rdN (most : Int) (l : List Int) : Option (Int × List Int) := if (getL 0 0 l).2.2 = 0 ∧ (getL 0 0 l).1 ≤ most then some ((getL 0 0 l).1, (getL 0 0 l).2.1) else none
theorem rdN_back {most v : Int} {l r : List Int} (hb : Bytes l) (h : rdN most l = some (v, r)) : 0 ≤ v ∧ v ≤ most ∧ v < 18446744073709551616 ∧ l = putL v.toNat ++ r := by
  unfold rdN at h
  split at h
  · rename_i c
    simp only [Option.some.injEq, Prod.mk.injEq] at h
    obtain ⟨m, hv, hl, hm⟩ := getL_back0 (l := l) (v := (getL 0 0 l).1) (r := (getL 0 0 l).2.1) hb (Prod.ext rfl (Prod.ext rfl c.1))
    have e : v.toNat = m := by omega
    exact ⟨by omega, by omega, by omega, by rw [e, ← h.2]; exact hl⟩
  · cases h
def getA : List Int → Option ((Int × Int) × List Int)
  | k :: l => if k = 1 then (rdN 65536 l).bind fun x => some ((1, x.1), x.2) else if k = 2 ∨ k = 3 then some ((k, 0), l) else none
  | [] => none
theorem okA_act {k i : Int} (h : okA k i) : k = 1 ∧ 0 ≤ i ∧ i ≤ 65536 ∨ k ≠ 1 ∧ (k = 2 ∨ k = 3) ∧ i = 0 := by unfold okA at h; omega
structure E11 where
  kd : Int
  ro : Int
  sq : Int
  ti : Int
  six : Bool
  n : Nat
  ln : Int
  ak : Int
  ai : Int
  ifc : Int
  pe : Int
  deriving DecidableEq
def noP (e : E11) : Prop := e.six = false ∧ e.n = 0 ∧ e.ln = 0
def noA (e : E11) : Prop := e.ak = 0 ∧ e.ai = 0
def okE (e : E11) : Prop := (0 ≤ e.ro ∧ e.ro ≤ 1048576 ∧ 1 ≤ e.sq ∧ e.sq ≤ 1099511627776 ∧ 0 ≤ e.ti ∧ e.ti ≤ 1099511627776) ∧
  ((e.kd = 1 ∨ e.kd = 2) ∧ noP e ∧ noA e ∧ e.ifc = 0 ∧ e.pe = 0 ∨ e.kd = 3 ∧ okP e.six e.n e.ln ∧ okA e.ak e.ai ∧ e.ifc = 0 ∧ e.pe = 0 ∨ e.kd = 4 ∧ okP e.six e.n e.ln ∧ noA e ∧ e.ifc = 0 ∧ e.pe = 0 ∨
   e.kd = 5 ∧ noP e ∧ noA e ∧ (0 ≤ e.ifc ∧ e.ifc ≤ 65536) ∧ (0 ≤ e.pe ∧ e.pe ≤ 1048576) ∨ e.kd = 6 ∧ noP e ∧ noA e ∧ (0 ≤ e.ifc ∧ e.ifc ≤ 65536) ∧ e.pe = 0)
instance (e : E11) : Decidable (noP e) := by unfold noP; exact inferInstance
instance (e : E11) : Decidable (noA e) := by unfold noA; exact inferInstance
instance (e : E11) : Decidable (okE e) := by unfold okE; exact inferInstance
end Go.Proofs.Ytodgadhegcjbhaa.Msg
end
section
namespace Go.Proofs.Ytodgadhegcjbhaa.Addr
set_option linter.unusedVariables false
open Go.RowKit Go.Proofs.YtodgadhegcjbhaaW.PrintWords Go.Proofs.YtodgadhegcjbhaaW.PrintLast Go.Proofs.YtodgadhegcjbhaaW.PrintMore Go.Proofs.Ytodgadhegcjbhaa.Base Go.Proofs.Ytodgadhegcjbhaa.Q
theorem right_is (six : Bool) {n : Nat} (hn : n < 340282366920938463463374607431768211456) : addr_Right.f six (hi n) (lo n) = some (decide (n < 2 ^ Wn six)) := by
  obtain ⟨h1, h2⟩ := hi_range hn
  obtain ⟨h3, h4⟩ := lo_range n
  unfold addr_Right.f
  cases six with
  | true => rw [if_pos rfl, decide_eq_true (wn_six.2 hn)]
  | false =>
    rw [if_neg (by simp)]
    by_cases h : n < 4294967296
    · rw [decide_eq_true (wn_four.2 h), if_pos (by unfold hi; omega)]
      have : lo n / 4294967296 = 0 := by unfold lo; omega
      rw [this]; rfl
    · rw [decide_eq_false (fun q => h (wn_four.1 q))]
      by_cases hz : hi n = 0
      · rw [if_pos hz]
        have : lo n / 4294967296 ≠ 0 := by unfold lo; unfold hi at hz; omega
        simp [this]
      · rw [if_neg hz]
theorem wide_is (six : Bool) : addr_Wide.f six = some ((Wn six : Nat) : Int) := by cases six <;> rfl
theorem below_is {n : Nat} (hn : n ≤ 128) : addr_below.f (n : Int) = some (hi (2 ^ n - 1), lo (2 ^ n - 1)) := by
  unfold addr_below.f
  by_cases h : n = 128
  · subst h
    rw [if_pos (by omega)]
    decide +kernel
  rw [if_neg (by omega)]
  by_cases h2 : 64 ≤ n
  · have e : wrap64 ((n : Int) - 64) = ((n - 64 : Nat) : Int) := by rw [w64 (by omega) (by omega)]; omega
    rw [if_pos (by omega), e, if_pos (by omega), shl1 (by omega)]
    have hp := p2lt64 (show n - 64 < 64 by omega)
    have hq := p2pos (n - 64)
    rw [p2split h2]
    generalize 2 ^ (n - 64) = q at *
    rw [u64w (by omega) (by omega)]
    unfold hi lo
    congr 2 <;> omega
  · rw [if_neg (by omega), if_pos (by omega), shl1 (by omega)]
    have hp := p2lt64 (show n < 64 by omega)
    have hq := p2pos n
    generalize 2 ^ n = q at *
    rw [u64w (by omega) (by omega)]
    unfold hi lo
    congr 2 <;> omega
theorem host_is (six : Bool) (a b : Int) {len : Int} (h0 : 0 ≤ len) (h1 : len ≤ Wn six) : addr_host.f six a b len = some (hi (hostN six len), lo (hostN six len)) := by
  have hw := Wn_le six
  simp only [addr_host.f, wide_is, Option.bind_some]
  have e : wrap64 (((Wn six : Nat) : Int) - len) = ((Wn six - len.toNat : Nat) : Int) := by rw [w64 (by omega) (by omega)]; omega
  rw [e, below_is (by omega)]
  rfl
theorem check_ev (six : Bool) {n : Nat} (hn : n < 340282366920938463463374607431768211456) (len : Int) : Ev (fun k => addr_Check.f k six (hi n) (lo n) len) (if okP six n len then 0 else 2) := by
  have hw := Wn_le six
  have bad : ¬ okP six n len → Ev (fun k => addr_Check.j0 k true six (hi n) (lo n) len) (if okP six n len then 0 else 2) := by
    intro h
    rw [if_neg h]
    refine Ev.succ ?_
    simp only [addr_Check.j0]
    exact Ev.pos trivial (Ev.now _)
  simp only [addr_Check.f, wide_is, right_is six hn, Option.bind_some]
  by_cases h0 : len < 0
  · exact Ev.pos h0 (bad (fun h => by have := h.1; omega))
  refine Ev.neg h0 ?_
  by_cases h1 : len > ((Wn six : Nat) : Int)
  · exact Ev.pos h1 (bad (fun h => by have := h.2.1; omega))
  refine Ev.neg h1 ?_
  by_cases h2 : n < 2 ^ Wn six
  · rw [decide_eq_true h2]
    refine Ev.succ ?_
    simp only [addr_Check.j0, host_is six _ _ (show 0 ≤ len by omega) (show len ≤ ((Wn six : Nat) : Int) by omega), Option.bind_some]
    refine Ev.neg (by simp) ?_
    obtain ⟨a0, a1⟩ := hi_range hn
    obtain ⟨b0, b1⟩ := lo_range n
    have hk : Wn six - len.toNat ≤ 128 := by omega
    have key : Go.bits .or .u64 (Go.bits .and .u64 (hi n) (hi (hostN six len))) (Go.bits .and .u64 (lo n) (lo (hostN six len))) = 0 ↔ n % 2 ^ (Wn six - len.toNat) = 0 := by
      unfold hostN
      generalize Wn six - len.toNat = k at *
      have hp := p2pos k
      by_cases g : 64 ≤ k
      · have e1 : hi (2 ^ k - 1) = ((2 ^ (k - 64) - 1 : Nat) : Int) := by
          rw [p2split g]
          have := p2pos (k - 64)
          generalize 2 ^ (k - 64) = q at *
          unfold hi; omega
        have e2 : lo (2 ^ k - 1) = ((2 ^ 64 - 1 : Nat) : Int) := by
          rw [p2split g]
          have := p2pos (k - 64)
          generalize 2 ^ (k - 64) = q at *
          unfold lo; omega
        have p64 := p2le64 (show k - 64 ≤ 64 by omega)
        have q64 := p2pos (k - 64)
        rw [e1, e2, and_mask a0 a1 (by omega), and_mask b0 b1 (by omega), mod_parts g]
        have hm := Int.emod_nonneg (hi n) (show ((2 ^ (k - 64) : Nat) : Int) ≠ 0 by omega)
        have hl := Int.emod_lt_of_pos (hi n) (show (0 : Int) < ((2 ^ (k - 64) : Nat) : Int) by omega)
        rw [or_zero hm (by omega) (by omega) (by omega)]
        have c1 : hi n % ((2 ^ (k - 64) : Nat) : Int) = ((n / 18446744073709551616 % 2 ^ (k - 64) : Nat) : Int) := by unfold hi; simp
        have c2 : lo n % ((2 ^ 64 : Nat) : Int) = ((n % 18446744073709551616 : Nat) : Int) := by unfold lo; omega
        rw [c1, c2]
        omega
      · have g' : k ≤ 64 := by omega
        have p64 := p2lt64 (show k < 64 by omega)
        have e1 : hi (2 ^ k - 1) = ((2 ^ 0 - 1 : Nat) : Int) := by
          generalize 2 ^ k = q at *
          unfold hi; omega
        have e2 : lo (2 ^ k - 1) = ((2 ^ k - 1 : Nat) : Int) := by
          generalize 2 ^ k = q at *
          unfold lo; omega
        rw [e1, e2, and_mask a0 a1 (by omega), and_mask b0 b1 g', ← mod_low g']
        have hm := Int.emod_nonneg (lo n) (show ((2 ^ k : Nat) : Int) ≠ 0 by omega)
        have hl := Int.emod_lt_of_pos (lo n) (show (0 : Int) < ((2 ^ k : Nat) : Int) by omega)
        rw [or_zero (by omega) (by omega) hm (by omega)]
        have c2 : lo n % ((2 ^ k : Nat) : Int) = ((n % 18446744073709551616 % 2 ^ k : Nat) : Int) := by unfold lo; simp
        rw [c2]
        omega
    by_cases z : n % 2 ^ (Wn six - len.toNat) = 0
    · rw [if_pos (show okP six n len from ⟨by omega, by omega, h2, z⟩)]
      exact Ev.pos (key.2 z) (Ev.now _)
    · rw [if_neg (fun h : okP six n len => z h.2.2.2)]
      exact Ev.neg (fun h => z (key.1 h)) (Ev.now _)
  · rw [decide_eq_false h2]
    exact bad (fun h => h2 h.2.2.1)
theorem rright_is (six : Bool) {n : Nat} (hn : n < 340282366920938463463374607431768211456) : spoorref09_Right.f six (hi n) (lo n) = some (decide (n < 2 ^ Wn six)) := by
  unfold spoorref09_Right.f
  cases six with
  | true => rw [decide_eq_true (wn_six.2 hn)]; rfl
  | false =>
    rw [if_neg (by simp)]
    by_cases hz : hi n = 0
    · rw [if_pos hz]
      refine congrArg some (decide_eq_decide.2 ?_)
      rw [wn_four]
      unfold lo
      unfold hi at hz
      omega
    · rw [if_neg hz, decide_eq_false]
      rw [wn_four]
      unfold hi at hz
      omega
theorem rwide_is (six : Bool) : spoorref09_Wide.f six = some ((Wn six : Nat) : Int) := by cases six <;> rfl
theorem set_mid (j : Nat) (suf : List Int) (b : Int) : (List.replicate (j + 1) (0 : Int) ++ suf).set j b = List.replicate j 0 ++ (b :: suf) := by
  rw [List.replicate_succ', List.append_assoc, List.set_append_right _ _ (by simp)]
  simp
theorem bits_aux : ∀ (j n : Nat) (suf : List Int), n < 340282366920938463463374607431768211456 → j ≤ 128 → Ev (fun k => spoorref09_bits.l0 k (List.replicate j 0 ++ suf) (lo n) (hi n) ((j : Int) - 1)) (bitsL j n ++ suf)
  | 0, n, suf, hn, _ => by
    refine Ev.succ ?_
    simp only [spoorref09_bits.l0]
    exact Ev.neg (by omega) (Ev.const (by simp [bitsL]))
  | j + 1, n, suf, hn, hj => by
    refine Ev.succ ?_
    simp only [spoorref09_bits.l0]
    refine Ev.pos (by omega) (Ev.pos (by omega) (Ev.pos (by simp; omega) ?_))
    have e1 : wrap64 (Int.tmod (lo n) 2) = ((n % 2 : Nat) : Int) := by
      rw [Int.tmod_eq_emod_of_nonneg (lo_range n).1, w64 (by omega) (by omega)]
      unfold lo; omega
    have e2 : IntKind.u64.wrap (IntKind.u64.wrap (Int.tdiv (lo n) 2) + IntKind.u64.wrap (Int.tmod (hi n) 2 * 9223372036854775808)) = lo (n / 2) := by
      rw [Int.tdiv_eq_ediv_of_nonneg (lo_range n).1, Int.tmod_eq_emod_of_nonneg (hi_range hn).1, u64m, u64m, u64m]
      unfold lo hi
      omega
    have e3 : IntKind.u64.wrap (Int.tdiv (hi n) 2) = hi (n / 2) := by
      rw [Int.tdiv_eq_ediv_of_nonneg (hi_range hn).1, u64m]
      unfold hi
      omega
    have e4 : wrap64 (((j + 1 : Nat) : Int) - 1 - 1) = (j : Int) - 1 := by rw [w64 (by omega) (by omega)]; omega
    have e5 : (((j + 1 : Nat) : Int) - 1).toNat = j := by omega
    rw [e1, e2, e3, e4, e5, set_mid]
    refine Ev.to (bits_aux j (n / 2) (((n % 2 : Nat) : Int) :: suf) (by omega) (by omega)) ?_
    simp [bitsL]
theorem bits_ev (six : Bool) {n : Nat} (hn : n < 340282366920938463463374607431768211456) : Ev (fun k => spoorref09_bits.f k six (hi n) (lo n)) (bitsL (Wn six) n) := by
  have hw := Wn_le six
  simp only [spoorref09_bits.f, rwide_is, Option.bind_some, Int.toNat_natCast]
  refine Ev.pos (by omega) (Ev.pos (by omega) ?_)
  have := bits_aux (Wn six) n [] hn hw
  simp only [List.append_nil] at this
  have e : wrap64 (((List.replicate (Wn six) (0 : Int)).length : Int) - 1) = (Wn six : Int) - 1 := by rw [List.length_replicate, w64 (by omega) (by omega)]
  rw [e]
  exact this
theorem check_aux (l : List Int) (len : Int) (hl : l.length ≤ 128) (s : Bool) (a b : Int) : ∀ (r : List Int) (j : Nat), l.drop j = r → Ev (fun k => spoorref09_Check.l0 k l (l.length : Int) (j : Int) s a b len) (if ∀ x ∈ r.drop (len.toNat - j), x = 0 then 0 else 2)
  | [], j, hj => by
    have := drop_nil_le hj
    refine Ev.succ ?_
    simp only [spoorref09_Check.l0]
    exact Ev.neg (by omega) (Ev.const (by simp))
  | x :: r, j, hj => by
    have hlt := drop_lt hj
    have hx := rd_drop hj
    have e0 : wrap64 ((j : Int) + 1) = ((j + 1 : Nat) : Int) := by rw [w64 (by omega) (by omega)]; omega
    have ih := check_aux l len hl s a b r (j + 1) (drop_next hj)
    refine Ev.succ ?_
    simp only [spoorref09_Check.l0]
    refine Ev.pos (by omega) (Ev.pos (by omega) (Ev.pos (by omega) ?_))
    rw [e0, hx]
    by_cases h : (j : Int) ≥ len
    · have d0 : len.toNat - j = 0 := by omega
      have d1 : len.toNat - (j + 1) = 0 := by omega
      rw [d1, List.drop_zero] at ih
      rw [d0, List.drop_zero]
      refine Ev.pos h ?_
      by_cases hz : x = 0
      · refine Ev.pos hz (Ev.to ih ?_)
        by_cases hr : ∀ y ∈ r, y = 0
        · rw [if_pos hr, if_pos (fun y hy => (List.mem_cons.1 hy).elim (fun e => e.trans hz) (hr y))]
        · rw [if_neg hr, if_neg (fun q => hr (fun y hy => q y (by simp [hy])))]
      · rw [if_neg (fun q => hz (q x (by simp)))]
        exact Ev.neg hz (Ev.now _)
    · refine Ev.neg h (Ev.to ih ?_)
      have d0 : len.toNat - j = (len.toNat - (j + 1)) + 1 := by omega
      rw [d0, List.drop_succ_cons]
theorem bitsL_drop {w a n : Nat} (h : a ≤ w) : (bitsL w n).drop a = bitsL (w - a) n := by
  have e : w = a + (w - a) := by omega
  conv => lhs; rw [e, bitsL_split (w - a) a n]
  rw [List.drop_left' (bitsL_len _ _)]
theorem rcheck_ev (six : Bool) {n : Nat} (hn : n < 340282366920938463463374607431768211456) (len : Int) : Ev (fun k => spoorref09_Check.f k six (hi n) (lo n) len) (if okP six n len then 0 else 2) := by
  have hw := Wn_le six
  have bad : ¬ okP six n len → Ev (fun k => spoorref09_Check.j0 k true six (hi n) (lo n) len) (if okP six n len then 0 else 2) := by
    intro h
    rw [if_neg h]
    refine Ev.succ ?_
    simp only [spoorref09_Check.j0]
    exact Ev.pos trivial (Ev.now _)
  simp only [spoorref09_Check.f, rwide_is, rright_is six hn, Option.bind_some]
  by_cases h0 : len < 0
  · exact Ev.pos h0 (bad (fun h => by have := h.1; omega))
  refine Ev.neg h0 ?_
  by_cases h1 : len > ((Wn six : Nat) : Int)
  · exact Ev.pos h1 (bad (fun h => by have := h.2.1; omega))
  refine Ev.neg h1 ?_
  by_cases h2 : n < 2 ^ Wn six
  · rw [decide_eq_true h2]
    refine Ev.succ ?_
    simp only [spoorref09_Check.j0]
    refine Ev.neg (by simp) (Ev.bind (bits_ev six hn) ?_)
    have := check_aux (bitsL (Wn six) n) len (by rw [bitsL_len]; exact hw) six (hi n) (lo n) _ 0 rfl
    rw [List.drop_zero, Nat.sub_zero, bitsL_drop (by omega)] at this
    refine Ev.to this ?_
    simp only [bitsL_zero]
    by_cases z : n % 2 ^ (Wn six - len.toNat) = 0
    · rw [if_pos z, if_pos (show okP six n len from ⟨by omega, by omega, h2, z⟩)]
    · rw [if_neg z, if_neg (fun h : okP six n len => z h.2.2.2)]
  · rw [decide_eq_false h2]
    exact bad (fun h => h2 h.2.2.1)
end Go.Proofs.Ytodgadhegcjbhaa.Addr
end
section
namespace Go.Proofs.Ytodgadhegcjbhaa.Num
set_option linter.unusedVariables false
open Go.RowKit Go.Proofs.YtodgadhegcjbhaaW.PrintWords Go.Proofs.YtodgadhegcjbhaaW.PrintLast Go.Proofs.YtodgadhegcjbhaaW.PrintMore Go.Proofs.Ytodgadhegcjbhaa.Base Go.Proofs.Ytodgadhegcjbhaa.Q
theorem add_ev : ∀ (n : Nat) (xs : List Int), xs.length + (putL n).length ≤ 140737488355328 → Ev (fun k => num_Add.l0 k xs (n : Int)) (xs ++ putL n) := by
  intro n
  induction n using Nat.strongRecOn with
  | _ n ih =>
    intro xs hl
    have hp := putL_pos n
    by_cases h : n < 128
    · refine Ev.step (f := fun _ => some (xs ++ [(n : Int) % 256])) (fun k => ?_) ?_
      · simp only [num_Add.l0]
        rw [if_neg (by omega), if_pos (by omega)]
      · rw [putL_small h]
        exact Ev.const (by rw [Int.emod_eq_of_lt (by omega) (by omega)])
    · have e := putL_great h
      rw [e, List.length_cons] at hl
      have := ih (n / 128) (by omega) (xs ++ [(n : Int) % 128 + 128]) (by simp; omega)
      refine Ev.step (f := fun k => num_Add.l0 k (xs ++ [(n : Int) % 128 + 128]) ((n / 128 : Nat) : Int)) (fun k => ?_) ?_
      · simp only [num_Add.l0]
        rw [if_pos (by omega), if_pos (by omega), or128 (by omega) (by omega)]
        have e1 : (n : Int) % 256 % 128 = (n : Int) % 128 := by omega
        have e2 : ((n / 128 : Nat) : Int) = (n : Int) / 128 := by omega
        rw [e1, e2]
      · rw [e]
        simpa using this
theorem rput_ev : ∀ (n : Nat), n < 18446744073709551616 → Ev (fun k => spoorref01_Put.f k (n : Int)) (strOfNums (putL n)) := by
  intro n
  induction n using Nat.strongRecOn with
  | _ n ih =>
    intro hn
    by_cases h : n < 128
    · refine Ev.step (f := fun _ => some (strOfNums ([(n : Int)]))) (fun k => ?_) ?_
      · simp only [spoorref01_Put.f]
        rw [if_pos (by omega), Int.emod_eq_of_lt (by omega) (by omega)]
      · rw [putL_small h]; exact Ev.now _
    · have e := putL_great h
      have hl := putL_len (n := n / 128) (by omega)
      have hh := ih (n / 128) (by omega) (by omega)
      refine Ev.step (f := fun k => (spoorref01_Put.f k ((n / 128 : Nat) : Int)).bind fun t => if (strOfNums [(n : Int) % 128 + 128]).size + t.size ≤ 9223372036854775807 then some (strOfNums [(n : Int) % 128 + 128] ++ t) else none) (fun k => ?_) ?_
      · simp only [spoorref01_Put.f]
        rw [if_neg (by omega)]
        simp only [Option.bind_some]
        have e1 : Int.tmod (n : Int) 128 = (n : Int) % 128 := Int.tmod_eq_emod_of_nonneg (by omega)
        have e2 : Int.tdiv (n : Int) 128 = ((n / 128 : Nat) : Int) := by rw [Int.tdiv_eq_ediv_of_nonneg (by omega)]; omega
        rw [e1, e2, u64w (by omega) (by omega), u64w (by omega) (by omega), Int.emod_eq_of_lt (a := (n : Int) % 128 + 128) (by omega) (by omega)]
      · refine Ev.bind hh (Ev.pos ?_ ?_)
        · rw [strOfNums_size, strOfNums_size]; simp; omega
        · rw [← str_append, e]; exact Ev.now _
def getR (x : Int × List Int × Int) : Int × ByteArray × Int := (x.1, strOfNums x.2.1, x.2.2)
theorem p128 {i : Nat} (h : i ≤ 9) : (0 : Int) < 128 ^ i ∧ (128 : Int) ^ i ≤ 9223372036854775808 ∧ (2 : Int) ^ (7 * i) = 128 ^ i ∧ (i ≤ 8 → (128 : Int) ^ i ≤ 72057594037927936) := by
  have : i = 0 ∨ i = 1 ∨ i = 2 ∨ i = 3 ∨ i = 4 ∨ i = 5 ∨ i = 6 ∨ i = 7 ∨ i = 8 ∨ i = 9 := by omega
  rcases this with rfl | rfl | rfl | rfl | rfl | rfl | rfl | rfl | rfl | rfl <;> decide
theorem shl7 {c : Int} {i : Nat} (h0 : 0 ≤ c) (h1 : c < 128) (hi : i ≤ 9) (h9 : i = 9 → c ≤ 1) : shl .u64 (IntKind.u64.wrap c) (wrap64 (7 * (i : Int))) = c * 128 ^ i ∧ c * 128 ^ i + 128 ^ i ≤ 18446744073709551616 := by
  have : i = 0 ∨ i = 1 ∨ i = 2 ∨ i = 3 ∨ i = 4 ∨ i = 5 ∨ i = 6 ∨ i = 7 ∨ i = 8 ∨ i = 9 := by omega
  rw [u64w h0 (by omega)]
  rcases this with rfl | rfl | rfl | rfl | rfl | rfl | rfl | rfl | rfl | rfl <;> simp [shl, wrap64, u64m, IntKind.bits] <;> omega
theorem get_ev (s : ByteArray) (hs : s.size ≤ 281474976710656) : ∀ (l : List Int) (i : Nat) (n : Int), (bytesOf s).drop i = l → i ≤ 9 → 0 ≤ n → n < 128 ^ i → Ev (fun k => num_Get.l0 k s n (mn (s.size : Int) 10) (i : Int)) (getR (getL i n l)) := by
  intro l
  induction l with
  | nil =>
    intro i n hd hi h0 h1
    have hle := drop_nil_le hd
    rw [bytesOf_length] at hle
    refine Ev.step (f := fun _ => some (0, (⟨#[]⟩ : ByteArray), 5)) (fun k => ?_) (Ev.now _)
    simp only [num_Get.l0]
    rw [if_neg (by unfold mn; split <;> omega)]
  | cons b l ih =>
    intro i n hd hi h0 h1
    have hlt := drop_lt hd
    rw [bytesOf_length] at hlt
    have hb : bt s (i : Int) = b := by rw [← rd_bytesOf]; exact rd_drop hd
    have hbb : Bytes (b :: l) := by rw [← hd]; exact (bytesOf_bytes s).drop i
    obtain ⟨b0, b1⟩ := hbb.head
    have hnext := drop_next hd
    have hrest : s.extract (i + 1) s.size = strOfNums l := by rw [str_from, hnext]
    obtain ⟨p0, p1, p2, p3⟩ := p128 hi
    have hmn : (i : Int) < mn (s.size : Int) 10 := by unfold mn; split <;> omega
    have hw : 0 ≤ wrap64 (7 * (i : Int)) := by rw [w64 (by omega) (by omega)]; omega
    have hw1 : wrap64 ((i : Int) + 1) = ((i + 1 : Nat) : Int) := by rw [w64 (by omega) (by omega)]; omega
    simp only [getL]
    -- the head of the loop
    have head : ∀ (q : Bool) (x : Int), (i = 9 → q = decide (b > 1)) → (i ≠ 9 → q = false) → Go.bits .or .u64 n (shl .u64 (IntKind.u64.wrap (Go.bits .andNot .u8 b 128)) (wrap64 (7 * (i : Int)))) = x → ∀ k, num_Get.l0 (k + 1) s n (mn (s.size : Int) 10) (i : Int) = num_Get.j1 k s x (i : Int) b (mn (s.size : Int) 10) (i : Int) q := by
      intro q x q1 q2 hx k
      simp only [num_Get.l0]
      rw [if_pos hmn, if_pos (by omega), if_pos (by omega), if_pos hw, hb, hx]
      by_cases h9 : i = 9
      · rw [if_pos (by omega), q1 h9]
      · rw [if_neg (by omega), q2 h9]
    rw [andNot128 b0 b1] at head
    by_cases h1' : i = 9 ∧ b > 1
    · rw [if_pos h1']
      refine Ev.step (fun k => head true _ (fun _ => by simp [h1'.2]) (fun h => absurd h1'.1 h) rfl k) ?_
      refine Ev.step (f := fun k => num_Get.j2 k s _ (i : Int) b (mn (s.size : Int) 10) (i : Int) true) (fun k => by simp only [num_Get.j1]; rw [if_pos trivial]) ?_
      exact Ev.step (f := fun _ => some (0, (⟨#[]⟩ : ByteArray), 7)) (fun k => by simp only [num_Get.j2]; rw [if_pos trivial]) (Ev.now _)
    rw [if_neg h1']
    have hc := shl7 (c := b % 128) (i := i) (by omega) (by omega) hi (fun h => by omega)
    have hor : Go.bits .or .u64 n (shl .u64 (IntKind.u64.wrap (b % 128)) (wrap64 (7 * (i : Int)))) = n + b % 128 * 128 ^ i := by
      have hn : 0 ≤ b % 128 * 128 ^ i := Int.mul_nonneg (by omega) (by omega)
      rw [hc.1, bits_or_comm, or_join (7 * i) hn (by rw [p2]; exact Int.mul_emod_left _ _) (by omega) h0 (by rw [p2]; exact h1) (by omega), Int.add_comm]
    have hd1 := head false _ (fun h => by symm; simp; omega) (fun _ => rfl) hor
    by_cases h2 : b ≥ 128
    · rw [if_pos h2]
      have hi8 : i ≤ 8 := by omega
      refine Ev.step hd1 ?_
      refine Ev.step (f := fun k => num_Get.j2 k s (n + b % 128 * 128 ^ i) (i : Int) b (mn (s.size : Int) 10) (i : Int) false) (fun k => by simp only [num_Get.j1]; rw [if_neg (by simp), if_neg (by omega)]) ?_
      refine Ev.step (f := fun k => num_Get.l0 k s (n + b % 128 * 128 ^ i) (mn (s.size : Int) 10) ((i + 1 : Nat) : Int)) (fun k => by simp only [num_Get.j2]; rw [if_neg (by simp), if_neg (by omega), hw1]) ?_
      have hn : 0 ≤ b % 128 * 128 ^ i := Int.mul_nonneg (by omega) (by omega)
      refine ih (i + 1) _ hnext (by omega) (by omega) ?_
      rw [Int.pow_succ]
      have : b % 128 * 128 ^ i ≤ 127 * 128 ^ i := Int.mul_le_mul_of_nonneg_right (by omega) (by omega)
      omega
    rw [if_neg h2]
    refine Ev.step hd1 ?_
    have hm : b % 128 = b := by omega
    rw [hm]
    by_cases h3 : b = 0 ∧ 0 < i
    · rw [if_pos h3]
      refine Ev.step (f := fun k => num_Get.j2 k s (n + b * 128 ^ i) (i : Int) b (mn (s.size : Int) 10) (i : Int) true) (fun k => by simp only [num_Get.j1]; rw [if_neg (by simp), if_pos h3.1, decide_eq_true (by omega)]) ?_
      exact Ev.step (f := fun _ => some (0, (⟨#[]⟩ : ByteArray), 7)) (fun k => by simp only [num_Get.j2]; rw [if_pos trivial]) (Ev.now _)
    · rw [if_neg h3]
      refine Ev.step (f := fun k => num_Get.j2 k s (n + b * 128 ^ i) (i : Int) b (mn (s.size : Int) 10) (i : Int) false) (fun k => by
        simp only [num_Get.j1]
        rw [if_neg (by simp)]
        by_cases hb0 : b = 0
        · rw [if_pos hb0, decide_eq_false (by omega)]
        · rw [if_neg hb0]) ?_
      refine Ev.step (f := fun _ => some (n + b * 128 ^ i, strOfNums l, 0)) (fun k => ?_) (Ev.now _)
      simp only [num_Get.j2]
      rw [if_neg (by simp), if_pos (by omega), hw1, if_pos (by omega), if_pos (by omega), Int.toNat_natCast, hrest]
theorem get_ev0 (s : ByteArray) (hs : s.size ≤ 281474976710656) : Ev (fun k => num_Get.f k s) (getR (getL 0 0 (bytesOf s))) := by
  have := get_ev s hs (bytesOf s) 0 0 rfl (by omega) (by omega) (by simp)
  simpa [num_Get.f] using this
theorem rget_ev (s : ByteArray) (hs : s.size ≤ 281474976710656) : ∀ (l : List Int) (i : Nat) (n : Int), (bytesOf s).drop i = l → i ≤ 9 → 0 ≤ n → n < 128 ^ i → Ev (fun k => spoorref01_Get.l0 k s n (128 ^ i) (i : Int)) (getR (getL i n l)) := by
  intro l
  induction l with
  | nil =>
    intro i n hd hi h0 h1
    have hle := drop_nil_le hd
    rw [bytesOf_length] at hle
    refine Ev.step (f := fun _ => some (0, (⟨#[]⟩ : ByteArray), 5)) (fun k => ?_) (Ev.now _)
    simp only [spoorref01_Get.l0]
    rw [if_neg (by omega)]
  | cons b l ih =>
    intro i n hd hi h0 h1
    have hlt := drop_lt hd
    rw [bytesOf_length] at hlt
    have hb : bt s (i : Int) = b := by rw [← rd_bytesOf]; exact rd_drop hd
    have hbb : Bytes (b :: l) := by rw [← hd]; exact (bytesOf_bytes s).drop i
    obtain ⟨b0, b1⟩ := hbb.head
    have hnext := drop_next hd
    have hrest : s.extract (i + 1) s.size = strOfNums l := by rw [str_from, hnext]
    obtain ⟨p0, p1, p2, p3⟩ := p128 hi
    have hw1 : wrap64 ((i : Int) + 1) = ((i + 1 : Nat) : Int) := by rw [w64 (by omega) (by omega)]; omega
    simp only [getL]
    have head : ∀ (q : Bool), (i = 9 → q = decide (b > 1)) → (i ≠ 9 → q = false) → ∀ k, spoorref01_Get.l0 (k + 1) s n (128 ^ i) (i : Int) = spoorref01_Get.j1 k s n (128 ^ i) (i : Int) b q := by
      intro q q1 q2 k
      simp only [spoorref01_Get.l0]
      rw [if_pos (by omega), if_pos (by omega), hb]
      by_cases h9 : i = 9
      · rw [if_pos (by omega), q1 h9]
      · rw [if_neg (by omega), q2 h9]
    by_cases h1' : i = 9 ∧ b > 1
    · rw [if_pos h1']
      refine Ev.step (fun k => head true (fun _ => by simp [h1'.2]) (fun h => absurd h1'.1 h) k) ?_
      exact Ev.step (f := fun _ => some (0, (⟨#[]⟩ : ByteArray), 7)) (fun k => by simp only [spoorref01_Get.j1]; rw [if_pos trivial]) (Ev.now _)
    rw [if_neg h1']
    have hc := (shl7 (c := b % 128) (i := i) (by omega) (by omega) hi (fun h => by omega)).2
    have hn : 0 ≤ b % 128 * 128 ^ i := Int.mul_nonneg (by omega) (by omega)
    have hsum : IntKind.u64.wrap (n + IntKind.u64.wrap (IntKind.u64.wrap (Int.tmod b 128) * 128 ^ i)) = n + b % 128 * 128 ^ i := by
      rw [Int.tmod_eq_emod_of_nonneg b0, u64w (n := b % 128) (by omega) (by omega), u64w (n := b % 128 * 128 ^ i) hn (by omega), u64w (by omega) (by omega)]
    refine Ev.step (head false (fun h => by symm; simp; omega) (fun _ => rfl)) ?_
    by_cases h2 : b ≥ 128
    · rw [if_pos h2]
      have hi8 : i ≤ 8 := by omega
      have hp := p3 hi8
      refine Ev.step (f := fun k => spoorref01_Get.l0 k s (n + b % 128 * 128 ^ i) (128 ^ (i + 1)) ((i + 1 : Nat) : Int)) (fun k => ?_) ?_
      · simp only [spoorref01_Get.j1]
        rw [if_neg (by simp), if_pos h2, hsum, hw1, u64w (n := 128 ^ i * 128) (by omega) (by omega), Int.pow_succ]
      · refine ih (i + 1) _ hnext (by omega) (by omega) ?_
        rw [Int.pow_succ]
        have : b % 128 * 128 ^ i ≤ 127 * 128 ^ i := Int.mul_le_mul_of_nonneg_right (by omega) (by omega)
        omega
    rw [if_neg h2]
    have hm : b % 128 = b := by omega
    rw [hm] at hsum
    by_cases h3 : b = 0 ∧ 0 < i
    · rw [if_pos h3]
      exact Ev.step (f := fun _ => some (0, (⟨#[]⟩ : ByteArray), 7)) (fun k => by simp only [spoorref01_Get.j1]; rw [if_neg (by simp), if_neg h2, if_pos h3.1, if_pos (by omega)]) (Ev.now _)
    · rw [if_neg h3]
      refine Ev.step (f := fun _ => some (n + b * 128 ^ i, strOfNums l, 0)) (fun k => ?_) (Ev.now _)
      simp only [spoorref01_Get.j1]
      rw [if_neg (by simp), if_neg h2]
      by_cases hb0 : b = 0
      · rw [if_pos hb0, if_neg (by omega), hw1, if_pos (by omega), if_pos (by omega), Int.toNat_natCast, hrest, hsum]
      · rw [if_neg hb0, hw1, if_pos (by omega), if_pos (by omega), Int.toNat_natCast, hrest, hsum]
theorem rget_ev0 (s : ByteArray) (hs : s.size ≤ 281474976710656) : Ev (fun k => spoorref01_Get.f k s) (getR (getL 0 0 (bytesOf s))) := by
  have := rget_ev s hs (bytesOf s) 0 0 rfl (by omega) (by omega) (by simp)
  simpa [spoorref01_Get.f] using this
theorem getL_val {l : List Int} (hb : Bytes l) : 0 ≤ (getL 0 0 l).1 ∧ (getL 0 0 l).1 < 18446744073709551616 := by
  rcases getL_err l 0 0 with h | ⟨_, h, _⟩
  · obtain ⟨m, hv, _, hm⟩ := getL_back0 (l := l) (v := (getL 0 0 l).1) (r := (getL 0 0 l).2.1) hb (Prod.ext rfl (Prod.ext rfl h))
    omega
  · rw [h]; omega
theorem reader_ev (s : ByteArray) (hs : s.size ≤ 281474976710656) : Ev (fun k => num_Reader_Num.f k s 0) (getR (getL 0 0 (bytesOf s))) := by
  simp only [num_Reader_Num.f]
  exact Ev.pos trivial (Ev.bind (get_ev0 s hs) (Ev.now _))
end Go.Proofs.Ytodgadhegcjbhaa.Num
end
section
namespace Go.Proofs.Ytodgadhegcjbhaa.Msg
set_option linter.unusedVariables false
open Go.RowKit Go.Proofs.YtodgadhegcjbhaaW.PrintWords Go.Proofs.YtodgadhegcjbhaaW.PrintLast Go.Proofs.YtodgadhegcjbhaaW.PrintMore Go.Proofs.Ytodgadhegcjbhaa.Base Go.Proofs.Ytodgadhegcjbhaa.Num Go.Proofs.Ytodgadhegcjbhaa.Addr Go.Proofs.Ytodgadhegcjbhaa.Be Go.Proofs.Ytodgadhegcjbhaa.Q
theorem iface_is (a : Int) : msg_iface.f a = some (decide (0 ≤ a ∧ a ≤ 65536)) := by
  unfold msg_iface.f
  by_cases h : a ≥ 0
  · rw [if_pos h]; congr 1; simp [h]
  · rw [if_neg h]; congr 1; simp; omega
theorem acts_is (k i : Int) : msg_acts.f k i = some (decide (okA k i)) := by
  unfold msg_acts.f
  rw [iface_is]
  by_cases h1 : k = 1
  · rw [if_pos h1]
    simp only [Option.bind_some]
    congr 1
    apply decide_eq_decide.2
    unfold okA
    omega
  rw [if_neg h1]
  by_cases h2 : k = 2
  · rw [if_pos h2]
    congr 1
    rw [Bool.eq_iff_iff]
    simp only [beq_iff_eq, decide_eq_true_eq]
    unfold okA
    omega
  rw [if_neg h2]
  by_cases h3 : k = 3
  · rw [if_pos h3]
    congr 1
    rw [Bool.eq_iff_iff]
    simp only [beq_iff_eq, decide_eq_true_eq]
    unfold okA
    omega
  rw [if_neg h3]
  congr 1
  rw [Bool.eq_iff_iff]
  simp only [decide_eq_true_eq]
  unfold okA
  constructor
  · intro h; cases h
  · omega
def okN (e : E11) : Prop := 0 ≤ e.ro ∧ e.ro ≤ 1048576 ∧ 1 ≤ e.sq ∧ e.sq ≤ 1099511627776 ∧ 0 ≤ e.ti ∧ e.ti ≤ 1099511627776
instance (e : E11) : Decidable (okN e) := by unfold okN; exact inferInstance
theorem byt8_be (n : Nat) : byt8 (n : Int) = be 8 n := by
  simp only [byt8, be, List.nil_append, List.cons_append]
  simp only [List.cons.injEq, and_true]
  omega
theorem word_six {n : Nat} (h : n < 340282366920938463463374607431768211456) : byt8 (hi n) ++ byt8 (lo n) = be 16 n := by
  unfold hi lo
  rw [byt8_be, byt8_be, show 16 = 8 + 8 from rfl, be_split 8 8 n]
  congr 1
  exact be_mod 8 _ _ (Nat.mod_mod _ _)
theorem word_four {n : Nat} (h : n < 4294967296) {k : Nat} (hk : k ≤ 4) : (byt8 (lo n * 4294967296 % 18446744073709551616) ++ byt8 0).take k = (be 4 n).take k := by
  have e : lo n * 4294967296 % 18446744073709551616 = ((n * 4294967296 : Nat) : Int) := by unfold lo; omega
  rw [e, byt8_be, show 8 = 4 + 4 from rfl, be_split 4 4, List.append_assoc, List.take_append_of_le_length (by rw [be_len]; omega)]
  congr 2
  omega
theorem prefix_is {six : Bool} {n : Nat} {len : Int} (xs : List Int) (h : okP six n len) (hx : xs.length < 140737488355000) : msg_prefix.f xs six (hi n) (lo n) len = some (xs ++ preL six n len) := by
  obtain ⟨h0, h1, h2, h3⟩ := h
  have hw := Wn_le six
  have hl := lo_range n
  have hn := Nat.lt_of_lt_of_le h2 (wn_pow six)
  have hh := hi_range hn
  unfold msg_prefix.f
  rw [if_pos ⟨h0, by omega, hh.1, by omega, hl.1, by omega, hx⟩]
  congr 2
  unfold preL pre_word
  have hk := kn_le h1
  cases six with
  | true =>
    rw [if_pos rfl, if_pos rfl, word_six hn]
    rfl
  | false =>
    rw [if_neg (by decide), if_neg (by decide), word_four (wn_four.1 h2) (show (len.toNat + 7) / 8 ≤ 4 from hk)]
    rfl
theorem add_is {n : Int} (xs : List Int) (h0 : 0 ≤ n) (h1 : n < 18446744073709551616) (hx : xs.length ≤ 140737488355000) : Ev (fun k => num_Add.f k xs (IntKind.u64.wrap n)) (xs ++ putL n.toNat) := by
  rw [u64w h0 h1, show n = ((n.toNat : Nat) : Int) by omega]
  simp only [num_Add.f, Int.toNat_natCast]
  have := putL_len (n := n.toNat) (by omega)
  exact add_ev _ _ (by omega)
theorem action_ev {k i : Int} (xs : List Int) (h : okA k i) (hx : xs.length ≤ 140737488354000) : Ev (fun q => msg_action.f q xs k i) (xs ++ actL k i) := by
  simp only [msg_action.f]
  refine Ev.pos (by omega) (Ev.bind (Ev.now _) ?_)
  unfold actL
  rcases okA_act h with ⟨rfl, h0, h1⟩ | ⟨h1, h2, rfl⟩
  · refine Ev.pos rfl (Ev.bind (add_is _ h0 (by omega) (by simp; omega)) ?_)
    rw [if_pos rfl, List.append_assoc]
    exact Ev.now _
  · refine Ev.neg h1 ?_
    rw [if_neg h1]
    exact Ev.now _
theorem putprefix_ev (six : Bool) {n : Nat} (hn : n < 340282366920938463463374607431768211456) (len : Int) : Ev (fun k => msg_PutPrefix.f k six (hi n) (lo n) len) (if okP six n len then (strOfNums (preL six n len), 0) else ((⟨#[]⟩ : ByteArray), 2)) := by
  simp only [msg_PutPrefix.f]
  refine Ev.bind (check_ev six hn len) ?_
  by_cases h : okP six n len
  · rw [if_pos h, if_pos h]
    refine Ev.pos rfl ?_
    rw [prefix_is [] h (by decide)]
    exact Ev.now _
  · rw [if_neg h, if_neg h]
    exact Ev.neg (by decide) (Ev.now _)
theorem putaction_ev (k i : Int) : Ev (fun q => msg_PutAction.f q k i) (if okA k i then (strOfNums (actL k i), 0) else ((⟨#[]⟩ : ByteArray), 2)) := by
  simp only [msg_PutAction.f]
  rw [acts_is]
  simp only [Option.bind_some]
  by_cases h : okA k i
  · rw [if_pos h]
    exact Ev.pos (decide_eq_true h) (Ev.bind (action_ev [] h (by decide)) (Ev.now _))
  · rw [if_neg h]
    exact Ev.neg (by simpa using h) (Ev.now _)
end Go.Proofs.Ytodgadhegcjbhaa.Msg
end
section
namespace Go.Proofs.Ytodgadhegcjbhaa.Msg
set_option linter.unusedVariables false
open Go.RowKit Go.Proofs.YtodgadhegcjbhaaW.PrintWords Go.Proofs.YtodgadhegcjbhaaW.PrintLast Go.Proofs.YtodgadhegcjbhaaW.PrintMore Go.Proofs.Ytodgadhegcjbhaa.Base Go.Proofs.Ytodgadhegcjbhaa.Num Go.Proofs.Ytodgadhegcjbhaa.Addr Go.Proofs.Ytodgadhegcjbhaa.Be Go.Proofs.Ytodgadhegcjbhaa.Q
theorem bt_nat (s : ByteArray) (i : Nat) : bt s (i : Int) = rd (bytesOf s) i := (rd_bytesOf s i).symm
theorem take_rd (l : List Int) (o i : Nat) (h : o + i < l.length) : (l.drop o).take (i + 1) = (l.drop o).take i ++ [rd l ((o + i : Nat) : Int)] := by
  have hi : i < (l.drop o).length := by rw [List.length_drop]; omega
  rw [List.take_succ_eq_append_getElem hi]
  congr 2
  simp only [rd, Int.toNat_natCast]
  rw [List.getD_eq_getElem?_getD, List.getElem?_eq_getElem h, List.getElem_drop]
  rfl
theorem wd_nb (s : ByteArray) (o : Nat) : ∀ i, i ≤ 8 → o + i ≤ s.size → wd s o i = ((nb (((bytesOf s).drop o).take i) * 256 ^ (8 - i) : Nat) : Int)
  | 0, _, _ => by simp [wd, nb]
  | i + 1, h, hs => by
    have hl : (bytesOf s).length = s.size := bytesOf_length s
    have hr := bt_range s ((o + i : Nat) : Int)
    rw [wd, wd_nb s o i (by omega) (by omega), take_rd _ o i (by omega), nb_snoc, bt_nat]
    rw [bt_nat] at hr
    generalize rd (bytesOf s) ((o + i : Nat) : Int) = x at hr
    generalize nb (((bytesOf s).drop o).take i) = N
    obtain ⟨m, rfl⟩ : ∃ m : Nat, x = m := ⟨x.toNat, by omega⟩
    rw [Int.toNat_natCast]
    have e1 : (256 : Nat) ^ (8 - i) = 256 * 256 ^ (8 - (i + 1)) := by rw [show 8 - i = (8 - (i + 1)) + 1 by omega, Nat.pow_succ, Nat.mul_comm]
    have e2 : (2 : Int) ^ (56 - 8 * i) = ((256 ^ (8 - (i + 1)) : Nat) : Int) := by
      rw [p256, show 8 * (8 - (i + 1)) = 56 - 8 * i by omega]; exact (Int.natCast_pow 2 _).symm
    rw [e1, e2, Nat.add_mul]
    generalize 256 ^ (8 - (i + 1)) = E
    rw [← Int.natCast_mul, ← Int.natCast_add, ← Nat.mul_assoc, Nat.mul_comm N 256]
def preS : Option (Pfx × List Int) → Bool × Int × Int × Int × ByteArray × Int
  | some ((six, n, len), r) => (six, hi n, lo n, len, strOfNums r, 0)
  | none => (false, 0, 0, 0, (⟨#[]⟩ : ByteArray), 7)
theorem rest_bytes {s : ByteArray} {a b : Int} {l : List Int} (h : bytesOf s = a :: b :: l) : bytesOf (s.extract 2 s.size) = l := by rw [bytes_from, h]; rfl
theorem size_of_bytes {s : ByteArray} {l : List Int} (h : bytesOf s = l) : s.size = l.length := by rw [← h, bytesOf_length]
theorem bt01 {s : ByteArray} {a b : Int} {l : List Int} (h : bytesOf s = a :: b :: l) : bt s 0 = a ∧ bt s 1 = b := by
  constructor
  · rw [bt_of h]; rfl
  · rw [bt_of h]; rfl
theorem four_num {rest : ByteArray} {l : List Int} (hr : bytesOf rest = l) {len : Int} (h1 : len ≤ 32) (hk : Kn len ≤ l.length) : (0 : Int) = hi (preN false len l) ∧ wd rest 0 (Kn len) / 4294967296 = lo (preN false len l) := by
  have hk4 : Kn len ≤ 4 := by unfold Kn; omega
  have hs := size_of_bytes hr
  have hb : Bytes l := by rw [← hr]; exact bytesOf_bytes rest
  have e : preN false len l = nb (l.take (Kn len)) * 256 ^ (4 - Kn len) := by
    unfold preN
    rw [nb_append, nb_zeros, List.length_replicate]; rfl
  have hlt : preN false len l < 4294967296 := by
    have := nb_lt (l.take (Kn len) ++ List.replicate (Bn false - Kn len) 0) ((hb.take _).append (bytes_zeros _))
    rw [List.length_append, List.length_take, List.length_replicate] at this
    rw [show min (Kn len) l.length + (Bn false - Kn len) = 4 by have : Bn false = 4 := rfl; omega] at this
    exact this
  rw [wd_nb rest 0 (Kn len) (by omega) (by omega), hr, List.drop_zero]
  have e2 : nb (l.take (Kn len)) * 256 ^ (8 - Kn len) = preN false len l * 4294967296 := by
    rw [e, show 8 - Kn len = (4 - Kn len) + 4 by omega, Nat.pow_add, Nat.mul_assoc]
  rw [e2]
  unfold hi lo
  omega
theorem six_num {rest : ByteArray} {l : List Int} (hr : bytesOf rest = l) {len : Int} (h1 : len ≤ 128) (hk : Kn len ≤ l.length) : wd rest 0 (min 8 (Kn len)) = hi (preN true len l) ∧ wd rest 8 (Kn len - 8) = lo (preN true len l) := by
  have hk4 : Kn len ≤ 16 := by unfold Kn; omega
  have hs := size_of_bytes hr
  have hb : Bytes l := by rw [← hr]; exact bytesOf_bytes rest
  have e : preN true len l = nb (l.take (Kn len)) * 256 ^ (16 - Kn len) := by
    unfold preN
    rw [nb_append, nb_zeros, List.length_replicate]; rfl
  rw [wd_nb rest 0 _ (by omega) (by omega)]
  by_cases h8 : Kn len ≤ 8
  · have e2 : nb (l.take (Kn len)) * 256 ^ (16 - Kn len) = nb (l.take (Kn len)) * 256 ^ (8 - Kn len) * 18446744073709551616 := by
      rw [show 16 - Kn len = (8 - Kn len) + 8 by omega, Nat.pow_add, ← Nat.mul_assoc]
    rw [Nat.min_eq_right h8, show Kn len - 8 = 0 by omega, hr, List.drop_zero]
    unfold hi lo
    rw [e, e2]
    constructor
    · rw [Nat.mul_div_cancel _ (by decide)]
    · rw [Nat.mul_mod_left]; rfl
  · rw [Nat.min_eq_left (by omega), wd_nb rest 8 _ (by omega) (by omega), hr, List.drop_zero]
    have e3 : l.take (Kn len) = l.take 8 ++ (l.drop 8).take (Kn len - 8) := by
      rw [← List.take_append_drop 8 (l.take (Kn len)), List.take_take, List.drop_take, Nat.min_eq_left (by omega)]
    have hlen : ((l.drop 8).take (Kn len - 8)).length = Kn len - 8 := by rw [List.length_take, List.length_drop]; omega
    have hlt := nb_lt ((l.drop 8).take (Kn len - 8)) ((hb.drop 8).take _)
    rw [hlen] at hlt
    have e4 : preN true len l = nb (l.take 8) * 18446744073709551616 + nb ((l.drop 8).take (Kn len - 8)) * 256 ^ (8 - (Kn len - 8)) := by
      rw [e, e3, nb_append, hlen, Nat.add_mul, Nat.mul_assoc, ← Nat.pow_add, show Kn len - 8 + (16 - Kn len) = 8 by omega, show 16 - Kn len = 8 - (Kn len - 8) by omega]
    have hlt2 : nb ((l.drop 8).take (Kn len - 8)) * 256 ^ (8 - (Kn len - 8)) < 18446744073709551616 := by
      have h := Nat.mul_lt_mul_of_pos_right hlt (Nat.pow_pos (n := 8 - (Kn len - 8)) (show 0 < 256 by decide))
      rw [← Nat.pow_add, show Kn len - 8 + (8 - (Kn len - 8)) = 8 by omega] at h
      exact h
    unfold hi lo
    rw [e4]
    generalize nb ((l.drop 8).take (Kn len - 8)) * 256 ^ (8 - (Kn len - 8)) = B at hlt2 ⊢
    simp only [Nat.sub_self, Nat.pow_zero, Nat.mul_one]
    constructor <;> omega
theorem preN_lt {six : Bool} {len : Int} {l : List Int} (hb : Bytes l) (h1 : len ≤ Wn six) (hk : Kn len ≤ l.length) : preN six len l < 340282366920938463463374607431768211456 := by
  have := nb_lt (l.take (Kn len) ++ List.replicate (Bn six - Kn len) 0) ((hb.take _).append (bytes_zeros _))
  have hkk := kn_le h1
  rw [List.length_append, List.length_take, List.length_replicate, show min (Kn len) l.length + (Bn six - Kn len) = Bn six by omega] at this
  refine Nat.lt_of_lt_of_le this ?_
  rw [p256, ← bn_wn]
  exact wn_pow six
theorem pfxof_ev {six : Bool} {n : Nat} (hn : n < 340282366920938463463374607431768211456) (len : Int) (r : ByteArray) : Ev (fun k => pfx_of k six (hi n) (lo n) len r) (if okP six n len then (six, hi n, lo n, len, r, 0) else (false, 0, 0, 0, (⟨#[]⟩ : ByteArray), 7)) := by
  simp only [pfx_of]
  refine Ev.bind (check_ev six hn len) ?_
  by_cases h : okP six n len
  · rw [if_pos h, if_pos h]; exact Ev.pos rfl (Ev.now _)
  · rw [if_neg h, if_neg h]; exact Ev.neg (by decide) (Ev.const rfl)
theorem getprefix_ev (s : ByteArray) : Ev (fun k => msg_GetPrefix.f k s) (preS (getP (bytesOf s))) := by
  simp only [msg_GetPrefix.f]
  match hl : bytesOf s with
  | [] =>
    have := size_of_bytes hl
    simp only [List.length_nil] at this
    exact Ev.pos (by omega) (Ev.const rfl)
  | [a] =>
    have := size_of_bytes hl
    simp only [List.length_cons, List.length_nil] at this
    exact Ev.pos (by omega) (Ev.const rfl)
  | a :: b :: l =>
    have hs := size_of_bytes hl
    simp only [List.length_cons] at hs
    have hb : Bytes (a :: b :: l) := by rw [← hl]; exact bytesOf_bytes s
    have hr := rest_bytes hl
    have hrs := size_of_bytes hr
    obtain ⟨b0, b1⟩ := bt01 hl
    have hbb := hb.tail.head
    rw [b0, b1]
    refine Ev.neg (by omega) ?_
    generalize s.extract 2 s.size = rest at hr hrs
    have hkn : (b.toNat + 7) / 8 = Kn b := rfl
    have hrd : rest.extract (Kn b) rest.size = strOfNums (l.drop (Kn b)) := by rw [str_from, hr]
    rw [hkn, hrd]
    simp only [getP]
    have hkb : (Kn b : Int) = (b + 7) / 8 := by unfold Kn; omega
    by_cases c4 : a = 4
    · refine Ev.pos c4 ?_
      have e6 : (a == 6) = false := by rw [c4]; rfl
      rw [e6]
      by_cases c5 : ((rest.size : Nat) : Int) < (b + 7) / 8
      · refine Ev.pos c5 (Ev.const ?_)
        rw [if_neg (fun h => by have := h.2.2.1; omega)]; rfl
      refine Ev.neg c5 ?_
      by_cases c6 : b > 32
      · refine Ev.pos c6 (Ev.const ?_)
        rw [if_neg (fun h => by have := h.2.1; have : Wn false = 32 := rfl; omega)]; rfl
      refine Ev.neg c6 ?_
      obtain ⟨f1, f2⟩ := four_num hr (by omega) (show Kn b ≤ l.length by omega)
      rw [f2]
      have hw : b ≤ Wn false := by have : Wn false = 32 := rfl; omega
      have h := pfxof_ev (six := false) (preN_lt hb.tail.tail hw (by omega)) b (strOfNums (l.drop (Kn b)))
      rw [← f1] at h
      refine Ev.to h ?_
      by_cases ok : okP false (preN false b l) b
      · rw [if_pos ok, if_pos ⟨.inl c4, hw, by omega, ok⟩]
        simp only [preS, ← f1]
      · rw [if_neg ok, if_neg (fun h => ok h.2.2.2)]; rfl
    refine Ev.neg c4 ?_
    by_cases c7 : a = 6
    · refine Ev.pos c7 ?_
      have e6 : (a == 6) = true := by rw [c7]; rfl
      rw [e6]
      by_cases c5 : ((rest.size : Nat) : Int) < (b + 7) / 8
      · refine Ev.pos c5 (Ev.const ?_)
        rw [if_neg (fun h => by have := h.2.2.1; omega)]; rfl
      refine Ev.neg c5 ?_
      by_cases c6 : b > 128
      · refine Ev.pos c6 (Ev.const ?_)
        rw [if_neg (fun h => by have := h.2.1; have : Wn true = 128 := rfl; omega)]; rfl
      refine Ev.neg c6 ?_
      obtain ⟨f1, f2⟩ := six_num hr (by omega) (show Kn b ≤ l.length by omega)
      rw [f1, f2]
      have hw : b ≤ Wn true := by have : Wn true = 128 := rfl; omega
      refine Ev.to (pfxof_ev (six := true) (preN_lt hb.tail.tail hw (by omega)) b (strOfNums (l.drop (Kn b)))) ?_
      by_cases ok : okP true (preN true b l) b
      · rw [if_pos ok, if_pos ⟨.inr c7, hw, by omega, ok⟩]; rfl
      · rw [if_neg ok, if_neg (fun h => ok h.2.2.2)]; rfl
    · refine Ev.neg c7 (Ev.const ?_)
      rw [if_neg (fun h => by omega)]; rfl
theorem reader_bad (s : ByteArray) {y : Int} (hy : y ≠ 0) : Ev (fun k => num_Reader_Num.f k s y) (0, s, y) := by
  simp only [num_Reader_Num.f]
  exact Ev.neg hy (Ev.now _)
theorem many_ok {s : ByteArray} (hs : s.size ≤ 281474976710656) {most v : Int} {r : List Int} (h0 : 0 ≤ most) (h1 : most ≤ 9223372036854775807) (h : rdN most (bytesOf s) = some (v, r)) : Ev (fun k => num_Reader_Many.f k s 0 most) (v, strOfNums r, 0) := by
  simp only [num_Reader_Many.f]
  have hb := bytesOf_bytes s
  obtain ⟨a, b, c, d⟩ := rdN_back hb h
  unfold rdN at h
  split at h
  · rename_i g
    simp only [Option.some.injEq, Prod.mk.injEq] at h
    refine Ev.bind (reader_ev s hs) (Ev.neg ?_ (Ev.const ?_))
    · rw [u64w h0 (by omega)]
      show ¬ (getL 0 0 (bytesOf s)).1 > most
      omega
    · show some (wrap64 (getL 0 0 (bytesOf s)).1, strOfNums (getL 0 0 (bytesOf s)).2.1, (getL 0 0 (bytesOf s)).2.2) = _
      rw [h.1, h.2, g.1, w64 (by omega) (by omega)]
  · cases h
theorem many_bad {s : ByteArray} (hs : s.size ≤ 281474976710656) {y most : Int} (h0 : 0 ≤ most) (h1 : most ≤ 9223372036854775807) (h : y ≠ 0 ∨ y = 0 ∧ rdN most (bytesOf s) = none) : ∃ v s' y', Ev (fun k => num_Reader_Many.f k s y most) (v, s', y') ∧ y' ≠ 0 ∧ s'.size ≤ 281474976710656 := by
  simp only [num_Reader_Many.f]
  rcases h with h | ⟨rfl, h⟩
  · refine ⟨_, _, _, Ev.bind (reader_bad s h) (Ev.neg ?_ (Ev.now _)), h, hs⟩
    rw [u64w h0 (by omega)]; omega
  · have hlen := getL_len (bytesOf s) 0 0
    rw [bytesOf_length] at hlen
    have hz : (strOfNums (getL 0 0 (bytesOf s)).2.1).size ≤ 281474976710656 := by rw [strOfNums_size]; omega
    have hv := getL_val (bytesOf_bytes s)
    by_cases g : (getL 0 0 (bytesOf s)).1 > most
    · refine ⟨_, _, _, Ev.bind (reader_ev s hs) (Ev.pos ?_ (Ev.now _)), by decide, hz⟩
      rw [u64w h0 (by omega)]; exact g
    · refine ⟨_, _, _, Ev.bind (reader_ev s hs) (Ev.neg ?_ (Ev.now _)), ?_, hz⟩
      · rw [u64w h0 (by omega)]; exact g
      · show (getL 0 0 (bytesOf s)).2.2 ≠ 0
        intro e
        unfold rdN at h
        rw [if_pos ⟨e, by omega⟩] at h
        cases h
def actS : Option ((Int × Int) × List Int) → Int × Int × ByteArray × Int
  | some ((k, i), r) => (k, i, strOfNums r, 0)
  | none => (0, 0, (⟨#[]⟩ : ByteArray), 7)
theorem nil_iff (s : ByteArray) : s.toList = ([] : List UInt8) ↔ bytesOf s = [] := by
  rw [Go.ByteArray.toList_eq]
  constructor
  · intro h; rw [← List.length_eq_zero_iff, bytesOf_length, ByteArray.size, ← Array.length_toList, h]; rfl
  · intro h
    rw [← List.length_eq_zero_iff, Array.length_toList]
    have := bytesOf_length s
    rw [h] at this
    exact this.symm
theorem rest1 {s : ByteArray} {a : Int} {l : List Int} (h : bytesOf s = a :: l) : bytesOf (s.extract 1 s.size) = l := by rw [bytes_from, h]; rfl
theorem bt0 {s : ByteArray} {a : Int} {l : List Int} (h : bytesOf s = a :: l) : bt s 0 = a := by rw [bt_of h]; rfl
theorem getaction_ev (s : ByteArray) (hs : s.size ≤ 281474976710656) : Ev (fun k => msg_GetAction.f k s) (actS (getA (bytesOf s))) := by
  simp only [msg_GetAction.f]
  match hl : bytesOf s with
  | [] => exact Ev.pos ((nil_iff s).2 hl) (Ev.now _)
  | a :: l =>
    have hz := size_of_bytes hl
    simp only [List.length_cons] at hz
    have hr := rest1 hl
    have hrs := size_of_bytes hr
    have hsr : s.extract 1 s.size = strOfNums l := by rw [str_from, hl]; rfl
    rw [bt0 hl]
    refine Ev.neg (fun h => by rw [nil_iff, hl] at h; cases h) (Ev.pos (by omega) (Ev.pos (by omega) ?_))
    simp only [getA]
    by_cases c1 : a = 1
    · refine Ev.pos c1 ?_
      rw [if_pos c1]
      cases hx : rdN 65536 l with
      | some x =>
        obtain ⟨v, r⟩ := x
        rw [← hr] at hx
        refine Ev.bind (many_ok (by omega) (by omega) (by omega) hx) (Ev.pos rfl ?_)
        have hv := rdN_back (bytesOf_bytes _) hx
        rw [acts_is]
        simp only [Option.bind_some]
        rw [c1]
        exact Ev.pos (decide_eq_true (.inl ⟨rfl, hv.1, hv.2.1⟩)) (Ev.now _)
      | none =>
        rw [← hr] at hx
        obtain ⟨v, s', y', h, hy, _⟩ := many_bad (s := s.extract 1 s.size) (by omega) (y := 0) (most := 65536) (by omega) (by omega) (.inr ⟨rfl, hx⟩)
        exact Ev.bind h (Ev.neg hy (Ev.now _))
    · refine Ev.neg c1 ?_
      rw [if_neg c1, acts_is]
      simp only [Option.bind_some]
      by_cases c2 : a = 2 ∨ a = 3
      · rw [if_pos c2, hsr]
        exact Ev.pos (decide_eq_true (.inr ⟨c2, rfl⟩)) (Ev.now _)
      · rw [if_neg c2]
        refine Ev.neg ?_ (Ev.now _)
        simp only [decide_eq_true_eq]
        unfold okA
        omega
end Go.Proofs.Ytodgadhegcjbhaa.Msg
end
section
namespace Go.Proofs.Ytodgadhegcjbhaa.Msg
set_option linter.unusedVariables false
open Go.RowKit Go.Proofs.YtodgadhegcjbhaaW.PrintWords Go.Proofs.YtodgadhegcjbhaaW.PrintLast Go.Proofs.YtodgadhegcjbhaaW.PrintMore Go.Proofs.Ytodgadhegcjbhaa.Base Go.Proofs.Ytodgadhegcjbhaa.Num Go.Proofs.Ytodgadhegcjbhaa.Addr Go.Proofs.Ytodgadhegcjbhaa.Be Go.Proofs.Ytodgadhegcjbhaa.Q
end Go.Proofs.Ytodgadhegcjbhaa.Msg
end
section
namespace Go.Proofs.Ytodgadhegcjbhaa.Msg
set_option linter.unusedVariables false
open Go.RowKit Go.Proofs.YtodgadhegcjbhaaW.PrintWords Go.Proofs.YtodgadhegcjbhaaW.PrintLast Go.Proofs.YtodgadhegcjbhaaW.PrintMore Go.Proofs.Ytodgadhegcjbhaa.Base Go.Proofs.Ytodgadhegcjbhaa.Num Go.Proofs.Ytodgadhegcjbhaa.Addr Go.Proofs.Ytodgadhegcjbhaa.Be Go.Proofs.Ytodgadhegcjbhaa.Q
theorem racts_is (k i : Int) : spoorref11_Acts.f k i = some (decide (okA k i)) := by
  unfold spoorref11_Acts.f
  by_cases h1 : k = 1
  · rw [if_pos h1]
    by_cases h2 : i ≥ 0
    · rw [if_pos h2]
      congr 1
      apply decide_eq_decide.2
      unfold okA
      omega
    · rw [if_neg h2]
      congr 1
      symm
      rw [decide_eq_false_iff_not]
      unfold okA
      omega
  rw [if_neg h1]
  by_cases h2 : k = 2
  · rw [if_pos h2]
    congr 1
    rw [Bool.eq_iff_iff]
    simp only [beq_iff_eq, decide_eq_true_eq]
    unfold okA
    omega
  rw [if_neg h2]
  by_cases h3 : k = 3
  · rw [if_pos h3]
    congr 1
    rw [Bool.eq_iff_iff]
    simp only [beq_iff_eq, decide_eq_true_eq]
    unfold okA
    omega
  rw [if_neg h3]
  congr 1
  rw [Bool.eq_iff_iff]
  simp only [decide_eq_true_eq]
  unfold okA
  constructor
  · intro h; cases h
  · omega
theorem eight_step {n : Int} {l : List Int} {i : Int} {r : ByteArray} (h0 : 0 ≤ n) (h1 : n < 18446744073709551616) (hi : 0 ≤ i) (hi1 : i ≤ 7) (hl : l.length = 8)
    (h : Ev (fun k => spoorref05_Eight.l0 k (n / 256) (l.set i.toNat (n % 256)) (i - 1)) r) : Ev (fun k => spoorref05_Eight.l0 k n l i) r := by
  refine Ev.succ ?_
  simp only [spoorref05_Eight.l0]
  refine Ev.pos hi (Ev.pos hi (Ev.pos (by omega) ?_))
  have e1 : IntKind.u64.wrap (Int.tdiv n 256) = n / 256 := by rw [Int.tdiv_eq_ediv_of_nonneg h0]; exact u64w (by omega) (by omega)
  have e2 : Int.tmod n 256 % 256 = n % 256 := by rw [Int.tmod_eq_emod_of_nonneg h0]; omega
  rw [e1, e2, w64 (by omega) (by omega)]
  exact h
theorem eight_ev (n : Int) (h0 : 0 ≤ n) (h1 : n < 18446744073709551616) : Ev (fun k => spoorref05_Eight.f k n) (strOfNums (byt8 n)) := by
  simp only [spoorref05_Eight.f]
  refine eight_step h0 h1 (by omega) (by omega) rfl ?_
  refine eight_step (by omega) (by omega) (by omega) (by omega) rfl ?_
  refine eight_step (by omega) (by omega) (by omega) (by omega) rfl ?_
  refine eight_step (by omega) (by omega) (by omega) (by omega) rfl ?_
  refine eight_step (by omega) (by omega) (by omega) (by omega) rfl ?_
  refine eight_step (by omega) (by omega) (by omega) (by omega) rfl ?_
  refine eight_step (by omega) (by omega) (by omega) (by omega) rfl ?_
  refine eight_step (by omega) (by omega) (by omega) (by omega) rfl ?_
  refine Ev.succ ?_
  simp only [spoorref05_Eight.l0]
  refine Ev.neg (by omega) (Ev.const ?_)
  congr 2
  simp only [List.replicate, byt8]
  show [_, _, _, _, _, _, _, _] = _
  simp only [List.cons.injEq, and_true]
  omega
theorem number_l0 (s : ByteArray) (hs : s.size ≤ 8) : ∀ (d i : Nat), s.size - i = d → i ≤ s.size → Ev (fun k => spoorref05_Number.l0 k s ((nb ((bytesOf s).take i) : Nat) : Int) i) ((nb (bytesOf s) : Nat) : Int)
  | 0, i, hd, hi => by
    obtain rfl : i = s.size := by omega
    refine Ev.succ ?_
    simp only [spoorref05_Number.l0]
    rw [List.take_of_length_le (by rw [bytesOf_length]; exact Nat.le_refl _)]
    exact Ev.neg (by omega) (Ev.now _)
  | d + 1, i, hd, hi => by
    refine Ev.succ ?_
    simp only [spoorref05_Number.l0]
    refine Ev.pos (by omega) (Ev.pos (by omega) ?_)
    have hlen : ((bytesOf s).take i).length = i := by rw [List.length_take, bytesOf_length]; omega
    have hb := nb_lt ((bytesOf s).take i) ((bytesOf_bytes s).take i)
    rw [hlen] at hb
    have hp : 256 ^ i ≤ 256 ^ 7 := Nat.pow_le_pow_right (by decide) (by omega)
    have hr := bt_range s i
    have ht := take_rd (bytesOf s) 0 i (by rw [bytesOf_length]; omega)
    simp only [List.drop_zero, Nat.zero_add] at ht
    have ih := number_l0 s hs d (i + 1) (by omega) (by omega)
    rw [ht, nb_snoc, ← bt_nat] at ih
    rw [u64w (n := 256 * ((nb ((bytesOf s).take i) : Nat) : Int)) (by omega) (by omega), u64w (n := bt s i) (by omega) (by omega), u64w (by omega) (by omega), w64 (by omega) (by omega)]
    have e : (((256 * nb ((bytesOf s).take i) + (bt s i).toNat : Nat)) : Int) = 256 * ((nb ((bytesOf s).take i) : Nat) : Int) + bt s i := by omega
    rw [e] at ih
    exact ih
theorem number_ev (s : ByteArray) (hs : s.size ≤ 8) : Ev (fun k => spoorref05_Number.f k s) ((nb (bytesOf s) : Nat) : Int) := by
  simp only [spoorref05_Number.f]
  exact number_l0 s hs _ 0 rfl (by omega)
theorem zeros_eq (n : Nat) (h : n ≤ 281474976710656) : spoorref05_Zeros.f n = some (strOfNums (List.replicate n 0)) := by
  unfold spoorref05_Zeros.f
  rw [if_pos (by omega), if_pos (by omega), Int.toNat_natCast]
theorem address_ev (six : Bool) {n : Nat} (hn : n < 340282366920938463463374607431768211456) : Ev (fun k => spoorref11_address.f k six (hi n) (lo n)) (strOfNums (be (Bn six) n)) := by
  have h1 := hi_range hn
  have h2 := lo_range n
  simp only [spoorref11_address.f]
  refine Ev.bind (eight_ev _ h1.1 h1.2) (Ev.bind (eight_ev _ h2.1 h2.2) ?_)
  have e := word_six hn
  rw [← str_append, e]
  refine Ev.pos (by rw [strOfNums_size, strOfNums_size]; exact (by decide : 8 + 8 ≤ 9223372036854775807)) ?_
  cases six with
  | true => exact Ev.pos rfl (Ev.now _)
  | false =>
    refine Ev.neg (by decide) (Ev.pos (by rw [strOfNums_size, be_len]; decide) (Ev.const ?_))
    rw [str_from, bytes_str (be_bytes _ _), show 16 = 12 + 4 from rfl, be_split 4 12, List.drop_left' (be_len _ _)]
    rfl
theorem kn_tdiv {len : Int} (h0 : 0 ≤ len) (h1 : len ≤ 128) : wrap64 (Int.tdiv (wrap64 (len + 7)) 8) = (Kn len : Int) := by
  rw [w64 (n := len + 7) (by omega) (by omega), Int.tdiv_eq_ediv_of_nonneg (by omega), w64 (by omega) (by omega)]
  unfold Kn
  omega
theorem rputprefix_ev (six : Bool) {n : Nat} (hn : n < 340282366920938463463374607431768211456) (len : Int) : Ev (fun k => spoorref11_PutPrefix.f k six (hi n) (lo n) len) (if okP six n len then (strOfNums (preL six n len), 0) else ((⟨#[]⟩ : ByteArray), 2)) := by
  simp only [spoorref11_PutPrefix.f]
  refine Ev.bind (rcheck_ev six hn len) ?_
  by_cases h : okP six n len
  · rw [if_pos h, if_pos h]
    have h' := h
    obtain ⟨h0, h1, _⟩ := h'
    have hw := Wn_le six
    have hk := kn_le h1
    rw [kn_tdiv h0 (by omega)]
    refine Ev.pos rfl ?_
    have hB : Bn six ≤ 16 := by cases six <;> simp [Bn]
    have hx : strOfNums [sixB six, len % 256] ++ (strOfNums (be (Bn six) n)).extract 0 (Kn len : Int).toNat = strOfNums (preL six n len) := by
      rw [str_part, bytes_str (be_bytes _ _), List.drop_zero, ← str_append, Int.toNat_natCast]
      congr 1
      show sixB six :: len % 256 :: _ = _
      rw [show len % 256 = len by omega]
      rfl
    have hz : (strOfNums [sixB six, len % 256]).size + ((strOfNums (be (Bn six) n)).extract 0 (Kn len : Int).toNat).size ≤ 9223372036854775807 := by
      rw [str_part, strOfNums_size, strOfNums_size, bytes_str (be_bytes _ _), List.drop_zero, List.length_take, be_len]
      simp only [List.length_cons, List.length_nil]
      omega
    cases six with
    | true =>
      refine Ev.pos rfl (Ev.bind (Ev.now _) (Ev.bind (address_ev true hn) (Ev.pos (by omega) (Ev.pos (by rw [strOfNums_size, be_len]; omega) (Ev.pos hz (Ev.const ?_))))))
      rw [← hx]; rfl
    | false =>
      refine Ev.neg (by decide) (Ev.bind (Ev.now _) (Ev.bind (address_ev false hn) (Ev.pos (by omega) (Ev.pos (by rw [strOfNums_size, be_len]; omega) (Ev.pos hz (Ev.const ?_))))))
      rw [← hx]; rfl
  · rw [if_neg h, if_neg h]
    exact Ev.neg (by decide) (Ev.now _)
theorem rnum_ev {m : Int} (h0 : 0 ≤ m) (h1 : m < 18446744073709551616) : Ev (fun k => spoorref01_Put.f k (IntKind.u64.wrap m)) (strOfNums (putL m.toNat)) := by
  rw [u64w h0 h1, show m = ((m.toNat : Nat) : Int) by omega]
  exact rput_ev _ (by omega)
theorem rputaction_ev (k i : Int) : Ev (fun q => spoorref11_PutAction.f q k i) (if okA k i then (strOfNums (actL k i), 0) else ((⟨#[]⟩ : ByteArray), 2)) := by
  simp only [spoorref11_PutAction.f]
  rw [racts_is]
  simp only [Option.bind_some]
  by_cases h : okA k i
  · rw [if_pos h]
    refine Ev.pos (decide_eq_true h) ?_
    unfold actL
    rcases okA_act h with ⟨rfl, h0, h1⟩ | ⟨h1, h2, rfl⟩
    · rw [if_pos rfl]
      have := putL_len (n := i.toNat) (by omega)
      refine Ev.pos rfl (Ev.bind (rnum_ev h0 (by omega)) (Ev.pos (by rw [strOfNums_size, strOfNums_size]; simp only [List.length_cons, List.length_nil]; omega) (Ev.const ?_)))
      rw [← str_append]; rfl
    · rw [if_neg h1]
      exact Ev.neg h1 (Ev.now _)
  · rw [if_neg h]
    exact Ev.neg (by simpa using h) (Ev.now _)
end Go.Proofs.Ytodgadhegcjbhaa.Msg
end
section
namespace Go.Proofs.Ytodgadhegcjbhaa.Msg
set_option linter.unusedVariables false
open Go.RowKit Go.Proofs.YtodgadhegcjbhaaW.PrintWords Go.Proofs.YtodgadhegcjbhaaW.PrintLast Go.Proofs.YtodgadhegcjbhaaW.PrintMore Go.Proofs.Ytodgadhegcjbhaa.Base Go.Proofs.Ytodgadhegcjbhaa.Num Go.Proofs.Ytodgadhegcjbhaa.Addr Go.Proofs.Ytodgadhegcjbhaa.Be Go.Proofs.Ytodgadhegcjbhaa.Q
theorem nb_hi {l : List Int} (hb : Bytes l) (h : l.length = 16) : ((nb (l.take 8) : Nat) : Int) = hi (nb l) ∧ ((nb (l.drop 8) : Nat) : Int) = lo (nb l) := by
  have e : nb l = nb (l.take 8) * 18446744073709551616 + nb (l.drop 8) := by
    have := nb_append (l.take 8) (l.drop 8)
    rw [List.take_append_drop, List.length_drop, h] at this
    exact this
  have hlt := nb_lt (l.drop 8) (hb.drop 8)
  rw [List.length_drop, h] at hlt
  have h2 : nb (l.drop 8) < 18446744073709551616 := hlt
  unfold hi lo
  rw [e]
  constructor <;> omega
theorem rgp_bad (s : ByteArray) : Ev (fun k => spoorref11_GetPrefix.j0 k s true) (preS none) := by
  refine Ev.succ ?_
  simp only [spoorref11_GetPrefix.j0]
  exact Ev.pos trivial (Ev.now _)
theorem rgj1_bad (s : ByteArray) (x : Int) (six : Bool) (a b c : Int) : Ev (fun k => spoorref11_GetPrefix.j1 k s x true six a b c) (preS none) := by
  refine Ev.succ ?_
  simp only [spoorref11_GetPrefix.j1]
  exact Ev.pos trivial (Ev.now _)
theorem rgetprefix_ev (s : ByteArray) (hs : s.size ≤ 281474976710656) : Ev (fun k => spoorref11_GetPrefix.f k s) (preS (getP (bytesOf s))) := by
  simp only [spoorref11_GetPrefix.f]
  match hl : bytesOf s with
  | [] =>
    have := size_of_bytes hl
    simp only [List.length_nil] at this
    exact Ev.pos (by omega) (rgp_bad s)
  | [a] =>
    have := size_of_bytes hl
    simp only [List.length_cons, List.length_nil] at this
    exact Ev.pos (by omega) (rgp_bad s)
  | a :: b :: l =>
    have hz := size_of_bytes hl
    simp only [List.length_cons] at hz
    have hb : Bytes (a :: b :: l) := by rw [← hl]; exact bytesOf_bytes s
    obtain ⟨b0, b1⟩ := bt01 hl
    have hbb := hb.tail.head
    rw [b0]
    refine Ev.neg (by omega) (Ev.pos (by omega) ?_)
    simp only [getP]
    by_cases c46 : a = 4 ∨ a = 6
    · have go : Ev (fun k => spoorref11_GetPrefix.j0 k s false) (preS (if (a = 4 ∨ a = 6) ∧ b ≤ ↑(Wn (a == 6)) ∧ Kn b ≤ l.length ∧ okP (a == 6) (preN (a == 6) b l) b then some ((a == 6, preN (a == 6) b l, b), List.drop (Kn b) l) else none)) := by
        refine Ev.succ ?_
        simp only [spoorref11_GetPrefix.j0]
        rw [b0, b1]
        refine Ev.neg (by decide) (Ev.pos (by omega) (Ev.pos (by omega) ?_))
        rw [rwide_is]
        simp only [Option.bind_some]
        generalize (a == 6) = six
        have e1 : wrap64 b = b := w64 (by omega) (by omega)
        rw [e1]
        by_cases c1 : b > ((Wn six : Nat) : Int)
        · rw [if_neg (fun h => by have := h.2.1; omega)]
          exact Ev.pos c1 (rgj1_bad _ _ _ _ _ _)
        refine Ev.neg c1 ?_
        have hw : b ≤ ((Wn six : Nat) : Int) := by omega
        have hW := Wn_le six
        have hk := kn_le hw
        have hB : Bn six ≤ 16 := by cases six <;> simp [Bn]
        rw [kn_tdiv hbb.1 (by omega), w64 (n := 2 + (Kn b : Int)) (by omega) (by omega)]
        by_cases c2 : (s.size : Int) < 2 + (Kn b : Int)
        · rw [decide_eq_true c2, if_neg (fun h => by have := h.2.2.1; omega)]
          exact rgj1_bad _ _ _ _ _ _
        rw [decide_eq_false c2]
        refine Ev.succ ?_
        simp only [spoorref11_GetPrefix.j1]
        rw [w64 (n := 2 + (Kn b : Int)) (by omega) (by omega)]
        refine Ev.neg (by decide) (Ev.pos (by omega) (Ev.pos (by omega) ?_))
        refine Ev.bind (Ev.const (rwide_is six)) ?_
        have ew : wrap64 (wrap64 (Int.tdiv ((Wn six : Nat) : Int) 8) - (Kn b : Int)) = ((Bn six - Kn b : Nat) : Int) := by
          rw [bn_wn, Int.tdiv_eq_ediv_of_nonneg (by omega), w64 (n := ((8 * Bn six : Nat) : Int) / 8) (by omega) (by omega), w64 (by omega) (by omega)]
          omega
        refine Ev.bind (Ev.const (by rw [ew]; exact zeros_eq _ (by omega))) ?_
        have ht : (2 + (Kn b : Int)).toNat = 2 + Kn b := by omega
        rw [ht]
        have hx : s.extract 2 (2 + Kn b) = strOfNums (l.take (Kn b)) := by
          rw [str_part, hl]
          congr 1
          rw [show 2 + Kn b = Kn b + 1 + 1 by omega]
          simp only [List.take_succ_cons, List.drop_succ_cons, List.drop_zero]
        rw [hx, ← str_append]
        have hkl : Kn b ≤ l.length := by omega
        have hbt : Bytes (l.take (Kn b)) := hb.tail.tail.take _
        have hlen : (l.take (Kn b) ++ List.replicate (Bn six - Kn b) 0).length = Bn six := by rw [List.length_append, List.length_take, List.length_replicate]; omega
        have hbw : Bytes (l.take (Kn b) ++ List.replicate (Bn six - Kn b) 0) := hbt.append (bytes_zeros _)
        have hN : preN six b l = nb (l.take (Kn b) ++ List.replicate (Bn six - Kn b) 0) := rfl
        have hNlt := preN_lt hb.tail.tail hw hkl
        have hrest : s.extract (2 + Kn b) s.size = strOfNums (l.drop (Kn b)) := by
          rw [str_from, hl]
          congr 1
          rw [show 2 + Kn b = Kn b + 1 + 1 by omega]
          simp only [List.drop_succ_cons]
        rw [hrest]
        refine Ev.pos (by rw [strOfNums_size, strOfNums_size, List.length_take, List.length_replicate]; omega) ?_
        cases six with
        | true =>
          have hl16 : (l.take (Kn b) ++ List.replicate (Bn true - Kn b) 0).length = 16 := hlen
          generalize l.take (Kn b) ++ List.replicate (Bn true - Kn b) 0 = W at hl16 hbw hN ⊢
          obtain ⟨f1, f2⟩ := nb_hi hbw hl16
          refine Ev.pos rfl (Ev.pos (by rw [strOfNums_size, hl16]; decide) ?_)
          have n1 := number_ev ((strOfNums W).extract 0 8) (by rw [str_part, bytes_str hbw, strOfNums_size, List.drop_zero, List.length_take]; omega)
          have n2 := number_ev ((strOfNums W).extract 8 (strOfNums W).size) (by rw [str_from, bytes_str hbw, strOfNums_size, List.length_drop]; omega)
          rw [bytes_extract, bytes_str hbw, List.drop_zero, f1] at n1
          rw [bytes_from, bytes_str hbw, f2] at n2
          rw [hN] at hNlt ⊢
          have hc := rcheck_ev true hNlt b
          refine Ev.bind n1 (Ev.bind n2 ?_)
          by_cases ok : okP true (nb W) b
          · rw [if_pos ok] at hc
            rw [if_pos (show (a = 4 ∨ a = 6) ∧ b ≤ ((Wn true : Nat) : Int) ∧ Kn b ≤ l.length ∧ okP true (nb W) b from ⟨c46, hw, hkl, ok⟩)]
            exact Ev.bind hc (Ev.pos rfl (Ev.pos (by omega) (Ev.now _)))
          · rw [if_neg ok] at hc
            rw [if_neg (show ¬ ((a = 4 ∨ a = 6) ∧ b ≤ ((Wn true : Nat) : Int) ∧ Kn b ≤ l.length ∧ okP true (nb W) b) from fun h => ok h.2.2.2)]
            exact Ev.bind hc (Ev.neg (by decide) (Ev.now _))
        | false =>
          have hl4 : (l.take (Kn b) ++ List.replicate (Bn false - Kn b) 0).length = 4 := hlen
          generalize l.take (Kn b) ++ List.replicate (Bn false - Kn b) 0 = W at hl4 hbw hN ⊢
          refine Ev.neg (by decide) ?_
          have n1 := number_ev (strOfNums W) (by rw [strOfNums_size]; omega)
          rw [bytes_str hbw] at n1
          have hlt := nb_lt W hbw
          rw [hl4] at hlt
          have hlt4 : nb W < 4294967296 := hlt
          have f1 : ((nb W : Nat) : Int) = lo (nb W) := by unfold lo; omega
          have f2 : (0 : Int) = hi (nb W) := by unfold hi; omega
          rw [f1] at n1
          rw [hN] at hNlt ⊢
          have hc := rcheck_ev false hNlt b
          rw [← f2] at hc
          refine Ev.bind n1 ?_
          by_cases ok : okP false (nb W) b
          · rw [if_pos ok] at hc
            rw [if_pos (show (a = 4 ∨ a = 6) ∧ b ≤ ((Wn false : Nat) : Int) ∧ Kn b ≤ l.length ∧ okP false (nb W) b from ⟨c46, hw, hkl, ok⟩)]
            refine Ev.bind hc (Ev.pos rfl (Ev.pos (by omega) (Ev.const ?_)))
            simp only [preS, ← f2]
          · rw [if_neg ok] at hc
            rw [if_neg (show ¬ ((a = 4 ∨ a = 6) ∧ b ≤ ((Wn false : Nat) : Int) ∧ Kn b ≤ l.length ∧ okP false (nb W) b) from fun h => ok h.2.2.2)]
            exact Ev.bind hc (Ev.neg (by decide) (Ev.now _))
      by_cases c4 : a = 4
      · exact Ev.pos c4 go
      · refine Ev.neg c4 ?_
        have : (a != 6) = false := by have : a = 6 := by omega
                                      rw [this]; rfl
        rw [this]
        exact go
    · rw [if_neg (fun h => c46 h.1)]
      refine Ev.neg (by omega) ?_
      have : (a != 6) = true := by rw [bne_iff_ne]; omega
      rw [this]
      exact rgp_bad s
theorem rgetaction_ev (s : ByteArray) (hs : s.size ≤ 281474976710656) : Ev (fun k => spoorref11_GetAction.f k s) (actS (getA (bytesOf s))) := by
  simp only [spoorref11_GetAction.f]
  match hl : bytesOf s with
  | [] => exact Ev.pos ((nil_iff s).2 hl) (Ev.now _)
  | a :: l =>
    have hz := size_of_bytes hl
    simp only [List.length_cons] at hz
    have hb : Bytes (a :: l) := by rw [← hl]; exact bytesOf_bytes s
    have hsr : s.extract 1 s.size = strOfNums l := by rw [str_from, hl]; rfl
    rw [bt0 hl, hsr]
    refine Ev.neg (fun h => by rw [nil_iff, hl] at h; cases h) (Ev.pos (by omega) (Ev.pos (by omega) ?_))
    simp only [getA]
    by_cases c1 : a = 1
    · refine Ev.pos c1 ?_
      rw [if_pos c1]
      have hg := rget_ev0 (strOfNums l) (by rw [strOfNums_size]; omega)
      rw [bytes_str hb.tail] at hg
      refine Ev.bind hg ?_
      simp only [getR]
      have hv := getL_val hb.tail
      unfold rdN
      by_cases g : (getL 0 0 l).2.2 = 0
      · refine Ev.pos g (Ev.succ ?_)
        simp only [spoorref11_GetAction.j0]
        by_cases g2 : (getL 0 0 l).1 ≤ 65536
        · have gg : (getL 0 0 l).2.2 = 0 ∧ (getL 0 0 l).1 ≤ 65536 := ⟨g, g2⟩
          rw [if_pos gg]
          refine Ev.neg (by simp; omega) ?_
          rw [racts_is, w64 (n := (getL 0 0 l).1) (by omega) (by omega)]
          simp only [Option.bind_some]
          rw [c1]
          exact Ev.pos (decide_eq_true (.inl ⟨rfl, hv.1, g2⟩)) (Ev.now _)
        · have gg : ¬ ((getL 0 0 l).2.2 = 0 ∧ (getL 0 0 l).1 ≤ 65536) := fun h => g2 h.2
          rw [if_neg gg]
          exact Ev.pos (by simp; omega) (Ev.now _)
      · have gg : ¬ ((getL 0 0 l).2.2 = 0 ∧ (getL 0 0 l).1 ≤ 65536) := fun h => g h.1
        rw [if_neg gg]
        refine Ev.neg g (Ev.succ ?_)
        simp only [spoorref11_GetAction.j0]
        exact Ev.pos trivial (Ev.now _)
    · refine Ev.neg c1 ?_
      rw [if_neg c1, racts_is]
      simp only [Option.bind_some]
      by_cases c2 : a = 2 ∨ a = 3
      · rw [if_pos c2]
        exact Ev.pos (decide_eq_true (.inr ⟨c2, rfl⟩)) (Ev.now _)
      · rw [if_neg c2]
        refine Ev.neg ?_ (Ev.now _)
        simp only [decide_eq_true_eq]
        unfold okA
        omega
end Go.Proofs.Ytodgadhegcjbhaa.Msg
end
section
namespace Go.Proofs.Ytodgadhegcjbhaa.Msg
set_option linter.unusedVariables false
open Go.RowKit Go.Proofs.YtodgadhegcjbhaaW.PrintWords Go.Proofs.YtodgadhegcjbhaaW.PrintLast Go.Proofs.YtodgadhegcjbhaaW.PrintMore Go.Proofs.Ytodgadhegcjbhaa.Base Go.Proofs.Ytodgadhegcjbhaa.Num Go.Proofs.Ytodgadhegcjbhaa.Addr Go.Proofs.Ytodgadhegcjbhaa.Be Go.Proofs.Ytodgadhegcjbhaa.Q
theorem toList_inj {a b : ByteArray} (h : a.toList = b.toList) : a = b := by
  rw [Go.ByteArray.toList_eq, Go.ByteArray.toList_eq] at h
  exact ByteArray.ext (Array.toList_inj.mp h)
end Go.Proofs.Ytodgadhegcjbhaa.Msg
end
section
namespace Go.Proofs.Ytodgadhegcjbhaa.Pure
set_option linter.unusedVariables false
open Go.RowKit Go.Proofs.Ytodgadhegcjbhaa.Q Go.Proofs.YtodgadhegcjbhaaW.PrintWords Go.Proofs.YtodgadhegcjbhaaW.PrintLast Go.Proofs.Ytodgadhegcjbhaa.Base Go.Proofs.Ytodgadhegcjbhaa.Num Go.Proofs.Ytodgadhegcjbhaa.Addr Go.Proofs.Ytodgadhegcjbhaa.Msg
theorem lives_ev : Ev spoorlaw11_lives.f true := Ev.of spoorlaw11_lives.mono (k := 300) (by decide +kernel)
theorem MsgParts : spoorlaw11_MsgParts.Pure := by
  intro six h l len ak ai s hw ha hs hz
  obtain ⟨_, ⟨h1, h2⟩, h3⟩ := hw
  obtain ⟨n, hn, rfl, rfl⟩ := of_parts (wf_u64 h1).1 (wf_u64 h1).2 (wf_u64 h2).1 (wf_u64 h2).2
  refine Ev.rounds ?_
  simp only [spoorlaw11_MsgParts.f]
  refine Ev.bind (putprefix_ev six hn len) (Ev.bind (rputprefix_ev six hn len) (Ev.bind (getprefix_ev s) (Ev.bind (rgetprefix_ev s (by omega)) (Ev.bind (putaction_ev ak ai) (Ev.bind (rputaction_ev ak ai) (Ev.bind (getaction_ev s (by omega)) (Ev.bind (rgetaction_ev s (by omega)) (Ev.bind lives_ev ?_))))))))
  refine Ev.pos rfl (Ev.pos rfl (Ev.pos rfl (Ev.pos (by simp) (Ev.pos rfl (Ev.pos rfl (Ev.pos rfl (Ev.pos rfl (Ev.pos (by simp) (Ev.pos rfl (Ev.const ?_))))))))))
  rw [beq_self_eq_true]
end Go.Proofs.Ytodgadhegcjbhaa.Pure
end
section
namespace Go.Proofs.Ytodgadhegcjbhaa.msgParts
open Go.ChangeShapes Go.WideShapes Go.ChangeAt Go.RowKit Go.Proofs.Ytodgadhegcjbhaa.Open Go.Proofs.Ytodgadhegcjbhaa.Q
open Go.ChangeMaps (open_string shut_string)
set_option linter.unusedVariables false
theorem own : ownKnob Try.prog.godebug = none := by kernel_rfl
theorem laidOut : laidOutB Try.prog = true := by kernel_rfl
theorem contract (H : Type) (enc : TypeId × Value → H) (W : World) (base : Nat) (args : Array Value) (ds gs : List (DataW H)) (before : List MemPlace)
    (hval : ∀ (j : Nat) t v, Try.f4.params[j]? = some t → args[j]? = some v → Value.okWide Try.prog W .any base t v)
    (hW : DataW.Whole enc Try.prog Try.f4.params.toList Rows.msgPartsSpec.vars false W args.toList ds gs before) (hsz0 : (DataW.weightsEach Try.prog (Try.f4.params.toList ++ Rows.msgPartsSpec.plain.varTypes Try.prog) (ds ++ gs)).all (· ≤ reachBytes) = true) :
    Calls Try.prog 4 args W fun e W' => ∃ v, e = .returned v ∧ Rows.msgPartsSpec.post enc Try.prog Try.f4 false true false false W args v W' := by
  have hW' := hW
  obtain ⟨p, q, hA0, hV, rfl, hfz, hnd⟩ := hW
  have hA : DataW.TrodAll enc Try.prog W 0 (fun _ => true) true Try.f4.params.toList args.toList ds p := hA0
  have hsz : (DataW.weightsEach Try.prog (Try.f4.params.toList ++ Rows.msgPartsSpec.plain.varTypes Try.prog) (ds ++ gs)).all (· ≤ reachBytes) = true := hsz0
  rw [Try.params4] at hA hval hsz
  obtain ⟨v0, vs0, d0, ds0, p0, q0, hargs, rfl, rfl, h0, r0⟩ := trodAll_cons hA
  obtain ⟨v1, vs1, d1, ds1, p1, q1, rfl, rfl, rfl, h1, r1⟩ := trodAll_cons r0
  obtain ⟨v2, vs2, d2, ds2, p2, q2, rfl, rfl, rfl, h2, r2⟩ := trodAll_cons r1
  obtain ⟨rfl, rfl, rfl⟩ := trodAll_nil r2
  obtain rfl : args = #[v0, v1, v2] := by cases args; simp_all
  obtain ⟨rfl, rfl⟩ := trodVars_none hV
  have k0 := h0
  have lt0 : ∀ x ∈ p0, x.block < W.heap.size := by obtain ⟨m, hm⟩ := k0; exact DataW.trod_lt m _ _ _ hm
  obtain ⟨fu0, hf0⟩ := h0
  obtain ⟨b0, K0, o0, u0⟩ := opn27 enc W _ _ _ _ _ hf0
  have z0 := k27_open K0
  obtain rfl : v0 = .agg #[.bool b0.f0, .int .u64 b0.f1.f0, .int .u64 b0.f1.f1, .int .i64 b0.f2] := by obtain ⟨x, rfl, _⟩ := okWide_struct Try.underlying27 (hval 0 27 v0 rfl rfl); exact congrArg Value.agg (Array.toList_inj.mp (show x.toList = [.bool b0.f0, .int .u64 b0.f1.f0, .int .u64 b0.f1.f1, .int .i64 b0.f2] from z0))
  have k1 := h1
  have lt1 : ∀ x ∈ p1, x.block < W.heap.size := by obtain ⟨m, hm⟩ := k1; exact DataW.trod_lt m _ _ _ hm
  obtain ⟨fu1, hf1⟩ := h1
  obtain ⟨b1, K1, o1, u1⟩ := opn30 enc W _ _ _ _ _ hf1
  have z1 := k30_open K1
  obtain rfl : v1 = .agg #[.int .u8 b1.f0, .int .i64 b1.f1] := by obtain ⟨x, rfl, _⟩ := okWide_struct Try.underlying30 (hval 1 30 v1 rfl rfl); exact congrArg Value.agg (Array.toList_inj.mp (show x.toList = [.int .u8 b1.f0, .int .i64 b1.f1] from z1))
  have k2 := h2
  have lt2 : ∀ x ∈ p2, x.block < W.heap.size := by obtain ⟨m, hm⟩ := k2; exact DataW.trod_lt m _ _ _ hm
  obtain ⟨fu2, hf2⟩ := h2
  obtain ⟨b2, K2, o2, u2⟩ := (opens_string Try.underlying9) enc W _ _ _ _ _ hf2
  obtain rfl : v2 = .string b2 := by obtain ⟨x, rfl⟩ := okWide_string Try.underlying9 (hval 2 9 v2 rfl rfl); exact (List.cons.inj (show [Value.string x] = [Value.string b2] from K2)).1
  have sz2 : b2.size ≤ 140737488351232 := sized_text hsz (j := 2) (t := 9) rfl rfl Try.underlying9 k2
  obtain ⟨k, h⟩ := Pure.MsgParts b0.f0 b0.f1.f0 b0.f1.f1 b0.f2 b1.f0 b1.f1 b2 o0 o1 o2 sz2
  refine (spoorlaw11_MsgParts.calls k b0.f0 b0.f1.f0 b0.f1.f1 b0.f2 b1.f0 b1.f1 b2 true W  h).mono fun e W' ⟨he, hd⟩ => ?_
  have bel := hd
  subst he
  exact ⟨_, rfl, _, _, _, [], _, [], hW', trodAll_mk1 (shut_bool Try.underlying4 _), (trodAll_cons_mk (Below.trod laidOut (by kernel_rfl) (of_decide_eq_true (by kernel_rfl)) k0 bel lt0) (trodAll_cons_mk (Below.trod laidOut (by kernel_rfl) (of_decide_eq_true (by kernel_rfl)) k1 bel lt1) (trodAll_cons_mk (Below.trod laidOut (by kernel_rfl) (of_decide_eq_true (by kernel_rfl)) k2 bel lt2) trodAll_mk0))), rfl, bel.frame _, fun h => by cases h⟩
set_option maxRecDepth 100000 in
theorem lifted (os : Os) (started : os.Started) (H : Type) (enc : TypeId × Value → H) :
    ReturnsInHanded {} Try.checked os 4 .any (Rows.msgPartsSpec.pre6 enc Try.prog Try.f4 Rows.msgPartsRow.domain false) (Rows.msgPartsSpec.post enc Try.prog Try.f4 false true false false) := by
  refine returnsInHanded_of_change_sized (C := Try.checked) own started (by kernel_rfl) Try.func4
    (ChangeSpec.witness6 (enc := enc) (C := Try.checked) false ⟨#[], #[.agg #[.bool false, .int .u64 0, .int .u64 0, .int .i64 0], .agg #[.int .u8 0, .int .i64 0], .string ByteArray.empty], []⟩ 8 (by kernel_rfl) (by kernel_rfl) (by kernel_rfl) (by kernel_rfl)) ?_
  intro W base args ds gs before hval hW _ hsz _
  exact contract H enc W base args ds gs before hval hW hsz
theorem over : Rows.msgPartsRow.holds Try.pinned (OpenSpec.ofChange Rows.msgPartsSpec) :=
  OpenClaim.holds_of_wide 4 Try.f4 rfl rfl rfl rfl rfl rfl rfl ⟨rfl, rfl, rfl, rfl, rfl⟩ rfl rfl rfl rfl rfl (by kernel_rfl) Try.func4 (by kernel_rfl)
    (of_decide_eq_true (by kernel_rfl)) (by unfold Func.isWrapper; first | (rw [if_pos (by decide +kernel)]; kernel_rfl) | (rw [if_neg (by decide +kernel)]; exact ⟨rfl, rfl⟩))
    (fun os started H enc _ => lifted os started H enc)
theorem proved : Rows.MsgPartsSaid := over
#print axioms proved
end Go.Proofs.Ytodgadhegcjbhaa.msgParts
namespace Go.Proofs.Ytodgadhegcjbhaa
theorem msgParts_holds : Rows.MsgPartsSaid := msgParts.proved
end Go.Proofs.Ytodgadhegcjbhaa
end
