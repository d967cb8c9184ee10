-- Merged and trimmed by this session's program wip/tools/trim.py.
import Derived.Test.YtodgadhegcjbhaaRows
import Derived.ChangeArms
import Derived.WideShapes
import Derived.SizedLaws
import Derived.Laws.BytesArg
import Derived.Laws.BitsLemmas
import Derived.Test.YtodgadhegcjbhaaTMsgPrefixes4
section
namespace Go.Proofs.Ytodgadhegcjbhaa.Q
open Go.RowKit Go.Proofs.YtodgadhegcjbhaaW.PrintWords Go.Proofs.YtodgadhegcjbhaaW.PrintLast Go.Proofs.YtodgadhegcjbhaaW.PrintMore
attribute [local go_sem] max2_int min2_int max_two min_two max_three min_three max_four min_four   -- for this text's walks alone
set_option linter.unusedVariables false
set_option linter.unusedSimpArgs false
attribute [local go_sem high] eqA27 eqA30 eqA32
def msg_PutPrefix.f (k : Nat) (a0_0 : Bool) (a0_1 : Int) (a0_2 : Int) (a0_3 : Int) : Option (ByteArray × Int) := (addr_Check.f k a0_0 a0_1 a0_2 a0_3).bind fun t354 => (if t354 = 0 then ((msg_prefix.f ([] : List Int) a0_0 a0_1 a0_2 a0_3).bind fun t355 => (some (strOfNums t355, 0))) else (some ((⟨#[]⟩ : ByteArray), t354)))
theorem msg_PutPrefix.mono : ∀ a0 a1 a2 a3 k, LeO (msg_PutPrefix.f k a0 a1 a2 a3) (msg_PutPrefix.f (k + 1) a0 a1 a2 a3) := by
 intro a0 a1 a2 a3 k
 unfold msg_PutPrefix.f
 repeat' first
   | (with_reducible exact addr_Check.mono _ _ _ _ _)
   | (with_reducible exact LeO.refl _)
   | (with_reducible exact LeO.none _)
   | (with_reducible refine LeO.ite ?_ ?_)
   | (with_reducible refine LeO.bind ?_ (fun _ => ?_))
   | exact addr_Check.mono _ _ _ _ _
   | exact LeO.none _
   | refine LeO.ite ?_ ?_
   | refine LeO.bind ?_ (fun _ => ?_)
set_option maxHeartbeats 8000000 in
set_option maxRecDepth 100000 in
theorem msg_PutPrefix.calls (k : Nat) (a0_0 : Bool) (a0_1 : Int) (a0_2 : Int) (a0_3 : Int) (r1 : ByteArray) (r2 : Int) (w : World) (h : msg_PutPrefix.f k a0_0 a0_1 a0_2 a0_3 = some (r1, r2)) :
  Calls Try.prog 15 #[.agg #[.bool a0_0, .int .u64 a0_1, .int .u64 a0_2, .int .i64 a0_3]] w fun e w' => e = .returned (.tuple #[.string r1, .int .i64 r2]) ∧ Below w.heap.size w w' := by
 have hu27 := Try.underlying27
 have HB := Ax (Below.refl w.heap.size w)
 have H : ((addr_Check.f k a0_0 a0_1 a0_2 a0_3).bind fun t354 => (if t354 = 0 then ((msg_prefix.f ([] : List Int) a0_0 a0_1 a0_2 a0_3).bind fun t355 => (some (strOfNums t355, 0))) else (some ((⟨#[]⟩ : ByteArray), t354)))) = some (r1, r2) := h
 clear h
 replace H := Option.bind_eq_some_iff.mp H
 obtain ⟨t354, A20, H⟩ := H
 replace H : (if t354 = 0 then ((msg_prefix.f ([] : List Int) a0_0 a0_1 a0_2 a0_3).bind fun t355 => (some (strOfNums t355, 0))) else (some ((⟨#[]⟩ : ByteArray), t354))) = some (r1, r2) := H
 have A2 := Ax A20
 clear A20
 by_cases c3 : t354 = 0
 ·rw [if_pos c3] at H
  have c3b0 : (t354 == 0) = true := beq_iff_eq.mpr c3
  have c3b1 : (t354 != 0) = false := bne_eq_false_iff_eq.mpr c3
  clear c3
  replace H := Option.bind_eq_some_iff.mp H
  obtain ⟨t355, A40, H⟩ := H
  replace H : (some (strOfNums t355, 0)) = some (r1, r2) := H
  have A4 := Ax A40
  clear A40
  simp only [Option.some.injEq, Prod.mk.injEq] at H
  obtain ⟨rfl, rfl⟩ := H
  go_enter Try.func15, Try.ntmps15
  go_wp2_with (first | ((with_reducible refine gate_dst (N := 1) rfl ?_); refine box_event ?hg (N := 1) ?hd (cs := #[.bool a0_0, .int .u64 a0_1, .int .u64 a0_2, .int .i64 a0_3]) (t := 27) ?hr ?_; (case hd => rfl); (case hg => rfl); (case hr => first | (go_simp; done) | (go_simp; rfl)); intro gb353 hg w5 hbox hb; have n0_ := Bs0 HB hb; have n1_ := Ax (hbox); have n2_ := Gw0 HB hg; have n3_ := Gw0 HB hg; clear HB; have HB := n0_; have BK353 := n1_; have GW353 := n2_; have GE353 := n3_; clear n0_ n1_ n2_ n3_; clear hb hbox hg; obtain ⟨hcz6_0, hcz6_1, hcz6_2, hcz6_3, hfz6_0, hfz6_1, hfz6_2, hfz6_3⟩ := cl4 BK353) | ((with_reducible refine gate_callee (f := 34) rfl ?_); refine goesL_ (some 6) rfl rfl Try.func34 (by kernel_rfl) rfl #[.agg #[.bool a0_0, .int .u64 a0_1, .int .u64 a0_2, .int .i64 a0_3]] rfl gS ?_; (with_reducible refine (addr_Check.calls k a0_0 a0_1 a0_2 a0_3 t354 _ A2.out).mono ?_); rintro e w7 ⟨rfl, hb⟩; refine ⟨_, rfl, ?_⟩; replace BK353 := Bx0 BK353 hb; replace HB := Bs1 HB hb GE353.out; (try clear hb); obtain ⟨hcz8_0, hcz8_1, hcz8_2, hcz8_3, hfz8_0, hfz8_1, hfz8_2, hfz8_3⟩ := cl4 BK353) | ((with_reducible refine gate_callee (f := 25) rfl ?_); refine goesL_ (some 11) rfl rfl Try.func25 (by kernel_rfl) rfl #[.slice none 0 0, .agg #[.bool a0_0, .int .u64 a0_1, .int .u64 a0_2, .int .i64 a0_3]] rfl gS ?_; (refine (msg_prefix.calls (fun k_ => some k_ = (.slice none 0 0 : Value).ownBlock) (.slice none 0 0) ([] : List Int) a0_0 a0_1 a0_2 a0_3 t355 w _ ?side1 ?side2 A4.out).mono ?_); (case side1 => repeat (first | (with_reducible first | exact HB.out | apply below_alloc | apply pw_below_drewN | apply below_drew1 | refine below_set ?_ GE353.out) | exact HB.out)); (case side2 => exact Kd.R_nil _ _ _ _ _); rintro e w9 ⟨v356, rfl, ho0, hb, hkp⟩; refine ⟨_, rfl, ?_⟩; replace BK353 := Ax (blk_kept (bf0 BK353.out) hkp (fun hs_ => (fun e_ => by simp [Value.ownBlock] at e_) hs_)); have HO357 := Ax (Kd.R_mono (ok' := fun k_ => True) ho0 (fun k_ hk_ => trivial)); replace HB := Ax (hb); (try clear hb); (try clear hkp); (try clear ho0); have hcv10 := own_string (P := Try.prog) Try.underlying49 Try.underlying5 Try.underlying9 (Kd.own_of_R HO357.out)))
  go_ret2
  exact ⟨eS, bw1 HB.out GE353.out⟩
 ·rw [if_neg c3] at H
  have c3b0 : (t354 == 0) = false := beq_eq_false_iff_ne.mpr c3
  have c3b1 : (t354 != 0) = true := bne_iff_ne.mpr c3
  simp only [Option.some.injEq, Prod.mk.injEq] at H
  obtain ⟨rfl, rfl⟩ := H
  go_enter Try.func15, Try.ntmps15
  go_wp2_with (first | ((with_reducible refine gate_dst (N := 1) rfl ?_); refine box_event ?hg (N := 1) ?hd (cs := #[.bool a0_0, .int .u64 a0_1, .int .u64 a0_2, .int .i64 a0_3]) (t := 27) ?hr ?_; (case hd => rfl); (case hg => rfl); (case hr => first | (go_simp; done) | (go_simp; rfl)); intro gb353 hg w11 hbox hb; have n0_ := Bs0 HB hb; have n1_ := Ax (hbox); have n2_ := Gw0 HB hg; have n3_ := Gw0 HB hg; clear HB; have HB := n0_; have BK353 := n1_; have GW353 := n2_; have GE353 := n3_; clear n0_ n1_ n2_ n3_; clear hb hbox hg; obtain ⟨hcz12_0, hcz12_1, hcz12_2, hcz12_3, hfz12_0, hfz12_1, hfz12_2, hfz12_3⟩ := cl4 BK353) | ((with_reducible refine gate_callee (f := 34) rfl ?_); refine goesL_ (some 6) rfl rfl Try.func34 (by kernel_rfl) rfl #[.agg #[.bool a0_0, .int .u64 a0_1, .int .u64 a0_2, .int .i64 a0_3]] rfl gS ?_; (with_reducible refine (addr_Check.calls k a0_0 a0_1 a0_2 a0_3 t354 _ A2.out).mono ?_); rintro e w13 ⟨rfl, hb⟩; refine ⟨_, rfl, ?_⟩; replace BK353 := Bx0 BK353 hb; replace HB := Bs1 HB hb GE353.out; (try clear hb)))
  go_ret2
  exact ⟨eS, bw1 HB.out GE353.out⟩
def msg_PutAction.f (k : Nat) (a0_0 : Int) (a0_1 : Int) : Option (ByteArray × Int) := (msg_acts.f a0_0 a0_1).bind fun t359 => (if t359 = true then ((msg_action.f k ([] : List Int) a0_0 a0_1).bind fun t360 => (some (strOfNums t360, 0))) else (some ((⟨#[]⟩ : ByteArray), 2)))
theorem msg_PutAction.mono : ∀ a0 a1 k, LeO (msg_PutAction.f k a0 a1) (msg_PutAction.f (k + 1) a0 a1) := by
 intro a0 a1 k
 unfold msg_PutAction.f
 repeat' first
   | (with_reducible exact msg_action.mono _ _ _ _)
   | (with_reducible exact LeO.refl _)
   | (with_reducible exact LeO.none _)
   | (with_reducible refine LeO.ite ?_ ?_)
   | (with_reducible refine LeO.bind ?_ (fun _ => ?_))
   | exact msg_action.mono _ _ _ _
   | exact LeO.none _
   | refine LeO.ite ?_ ?_
   | refine LeO.bind ?_ (fun _ => ?_)
set_option maxHeartbeats 8000000 in
set_option maxRecDepth 100000 in
theorem msg_PutAction.calls (k : Nat) (a0_0 : Int) (a0_1 : Int) (r1 : ByteArray) (r2 : Int) (w : World) (h : msg_PutAction.f k a0_0 a0_1 = some (r1, r2)) :
  Calls Try.prog 19 #[.agg #[.int .u8 a0_0, .int .i64 a0_1]] w fun e w' => e = .returned (.tuple #[.string r1, .int .i64 r2]) ∧ Below w.heap.size w w' := by
 have hu30 := Try.underlying30
 have HB := Ax (Below.refl w.heap.size w)
 have H : ((msg_acts.f a0_0 a0_1).bind fun t359 => (if t359 = true then ((msg_action.f k ([] : List Int) a0_0 a0_1).bind fun t360 => (some (strOfNums t360, 0))) else (some ((⟨#[]⟩ : ByteArray), 2)))) = some (r1, r2) := h
 clear h
 replace H := Option.bind_eq_some_iff.mp H
 obtain ⟨t359, A20, H⟩ := H
 replace H : (if t359 = true then ((msg_action.f k ([] : List Int) a0_0 a0_1).bind fun t360 => (some (strOfNums t360, 0))) else (some ((⟨#[]⟩ : ByteArray), 2))) = some (r1, r2) := H
 have A2 := Ax A20
 clear A20
 by_cases c3 : t359 = true
 ·subst c3
  have H1 : ((msg_action.f k ([] : List Int) a0_0 a0_1).bind fun t360 => (some (strOfNums t360, 0))) = some (r1, r2) := by rw [if_pos rfl] at H; exact H
  clear H
  have H := H1
  clear H1
  replace H := Option.bind_eq_some_iff.mp H
  obtain ⟨t360, A40, H⟩ := H
  replace H : (some (strOfNums t360, 0)) = some (r1, r2) := H
  have A4 := Ax A40
  clear A40
  simp only [Option.some.injEq, Prod.mk.injEq] at H
  obtain ⟨rfl, rfl⟩ := H
  go_enter Try.func19, Try.ntmps19
  go_wp2_with (first | ((with_reducible refine gate_dst (N := 1) rfl ?_); refine box_event ?hg (N := 1) ?hd (cs := #[.int .u8 a0_0, .int .i64 a0_1]) (t := 30) ?hr ?_; (case hd => rfl); (case hg => rfl); (case hr => first | (go_simp; done) | (go_simp; rfl)); intro gb358 hg w5 hbox hb; have n0_ := Bs0 HB hb; have n1_ := Ax (hbox); have n2_ := Gw0 HB hg; have n3_ := Gw0 HB hg; clear HB; have HB := n0_; have BK358 := n1_; have GW358 := n2_; have GE358 := n3_; clear n0_ n1_ n2_ n3_; clear hb hbox hg; obtain ⟨hcz6_0, hcz6_1, hfz6_0, hfz6_1⟩ := cl2 BK358) | ((with_reducible refine gate_callee (f := 33) rfl ?_); refine goesL_ (some 5) rfl rfl Try.func33 (by kernel_rfl) rfl #[.agg #[.int .u8 a0_0, .int .i64 a0_1]] rfl gS ?_; (with_reducible refine (msg_acts.calls a0_0 a0_1 true _ A2.out).mono ?_); rintro e w7 ⟨rfl, hb⟩; refine ⟨_, rfl, ?_⟩; replace BK358 := Bx0 BK358 hb; replace HB := Bs1 HB hb GE358.out; (try clear hb); obtain ⟨hcz8_0, hcz8_1, hfz8_0, hfz8_1⟩ := cl2 BK358) | ((with_reducible refine gate_callee (f := 24) rfl ?_); refine goesL_ (some 8) rfl rfl Try.func24 (by kernel_rfl) rfl #[.slice none 0 0, .agg #[.int .u8 a0_0, .int .i64 a0_1]] rfl gS ?_; (refine (msg_action.calls k (fun k_ => some k_ = (.slice none 0 0 : Value).ownBlock) (.slice none 0 0) ([] : List Int) a0_0 a0_1 t360 w _ ?side1 ?side2 A4.out).mono ?_); (case side1 => repeat (first | (with_reducible first | exact HB.out | apply below_alloc | apply pw_below_drewN | apply below_drew1 | refine below_set ?_ GE358.out) | exact HB.out)); (case side2 => exact Kd.R_nil _ _ _ _ _); rintro e w9 ⟨v361, rfl, ho0, hb, hkp⟩; refine ⟨_, rfl, ?_⟩; replace BK358 := Ax (blk_kept (bf0 BK358.out) hkp (fun hs_ => (fun e_ => by simp [Value.ownBlock] at e_) hs_)); have HO362 := Ax (Kd.R_mono (ok' := fun k_ => True) ho0 (fun k_ hk_ => trivial)); replace HB := Ax (hb); (try clear hb); (try clear hkp); (try clear ho0); have hcv10 := own_string (P := Try.prog) Try.underlying49 Try.underlying5 Try.underlying9 (Kd.own_of_R HO362.out)))
  go_ret2
  exact ⟨eS, bw1 HB.out GE358.out⟩
 ·replace c3 := Bool.eq_false_iff.mpr c3
  subst c3
  have H1 : (some ((⟨#[]⟩ : ByteArray), 2)) = some (r1, r2) := by rw [if_neg (show ¬ (false = true) by decide)] at H; exact H
  clear H
  have H := H1
  clear H1
  simp only [Option.some.injEq, Prod.mk.injEq] at H
  obtain ⟨rfl, rfl⟩ := H
  go_enter Try.func19, Try.ntmps19
  go_wp2_with (first | ((with_reducible refine gate_dst (N := 1) rfl ?_); refine box_event ?hg (N := 1) ?hd (cs := #[.int .u8 a0_0, .int .i64 a0_1]) (t := 30) ?hr ?_; (case hd => rfl); (case hg => rfl); (case hr => first | (go_simp; done) | (go_simp; rfl)); intro gb358 hg w11 hbox hb; have n0_ := Bs0 HB hb; have n1_ := Ax (hbox); have n2_ := Gw0 HB hg; have n3_ := Gw0 HB hg; clear HB; have HB := n0_; have BK358 := n1_; have GW358 := n2_; have GE358 := n3_; clear n0_ n1_ n2_ n3_; clear hb hbox hg; obtain ⟨hcz12_0, hcz12_1, hfz12_0, hfz12_1⟩ := cl2 BK358) | ((with_reducible refine gate_callee (f := 33) rfl ?_); refine goesL_ (some 5) rfl rfl Try.func33 (by kernel_rfl) rfl #[.agg #[.int .u8 a0_0, .int .i64 a0_1]] rfl gS ?_; (with_reducible refine (msg_acts.calls a0_0 a0_1 false _ A2.out).mono ?_); rintro e w13 ⟨rfl, hb⟩; refine ⟨_, rfl, ?_⟩; replace BK358 := Bx0 BK358 hb; replace HB := Bs1 HB hb GE358.out; (try clear hb)))
  go_ret2
  exact ⟨eS, bw1 HB.out GE358.out⟩
def spoorlaw11_lives.f (k : Nat)  : Option (Bool) := (msg_Put.f k 1 1 1 5 false 0 0 0 0 0 0 0).bind fun bt364 => ((msg_Put.f k 3 1 2 300 false 0 167772160 8 1 7 0 0).bind fun bt367 => ((msg_Get.f k bt367.1).bind fun bt369 => (if bt367.1.size + 1 ≤ 9223372036854775807 then ((msg_Get.f k (bt367.1 ++ (⟨#[0]⟩ : ByteArray))).bind fun bt383 => ((msg_PutPrefix.f k false 0 167772160 8).bind fun bt397 => (if bt397.1.size + 1 ≤ 9223372036854775807 then ((msg_GetPrefix.f k (bt397.1 ++ (⟨#[122]⟩ : ByteArray))).bind fun bt399 => ((msg_PutAction.f k 2 0).bind fun bt406 => (if bt406.1.size + 1 ≤ 9223372036854775807 then ((msg_GetAction.f k (bt406.1 ++ (⟨#[122]⟩ : ByteArray))).bind fun bt408 => (if bt364.1.toList = ([1, 1, 1, 5] : List UInt8) then (if bt364.2 = 0 then (if bt367.1.toList = ([3, 1, 2, 172, 2, 4, 8, 10, 1, 7] : List UInt8) then (if bt367.2 = 0 then (if (!bt369.2.2.2.2.1 && ((bt369.2.2.2.2.2.1 == 0 && (bt369.2.2.2.2.2.2.1 == 167772160)) && (bt369.2.2.2.2.2.2.2.1 == 8))) = true then (if bt369.2.2.2.2.2.2.2.2.2.1 = 7 then (if bt369.2.2.2.2.2.2.2.2.2.2.2.2 = 0 then (if bt383.2.2.2.2.2.2.2.2.2.2.2.2 = 7 then (if bt397.1.toList = ([4, 8, 10] : List UInt8) then (if bt397.2 = 0 then (if (!bt399.1 && ((bt399.2.1 == 0 && (bt399.2.2.1 == 167772160)) && (bt399.2.2.2.1 == 8))) = true then (if bt399.2.2.2.2.1.toList = ([122] : List UInt8) then (if bt399.2.2.2.2.2 = 0 then (if bt406.1.toList = ([2] : List UInt8) then (if bt406.2 = 0 then (if bt408.1 = 2 then (if bt408.2.2.1.toList = ([122] : List UInt8) then (if bt408.2.2.2 = 0 then ((msg_Check.f k 3 1 2 300 false 0 167772160 8 1 7 1 0).bind fun t413 => (if t413 = 2 then ((msg_Check.f k bt369.1 bt369.2.1 bt369.2.2.1 bt369.2.2.2.1 bt369.2.2.2.2.1 bt369.2.2.2.2.2.1 bt369.2.2.2.2.2.2.1 bt369.2.2.2.2.2.2.2.1 bt369.2.2.2.2.2.2.2.2.1 bt369.2.2.2.2.2.2.2.2.2.1 bt369.2.2.2.2.2.2.2.2.2.2.1 bt369.2.2.2.2.2.2.2.2.2.2.2.1).bind fun t414 => (some (t414 == 0))) else (none))) else (none)) else (none)) else (none)) else (none)) else (none)) else (none)) else (none)) else (none)) else (none)) else (none)) else (none)) else (none)) else (none)) else (none)) else (none)) else (none)) else (none)) else (none))) else (none)))) else (none)))) else (none))))
theorem spoorlaw11_lives.mono : ∀ k, LeO (spoorlaw11_lives.f k ) (spoorlaw11_lives.f (k + 1) ) := by
 intro  k
 unfold spoorlaw11_lives.f
 repeat' first
   | (with_reducible exact msg_Check.mono _ _ _ _ _ _ _ _ _ _ _ _ _)
   | (with_reducible exact msg_Get.mono _ _)
   | (with_reducible exact msg_GetAction.mono _ _)
   | (with_reducible exact msg_GetPrefix.mono _ _)
   | (with_reducible exact msg_Put.mono _ _ _ _ _ _ _ _ _ _ _ _ _)
   | (with_reducible exact msg_PutAction.mono _ _ _)
   | (with_reducible exact msg_PutPrefix.mono _ _ _ _ _)
   | (with_reducible exact LeO.refl _)
   | (with_reducible exact LeO.none _)
   | (with_reducible refine LeO.ite ?_ ?_)
   | (with_reducible refine LeO.bind ?_ (fun _ => ?_))
   | exact msg_Check.mono _ _ _ _ _ _ _ _ _ _ _ _ _
   | exact msg_Get.mono _ _
   | exact msg_GetAction.mono _ _
   | exact msg_GetPrefix.mono _ _
   | exact msg_Put.mono _ _ _ _ _ _ _ _ _ _ _ _ _
   | exact msg_PutAction.mono _ _ _
   | exact msg_PutPrefix.mono _ _ _ _ _
   | exact LeO.none _
   | refine LeO.ite ?_ ?_
   | refine LeO.bind ?_ (fun _ => ?_)
set_option maxHeartbeats 8000000 in
set_option maxRecDepth 100000 in
theorem spoorlaw11_lives.calls (k : Nat)  (r : Bool) (w : World) (h : spoorlaw11_lives.f k  = some r) :
  Calls Try.prog 12 #[] w fun e w' => e = .returned (.bool r) ∧ Below w.heap.size w w' := by
 have hu25 := Try.underlying25
 have hu27 := Try.underlying27
 have hu32 := Try.underlying32
 have hu30 := Try.underlying30
 have HB := Ax (Below.refl w.heap.size w)
 have H : ((msg_Put.f k 1 1 1 5 false 0 0 0 0 0 0 0).bind fun bt364 => ((msg_Put.f k 3 1 2 300 false 0 167772160 8 1 7 0 0).bind fun bt367 => ((msg_Get.f k bt367.1).bind fun bt369 => (if bt367.1.size + 1 ≤ 9223372036854775807 then ((msg_Get.f k (bt367.1 ++ (⟨#[0]⟩ : ByteArray))).bind fun bt383 => ((msg_PutPrefix.f k false 0 167772160 8).bind fun bt397 => (if bt397.1.size + 1 ≤ 9223372036854775807 then ((msg_GetPrefix.f k (bt397.1 ++ (⟨#[122]⟩ : ByteArray))).bind fun bt399 => ((msg_PutAction.f k 2 0).bind fun bt406 => (if bt406.1.size + 1 ≤ 9223372036854775807 then ((msg_GetAction.f k (bt406.1 ++ (⟨#[122]⟩ : ByteArray))).bind fun bt408 => (if bt364.1.toList = ([1, 1, 1, 5] : List UInt8) then (if bt364.2 = 0 then (if bt367.1.toList = ([3, 1, 2, 172, 2, 4, 8, 10, 1, 7] : List UInt8) then (if bt367.2 = 0 then (if (!bt369.2.2.2.2.1 && ((bt369.2.2.2.2.2.1 == 0 && (bt369.2.2.2.2.2.2.1 == 167772160)) && (bt369.2.2.2.2.2.2.2.1 == 8))) = true then (if bt369.2.2.2.2.2.2.2.2.2.1 = 7 then (if bt369.2.2.2.2.2.2.2.2.2.2.2.2 = 0 then (if bt383.2.2.2.2.2.2.2.2.2.2.2.2 = 7 then (if bt397.1.toList = ([4, 8, 10] : List UInt8) then (if bt397.2 = 0 then (if (!bt399.1 && ((bt399.2.1 == 0 && (bt399.2.2.1 == 167772160)) && (bt399.2.2.2.1 == 8))) = true then (if bt399.2.2.2.2.1.toList = ([122] : List UInt8) then (if bt399.2.2.2.2.2 = 0 then (if bt406.1.toList = ([2] : List UInt8) then (if bt406.2 = 0 then (if bt408.1 = 2 then (if bt408.2.2.1.toList = ([122] : List UInt8) then (if bt408.2.2.2 = 0 then ((msg_Check.f k 3 1 2 300 false 0 167772160 8 1 7 1 0).bind fun t413 => (if t413 = 2 then ((msg_Check.f k bt369.1 bt369.2.1 bt369.2.2.1 bt369.2.2.2.1 bt369.2.2.2.2.1 bt369.2.2.2.2.2.1 bt369.2.2.2.2.2.2.1 bt369.2.2.2.2.2.2.2.1 bt369.2.2.2.2.2.2.2.2.1 bt369.2.2.2.2.2.2.2.2.2.1 bt369.2.2.2.2.2.2.2.2.2.2.1 bt369.2.2.2.2.2.2.2.2.2.2.2.1).bind fun t414 => (some (t414 == 0))) else (none))) else (none)) else (none)) else (none)) else (none)) else (none)) else (none)) else (none)) else (none)) else (none)) else (none)) else (none)) else (none)) else (none)) else (none)) else (none)) else (none)) else (none)) else (none))) else (none)))) else (none)))) else (none))))) = some r := h
 clear h
 replace H := Option.bind_eq_some_iff.mp H
 obtain ⟨⟨t364, t365⟩, A10, H⟩ := H
 replace H : ((msg_Put.f k 3 1 2 300 false 0 167772160 8 1 7 0 0).bind fun bt367 => ((msg_Get.f k bt367.1).bind fun bt369 => (if bt367.1.size + 1 ≤ 9223372036854775807 then ((msg_Get.f k (bt367.1 ++ (⟨#[0]⟩ : ByteArray))).bind fun bt383 => ((msg_PutPrefix.f k false 0 167772160 8).bind fun bt397 => (if bt397.1.size + 1 ≤ 9223372036854775807 then ((msg_GetPrefix.f k (bt397.1 ++ (⟨#[122]⟩ : ByteArray))).bind fun bt399 => ((msg_PutAction.f k 2 0).bind fun bt406 => (if bt406.1.size + 1 ≤ 9223372036854775807 then ((msg_GetAction.f k (bt406.1 ++ (⟨#[122]⟩ : ByteArray))).bind fun bt408 => (if t364.toList = ([1, 1, 1, 5] : List UInt8) then (if t365 = 0 then (if bt367.1.toList = ([3, 1, 2, 172, 2, 4, 8, 10, 1, 7] : List UInt8) then (if bt367.2 = 0 then (if (!bt369.2.2.2.2.1 && ((bt369.2.2.2.2.2.1 == 0 && (bt369.2.2.2.2.2.2.1 == 167772160)) && (bt369.2.2.2.2.2.2.2.1 == 8))) = true then (if bt369.2.2.2.2.2.2.2.2.2.1 = 7 then (if bt369.2.2.2.2.2.2.2.2.2.2.2.2 = 0 then (if bt383.2.2.2.2.2.2.2.2.2.2.2.2 = 7 then (if bt397.1.toList = ([4, 8, 10] : List UInt8) then (if bt397.2 = 0 then (if (!bt399.1 && ((bt399.2.1 == 0 && (bt399.2.2.1 == 167772160)) && (bt399.2.2.2.1 == 8))) = true then (if bt399.2.2.2.2.1.toList = ([122] : List UInt8) then (if bt399.2.2.2.2.2 = 0 then (if bt406.1.toList = ([2] : List UInt8) then (if bt406.2 = 0 then (if bt408.1 = 2 then (if bt408.2.2.1.toList = ([122] : List UInt8) then (if bt408.2.2.2 = 0 then ((msg_Check.f k 3 1 2 300 false 0 167772160 8 1 7 1 0).bind fun t413 => (if t413 = 2 then ((msg_Check.f k bt369.1 bt369.2.1 bt369.2.2.1 bt369.2.2.2.1 bt369.2.2.2.2.1 bt369.2.2.2.2.2.1 bt369.2.2.2.2.2.2.1 bt369.2.2.2.2.2.2.2.1 bt369.2.2.2.2.2.2.2.2.1 bt369.2.2.2.2.2.2.2.2.2.1 bt369.2.2.2.2.2.2.2.2.2.2.1 bt369.2.2.2.2.2.2.2.2.2.2.2.1).bind fun t414 => (some (t414 == 0))) else (none))) else (none)) else (none)) else (none)) else (none)) else (none)) else (none)) else (none)) else (none)) else (none)) else (none)) else (none)) else (none)) else (none)) else (none)) else (none)) else (none)) else (none)) else (none))) else (none)))) else (none)))) else (none)))) = some r := H
 have A1 := Ax A10
 clear A10
 replace H := Option.bind_eq_some_iff.mp H
 obtain ⟨⟨t367, t368⟩, A20, H⟩ := H
 replace H : ((msg_Get.f k t367).bind fun bt369 => (if t367.size + 1 ≤ 9223372036854775807 then ((msg_Get.f k (t367 ++ (⟨#[0]⟩ : ByteArray))).bind fun bt383 => ((msg_PutPrefix.f k false 0 167772160 8).bind fun bt397 => (if bt397.1.size + 1 ≤ 9223372036854775807 then ((msg_GetPrefix.f k (bt397.1 ++ (⟨#[122]⟩ : ByteArray))).bind fun bt399 => ((msg_PutAction.f k 2 0).bind fun bt406 => (if bt406.1.size + 1 ≤ 9223372036854775807 then ((msg_GetAction.f k (bt406.1 ++ (⟨#[122]⟩ : ByteArray))).bind fun bt408 => (if t364.toList = ([1, 1, 1, 5] : List UInt8) then (if t365 = 0 then (if t367.toList = ([3, 1, 2, 172, 2, 4, 8, 10, 1, 7] : List UInt8) then (if t368 = 0 then (if (!bt369.2.2.2.2.1 && ((bt369.2.2.2.2.2.1 == 0 && (bt369.2.2.2.2.2.2.1 == 167772160)) && (bt369.2.2.2.2.2.2.2.1 == 8))) = true then (if bt369.2.2.2.2.2.2.2.2.2.1 = 7 then (if bt369.2.2.2.2.2.2.2.2.2.2.2.2 = 0 then (if bt383.2.2.2.2.2.2.2.2.2.2.2.2 = 7 then (if bt397.1.toList = ([4, 8, 10] : List UInt8) then (if bt397.2 = 0 then (if (!bt399.1 && ((bt399.2.1 == 0 && (bt399.2.2.1 == 167772160)) && (bt399.2.2.2.1 == 8))) = true then (if bt399.2.2.2.2.1.toList = ([122] : List UInt8) then (if bt399.2.2.2.2.2 = 0 then (if bt406.1.toList = ([2] : List UInt8) then (if bt406.2 = 0 then (if bt408.1 = 2 then (if bt408.2.2.1.toList = ([122] : List UInt8) then (if bt408.2.2.2 = 0 then ((msg_Check.f k 3 1 2 300 false 0 167772160 8 1 7 1 0).bind fun t413 => (if t413 = 2 then ((msg_Check.f k bt369.1 bt369.2.1 bt369.2.2.1 bt369.2.2.2.1 bt369.2.2.2.2.1 bt369.2.2.2.2.2.1 bt369.2.2.2.2.2.2.1 bt369.2.2.2.2.2.2.2.1 bt369.2.2.2.2.2.2.2.2.1 bt369.2.2.2.2.2.2.2.2.2.1 bt369.2.2.2.2.2.2.2.2.2.2.1 bt369.2.2.2.2.2.2.2.2.2.2.2.1).bind fun t414 => (some (t414 == 0))) else (none))) else (none)) else (none)) else (none)) else (none)) else (none)) else (none)) else (none)) else (none)) else (none)) else (none)) else (none)) else (none)) else (none)) else (none)) else (none)) else (none)) else (none)) else (none))) else (none)))) else (none)))) else (none))) = some r := H
 have A2 := Ax A20
 clear A20
 replace H := Option.bind_eq_some_iff.mp H
 obtain ⟨⟨t369, t370, t371, t372, t373, t374, t375, t376, t377, t378, t379, t380, t381⟩, A30, H⟩ := H
 replace H : (if t367.size + 1 ≤ 9223372036854775807 then ((msg_Get.f k (t367 ++ (⟨#[0]⟩ : ByteArray))).bind fun bt383 => ((msg_PutPrefix.f k false 0 167772160 8).bind fun bt397 => (if bt397.1.size + 1 ≤ 9223372036854775807 then ((msg_GetPrefix.f k (bt397.1 ++ (⟨#[122]⟩ : ByteArray))).bind fun bt399 => ((msg_PutAction.f k 2 0).bind fun bt406 => (if bt406.1.size + 1 ≤ 9223372036854775807 then ((msg_GetAction.f k (bt406.1 ++ (⟨#[122]⟩ : ByteArray))).bind fun bt408 => (if t364.toList = ([1, 1, 1, 5] : List UInt8) then (if t365 = 0 then (if t367.toList = ([3, 1, 2, 172, 2, 4, 8, 10, 1, 7] : List UInt8) then (if t368 = 0 then (if (!t373 && ((t374 == 0 && (t375 == 167772160)) && (t376 == 8))) = true then (if t378 = 7 then (if t381 = 0 then (if bt383.2.2.2.2.2.2.2.2.2.2.2.2 = 7 then (if bt397.1.toList = ([4, 8, 10] : List UInt8) then (if bt397.2 = 0 then (if (!bt399.1 && ((bt399.2.1 == 0 && (bt399.2.2.1 == 167772160)) && (bt399.2.2.2.1 == 8))) = true then (if bt399.2.2.2.2.1.toList = ([122] : List UInt8) then (if bt399.2.2.2.2.2 = 0 then (if bt406.1.toList = ([2] : List UInt8) then (if bt406.2 = 0 then (if bt408.1 = 2 then (if bt408.2.2.1.toList = ([122] : List UInt8) then (if bt408.2.2.2 = 0 then ((msg_Check.f k 3 1 2 300 false 0 167772160 8 1 7 1 0).bind fun t413 => (if t413 = 2 then ((msg_Check.f k t369 t370 t371 t372 t373 t374 t375 t376 t377 t378 t379 t380).bind fun t414 => (some (t414 == 0))) else (none))) else (none)) else (none)) else (none)) else (none)) else (none)) else (none)) else (none)) else (none)) else (none)) else (none)) else (none)) else (none)) else (none)) else (none)) else (none)) else (none)) else (none)) else (none))) else (none)))) else (none)))) else (none)) = some r := H
 have A3 := Ax A30
 clear A30
 by_cases c4 : t367.size + 1 ≤ 9223372036854775807
 ·rw [if_pos c4] at H
  have c4b0 := eq_true c4
  have c4b1 : decide (t367.size + 1 ≤ 9223372036854775807) = true := decide_eq_true c4
  try have c4b2 : (9223372036854775807 < t367.size + 1) = False := eq_false (Nat.not_lt.2 c4)
  replace H := Option.bind_eq_some_iff.mp H
  obtain ⟨⟨t383, t384, t385, t386, t387, t388, t389, t390, t391, t392, t393, t394, t395⟩, A50, H⟩ := H
  replace H : ((msg_PutPrefix.f k false 0 167772160 8).bind fun bt397 => (if bt397.1.size + 1 ≤ 9223372036854775807 then ((msg_GetPrefix.f k (bt397.1 ++ (⟨#[122]⟩ : ByteArray))).bind fun bt399 => ((msg_PutAction.f k 2 0).bind fun bt406 => (if bt406.1.size + 1 ≤ 9223372036854775807 then ((msg_GetAction.f k (bt406.1 ++ (⟨#[122]⟩ : ByteArray))).bind fun bt408 => (if t364.toList = ([1, 1, 1, 5] : List UInt8) then (if t365 = 0 then (if t367.toList = ([3, 1, 2, 172, 2, 4, 8, 10, 1, 7] : List UInt8) then (if t368 = 0 then (if (!t373 && ((t374 == 0 && (t375 == 167772160)) && (t376 == 8))) = true then (if t378 = 7 then (if t381 = 0 then (if t395 = 7 then (if bt397.1.toList = ([4, 8, 10] : List UInt8) then (if bt397.2 = 0 then (if (!bt399.1 && ((bt399.2.1 == 0 && (bt399.2.2.1 == 167772160)) && (bt399.2.2.2.1 == 8))) = true then (if bt399.2.2.2.2.1.toList = ([122] : List UInt8) then (if bt399.2.2.2.2.2 = 0 then (if bt406.1.toList = ([2] : List UInt8) then (if bt406.2 = 0 then (if bt408.1 = 2 then (if bt408.2.2.1.toList = ([122] : List UInt8) then (if bt408.2.2.2 = 0 then ((msg_Check.f k 3 1 2 300 false 0 167772160 8 1 7 1 0).bind fun t413 => (if t413 = 2 then ((msg_Check.f k t369 t370 t371 t372 t373 t374 t375 t376 t377 t378 t379 t380).bind fun t414 => (some (t414 == 0))) else (none))) else (none)) else (none)) else (none)) else (none)) else (none)) else (none)) else (none)) else (none)) else (none)) else (none)) else (none)) else (none)) else (none)) else (none)) else (none)) else (none)) else (none)) else (none))) else (none)))) else (none))) = some r := H
  have A5 := Ax A50
  clear A50
  replace H := Option.bind_eq_some_iff.mp H
  obtain ⟨⟨t397, t398⟩, A60, H⟩ := H
  replace H : (if t397.size + 1 ≤ 9223372036854775807 then ((msg_GetPrefix.f k (t397 ++ (⟨#[122]⟩ : ByteArray))).bind fun bt399 => ((msg_PutAction.f k 2 0).bind fun bt406 => (if bt406.1.size + 1 ≤ 9223372036854775807 then ((msg_GetAction.f k (bt406.1 ++ (⟨#[122]⟩ : ByteArray))).bind fun bt408 => (if t364.toList = ([1, 1, 1, 5] : List UInt8) then (if t365 = 0 then (if t367.toList = ([3, 1, 2, 172, 2, 4, 8, 10, 1, 7] : List UInt8) then (if t368 = 0 then (if (!t373 && ((t374 == 0 && (t375 == 167772160)) && (t376 == 8))) = true then (if t378 = 7 then (if t381 = 0 then (if t395 = 7 then (if t397.toList = ([4, 8, 10] : List UInt8) then (if t398 = 0 then (if (!bt399.1 && ((bt399.2.1 == 0 && (bt399.2.2.1 == 167772160)) && (bt399.2.2.2.1 == 8))) = true then (if bt399.2.2.2.2.1.toList = ([122] : List UInt8) then (if bt399.2.2.2.2.2 = 0 then (if bt406.1.toList = ([2] : List UInt8) then (if bt406.2 = 0 then (if bt408.1 = 2 then (if bt408.2.2.1.toList = ([122] : List UInt8) then (if bt408.2.2.2 = 0 then ((msg_Check.f k 3 1 2 300 false 0 167772160 8 1 7 1 0).bind fun t413 => (if t413 = 2 then ((msg_Check.f k t369 t370 t371 t372 t373 t374 t375 t376 t377 t378 t379 t380).bind fun t414 => (some (t414 == 0))) else (none))) else (none)) else (none)) else (none)) else (none)) else (none)) else (none)) else (none)) else (none)) else (none)) else (none)) else (none)) else (none)) else (none)) else (none)) else (none)) else (none)) else (none)) else (none))) else (none)))) else (none)) = some r := H
  have A6 := Ax A60
  clear A60
  by_cases c7 : t397.size + 1 ≤ 9223372036854775807
  ·rw [if_pos c7] at H
   have c7b0 := eq_true c7
   have c7b1 : decide (t397.size + 1 ≤ 9223372036854775807) = true := decide_eq_true c7
   try have c7b2 : (9223372036854775807 < t397.size + 1) = False := eq_false (Nat.not_lt.2 c7)
   replace H := Option.bind_eq_some_iff.mp H
   obtain ⟨⟨t399, t400, t401, t402, t403, t404⟩, A80, H⟩ := H
   replace H : ((msg_PutAction.f k 2 0).bind fun bt406 => (if bt406.1.size + 1 ≤ 9223372036854775807 then ((msg_GetAction.f k (bt406.1 ++ (⟨#[122]⟩ : ByteArray))).bind fun bt408 => (if t364.toList = ([1, 1, 1, 5] : List UInt8) then (if t365 = 0 then (if t367.toList = ([3, 1, 2, 172, 2, 4, 8, 10, 1, 7] : List UInt8) then (if t368 = 0 then (if (!t373 && ((t374 == 0 && (t375 == 167772160)) && (t376 == 8))) = true then (if t378 = 7 then (if t381 = 0 then (if t395 = 7 then (if t397.toList = ([4, 8, 10] : List UInt8) then (if t398 = 0 then (if (!t399 && ((t400 == 0 && (t401 == 167772160)) && (t402 == 8))) = true then (if t403.toList = ([122] : List UInt8) then (if t404 = 0 then (if bt406.1.toList = ([2] : List UInt8) then (if bt406.2 = 0 then (if bt408.1 = 2 then (if bt408.2.2.1.toList = ([122] : List UInt8) then (if bt408.2.2.2 = 0 then ((msg_Check.f k 3 1 2 300 false 0 167772160 8 1 7 1 0).bind fun t413 => (if t413 = 2 then ((msg_Check.f k t369 t370 t371 t372 t373 t374 t375 t376 t377 t378 t379 t380).bind fun t414 => (some (t414 == 0))) else (none))) else (none)) else (none)) else (none)) else (none)) else (none)) else (none)) else (none)) else (none)) else (none)) else (none)) else (none)) else (none)) else (none)) else (none)) else (none)) else (none)) else (none)) else (none))) else (none))) = some r := H
   have A8 := Ax A80
   clear A80
   replace H := Option.bind_eq_some_iff.mp H
   obtain ⟨⟨t406, t407⟩, A90, H⟩ := H
   replace H : (if t406.size + 1 ≤ 9223372036854775807 then ((msg_GetAction.f k (t406 ++ (⟨#[122]⟩ : ByteArray))).bind fun bt408 => (if t364.toList = ([1, 1, 1, 5] : List UInt8) then (if t365 = 0 then (if t367.toList = ([3, 1, 2, 172, 2, 4, 8, 10, 1, 7] : List UInt8) then (if t368 = 0 then (if (!t373 && ((t374 == 0 && (t375 == 167772160)) && (t376 == 8))) = true then (if t378 = 7 then (if t381 = 0 then (if t395 = 7 then (if t397.toList = ([4, 8, 10] : List UInt8) then (if t398 = 0 then (if (!t399 && ((t400 == 0 && (t401 == 167772160)) && (t402 == 8))) = true then (if t403.toList = ([122] : List UInt8) then (if t404 = 0 then (if t406.toList = ([2] : List UInt8) then (if t407 = 0 then (if bt408.1 = 2 then (if bt408.2.2.1.toList = ([122] : List UInt8) then (if bt408.2.2.2 = 0 then ((msg_Check.f k 3 1 2 300 false 0 167772160 8 1 7 1 0).bind fun t413 => (if t413 = 2 then ((msg_Check.f k t369 t370 t371 t372 t373 t374 t375 t376 t377 t378 t379 t380).bind fun t414 => (some (t414 == 0))) else (none))) else (none)) else (none)) else (none)) else (none)) else (none)) else (none)) else (none)) else (none)) else (none)) else (none)) else (none)) else (none)) else (none)) else (none)) else (none)) else (none)) else (none)) else (none))) else (none)) = some r := H
   have A9 := Ax A90
   clear A90
   by_cases c10 : t406.size + 1 ≤ 9223372036854775807
   ·rw [if_pos c10] at H
    have c10b0 := eq_true c10
    have c10b1 : decide (t406.size + 1 ≤ 9223372036854775807) = true := decide_eq_true c10
    try have c10b2 : (9223372036854775807 < t406.size + 1) = False := eq_false (Nat.not_lt.2 c10)
    replace H := Option.bind_eq_some_iff.mp H
    obtain ⟨⟨t408, t409, t410, t411⟩, A110, H⟩ := H
    replace H : (if t364.toList = ([1, 1, 1, 5] : List UInt8) then (if t365 = 0 then (if t367.toList = ([3, 1, 2, 172, 2, 4, 8, 10, 1, 7] : List UInt8) then (if t368 = 0 then (if (!t373 && ((t374 == 0 && (t375 == 167772160)) && (t376 == 8))) = true then (if t378 = 7 then (if t381 = 0 then (if t395 = 7 then (if t397.toList = ([4, 8, 10] : List UInt8) then (if t398 = 0 then (if (!t399 && ((t400 == 0 && (t401 == 167772160)) && (t402 == 8))) = true then (if t403.toList = ([122] : List UInt8) then (if t404 = 0 then (if t406.toList = ([2] : List UInt8) then (if t407 = 0 then (if t408 = 2 then (if t410.toList = ([122] : List UInt8) then (if t411 = 0 then ((msg_Check.f k 3 1 2 300 false 0 167772160 8 1 7 1 0).bind fun t413 => (if t413 = 2 then ((msg_Check.f k t369 t370 t371 t372 t373 t374 t375 t376 t377 t378 t379 t380).bind fun t414 => (some (t414 == 0))) else (none))) else (none)) else (none)) else (none)) else (none)) else (none)) else (none)) else (none)) else (none)) else (none)) else (none)) else (none)) else (none)) else (none)) else (none)) else (none)) else (none)) else (none)) else (none)) = some r := H
    have A11 := Ax A110
    clear A110
    by_cases c12 : t364.toList = ([1, 1, 1, 5] : List UInt8)
    ·rw [if_pos c12] at H
     have c12b0 : (t364.toList == ([1, 1, 1, 5] : List UInt8)) = true := beq_iff_eq.mpr c12
     have c12b1 : (t364.toList != ([1, 1, 1, 5] : List UInt8)) = false := bne_eq_false_iff_eq.mpr c12
     clear c12
     by_cases c13 : t365 = 0
     ·rw [if_pos c13] at H
      have c13b0 : (t365 == 0) = true := beq_iff_eq.mpr c13
      have c13b1 : (t365 != 0) = false := bne_eq_false_iff_eq.mpr c13
      clear c13
      by_cases c14 : t367.toList = ([3, 1, 2, 172, 2, 4, 8, 10, 1, 7] : List UInt8)
      ·rw [if_pos c14] at H
       have c14b0 : (t367.toList == ([3, 1, 2, 172, 2, 4, 8, 10, 1, 7] : List UInt8)) = true := beq_iff_eq.mpr c14
       have c14b1 : (t367.toList != ([3, 1, 2, 172, 2, 4, 8, 10, 1, 7] : List UInt8)) = false := bne_eq_false_iff_eq.mpr c14
       clear c14
       by_cases c15 : t368 = 0
       ·rw [if_pos c15] at H
        have c15b0 : (t368 == 0) = true := beq_iff_eq.mpr c15
        have c15b1 : (t368 != 0) = false := bne_eq_false_iff_eq.mpr c15
        clear c15
        by_cases c16 : (!t373 && ((t374 == 0 && (t375 == 167772160)) && (t376 == 8))) = true
        ·rw [if_pos c16] at H
         have c16b0 : (!t373 && ((t374 == 0 && (t375 == 167772160)) && (t376 == 8))) = true := c16
         clear c16
         by_cases c17 : t378 = 7
         ·rw [if_pos c17] at H
          have c17b0 : (t378 == 7) = true := beq_iff_eq.mpr c17
          have c17b1 : (t378 != 7) = false := bne_eq_false_iff_eq.mpr c17
          clear c17
          by_cases c18 : t381 = 0
          ·rw [if_pos c18] at H
           have c18b0 : (t381 == 0) = true := beq_iff_eq.mpr c18
           have c18b1 : (t381 != 0) = false := bne_eq_false_iff_eq.mpr c18
           clear c18
           by_cases c19 : t395 = 7
           ·rw [if_pos c19] at H
            have c19b0 : (t395 == 7) = true := beq_iff_eq.mpr c19
            have c19b1 : (t395 != 7) = false := bne_eq_false_iff_eq.mpr c19
            clear c19
            by_cases c20 : t397.toList = ([4, 8, 10] : List UInt8)
            ·rw [if_pos c20] at H
             have c20b0 : (t397.toList == ([4, 8, 10] : List UInt8)) = true := beq_iff_eq.mpr c20
             have c20b1 : (t397.toList != ([4, 8, 10] : List UInt8)) = false := bne_eq_false_iff_eq.mpr c20
             clear c20
             by_cases c21 : t398 = 0
             ·rw [if_pos c21] at H
              have c21b0 : (t398 == 0) = true := beq_iff_eq.mpr c21
              have c21b1 : (t398 != 0) = false := bne_eq_false_iff_eq.mpr c21
              clear c21
              by_cases c22 : (!t399 && ((t400 == 0 && (t401 == 167772160)) && (t402 == 8))) = true
              ·rw [if_pos c22] at H
               have c22b0 : (!t399 && ((t400 == 0 && (t401 == 167772160)) && (t402 == 8))) = true := c22
               clear c22
               by_cases c23 : t403.toList = ([122] : List UInt8)
               ·rw [if_pos c23] at H
                have c23b0 : (t403.toList == ([122] : List UInt8)) = true := beq_iff_eq.mpr c23
                have c23b1 : (t403.toList != ([122] : List UInt8)) = false := bne_eq_false_iff_eq.mpr c23
                clear c23
                by_cases c24 : t404 = 0
                ·rw [if_pos c24] at H
                 have c24b0 : (t404 == 0) = true := beq_iff_eq.mpr c24
                 have c24b1 : (t404 != 0) = false := bne_eq_false_iff_eq.mpr c24
                 clear c24
                 by_cases c25 : t406.toList = ([2] : List UInt8)
                 ·rw [if_pos c25] at H
                  have c25b0 : (t406.toList == ([2] : List UInt8)) = true := beq_iff_eq.mpr c25
                  have c25b1 : (t406.toList != ([2] : List UInt8)) = false := bne_eq_false_iff_eq.mpr c25
                  clear c25
                  by_cases c26 : t407 = 0
                  ·rw [if_pos c26] at H
                   have c26b0 : (t407 == 0) = true := beq_iff_eq.mpr c26
                   have c26b1 : (t407 != 0) = false := bne_eq_false_iff_eq.mpr c26
                   clear c26
                   by_cases c27 : t408 = 2
                   ·rw [if_pos c27] at H
                    have c27b0 : (t408 == 2) = true := beq_iff_eq.mpr c27
                    have c27b1 : (t408 != 2) = false := bne_eq_false_iff_eq.mpr c27
                    clear c27
                    by_cases c28 : t410.toList = ([122] : List UInt8)
                    ·rw [if_pos c28] at H
                     have c28b0 : (t410.toList == ([122] : List UInt8)) = true := beq_iff_eq.mpr c28
                     have c28b1 : (t410.toList != ([122] : List UInt8)) = false := bne_eq_false_iff_eq.mpr c28
                     clear c28
                     by_cases c29 : t411 = 0
                     ·rw [if_pos c29] at H
                      have c29b0 : (t411 == 0) = true := beq_iff_eq.mpr c29
                      have c29b1 : (t411 != 0) = false := bne_eq_false_iff_eq.mpr c29
                      clear c29
                      replace H := Option.bind_eq_some_iff.mp H
                      obtain ⟨t413, A300, H⟩ := H
                      replace H : (if t413 = 2 then ((msg_Check.f k t369 t370 t371 t372 t373 t374 t375 t376 t377 t378 t379 t380).bind fun t414 => (some (t414 == 0))) else (none)) = some r := H
                      have A30 := Ax A300
                      clear A300
                      by_cases c31 : t413 = 2
                      ·rw [if_pos c31] at H
                       have c31b0 : (t413 == 2) = true := beq_iff_eq.mpr c31
                       have c31b1 : (t413 != 2) = false := bne_eq_false_iff_eq.mpr c31
                       clear c31
                       replace H := Option.bind_eq_some_iff.mp H
                       obtain ⟨t414, A320, H⟩ := H
                       replace H : (some (t414 == 0)) = some r := H
                       have A32 := Ax A320
                       clear A320
                       obtain rfl := Option.some.inj H
                       go_enter Try.func12, Try.ntmps12
                       go_wp2_with (first | ((with_reducible refine gate_dst (N := 1) rfl ?_); refine box_event ?hg (N := 1) ?hd (cs := #[.bool false, .int .u64 0, .int .u64 0, .int .i64 0]) (t := 27) ?hr ?_; (case hd => rfl); (case hg => rfl); (case hr => first | (go_simp; done) | (go_simp; rfl)); intro gb363 hg w33 hbox hb; have n0_ := Bs0 HB hb; have n1_ := Ax (hbox); have n2_ := Gw0 HB hg; have n3_ := Gw0 HB hg; clear HB; have HB := n0_; have BK363 := n1_; have GW363 := n2_; have GE363 := n3_; clear n0_ n1_ n2_ n3_; clear hb hbox hg; obtain ⟨hcz34_0, hcz34_1, hcz34_2, hcz34_3, hfz34_0, hfz34_1, hfz34_2, hfz34_3⟩ := cl4 BK363) | ((with_reducible refine gate_callee (f := 8) rfl ?_); refine goesL_ (some 25) rfl rfl Try.func8 (by kernel_rfl) rfl #[.agg #[.int .u8 1, .int .i64 1, .int .u64 1, .int .i64 5, .bool false, .int .u64 0, .int .u64 0, .int .i64 0, .int .u8 0, .int .i64 0, .int .i64 0, .int .i64 0]] rfl gS ?_; (with_reducible refine (msg_Put.calls k 1 1 1 5 false 0 0 0 0 0 0 0 t364 t365 _ A1.out).mono ?_); rintro e w35 ⟨rfl, hb⟩; refine ⟨_, rfl, ?_⟩; have n0_ := Ax (blk_below (g := gb363) (o := .cells #[.bool false, .int .u64 0, .int .u64 167772160, .int .i64 8] 27 (0, 0)) (by (with_reducible repeat (first | refine blk_drewN ?_ _ | refine blk_drew ?_ | refine blk_alloc ?_ _)); refine blk_put (cs := #[.bool false, .int .u64 0, .int .u64 167772160, .int .i64 0]) ?_ 3 _ rfl; (with_reducible repeat (first | refine blk_drewN ?_ _ | refine blk_drew ?_ | refine blk_alloc ?_ _)); refine blk_put (cs := #[.bool false, .int .u64 0, .int .u64 0, .int .i64 0]) ?_ 2 _ rfl; (with_reducible repeat (first | refine blk_drewN ?_ _ | refine blk_drew ?_ | refine blk_alloc ?_ _)); refine blk_put (cs := #[.bool false, .int .u64 0, .int .u64 0, .int .i64 0]) ?_ 1 _ rfl; (with_reducible repeat (first | refine blk_drewN ?_ _ | refine blk_drew ?_ | refine blk_alloc ?_ _)); refine blk_put (cs := #[.bool false, .int .u64 0, .int .u64 0, .int .i64 0]) ?_ 0 _ rfl; (with_reducible repeat (first | refine blk_drewN ?_ _ | refine blk_drew ?_ | refine blk_alloc ?_ _)); exact BK363.out) hb); have n1_ := Bs1 HB hb GE363.out; clear BK363; clear HB; have BK363 := n0_; have HB := n1_; clear n0_ n1_; (try clear hb); obtain ⟨hcz36_0, hcz36_1, hcz36_2, hcz36_3, hfz36_0, hfz36_1, hfz36_2, hfz36_3⟩ := cl4 BK363) | ((with_reducible refine gate_dst (N := 4) rfl ?_); refine box_event ?hg (N := 4) ?hd (cs := #[.int .u8 0, .int .i64 0, .int .u64 0, .int .i64 0, .bool false, .int .u64 0, .int .u64 0, .int .i64 0, .int .u8 0, .int .i64 0, .int .i64 0, .int .i64 0]) (t := 32) ?hr ?_; (case hd => rfl); (case hg => rfl); (case hr => first | (go_simp; done) | (go_simp; rfl)); intro gb366 hg w37 hbox hb; have n0_ := Bx0 BK363 hb; have n1_ := Bs1 HB hb GE363.out; have n2_ := Ax (hbox); have n3_ := Gw1 HB hg GE363.out; have n4_ := Gw1 HB hg GE363.out; have n5_ := Nl0 BK363 hg; have n6_ := Nr0 BK363 hg; clear BK363; clear HB; have BK363 := n0_; have HB := n1_; have BK366 := n2_; have GW366 := n3_; have GE366 := n4_; have NB363_366 := n5_; have NB366_363 := n6_; clear n0_ n1_ n2_ n3_ n4_ n5_ n6_; clear hb hbox hg; have hnb38 := NB366_363.out; have hnc38 := NB363_366.out; obtain ⟨hcz39_0, hcz39_1, hcz39_2, hcz39_3, hcz39_4, hcz39_5, hcz39_6, hcz39_7, hcz39_8, hcz39_9, hcz39_10, hcz39_11, hfz39_0, hfz39_1, hfz39_2, hfz39_3, hfz39_4, hfz39_5, hfz39_6, hfz39_7, hfz39_8, hfz39_9, hfz39_10, hfz39_11⟩ := cl12 BK366) | ((with_reducible refine gate_callee (f := 8) rfl ?_); refine goesL_ (some 33) rfl rfl Try.func8 (by kernel_rfl) rfl #[.agg #[.int .u8 3, .int .i64 1, .int .u64 2, .int .i64 300, .bool false, .int .u64 0, .int .u64 167772160, .int .i64 8, .int .u8 1, .int .i64 7, .int .i64 0, .int .i64 0]] rfl gS ?_; (with_reducible refine (msg_Put.calls k 3 1 2 300 false 0 167772160 8 1 7 0 0 t367 t368 _ A2.out).mono ?_); rintro e w40 ⟨rfl, hb⟩; refine ⟨_, rfl, ?_⟩; have n0_ := Ax (blk_below (g := gb363) (o := .cells #[.bool false, .int .u64 0, .int .u64 167772160, .int .i64 8] 27 (0, 0)) (by (with_reducible repeat (first | refine blk_drewN ?_ _ | refine blk_drew ?_ | refine blk_alloc ?_ _)); refine blk_far ?_ NB363_366.out _; (with_reducible repeat (first | refine blk_drewN ?_ _ | refine blk_drew ?_ | refine blk_alloc ?_ _)); refine blk_far ?_ NB363_366.out _; (with_reducible repeat (first | refine blk_drewN ?_ _ | refine blk_drew ?_ | refine blk_alloc ?_ _)); refine blk_far ?_ NB363_366.out _; (with_reducible repeat (first | refine blk_drewN ?_ _ | refine blk_drew ?_ | refine blk_alloc ?_ _)); refine blk_far ?_ NB363_366.out _; (with_reducible repeat (first | refine blk_drewN ?_ _ | refine blk_drew ?_ | refine blk_alloc ?_ _)); refine blk_far ?_ NB363_366.out _; (with_reducible repeat (first | refine blk_drewN ?_ _ | refine blk_drew ?_ | refine blk_alloc ?_ _)); refine blk_far ?_ NB363_366.out _; (with_reducible repeat (first | refine blk_drewN ?_ _ | refine blk_drew ?_ | refine blk_alloc ?_ _)); refine blk_far ?_ NB363_366.out _; (with_reducible repeat (first | refine blk_drewN ?_ _ | refine blk_drew ?_ | refine blk_alloc ?_ _)); refine blk_far ?_ NB363_366.out _; (with_reducible repeat (first | refine blk_drewN ?_ _ | refine blk_drew ?_ | refine blk_alloc ?_ _)); refine blk_far ?_ NB363_366.out _; (with_reducible repeat (first | refine blk_drewN ?_ _ | refine blk_drew ?_ | refine blk_alloc ?_ _)); refine blk_far ?_ NB363_366.out _; (with_reducible repeat (first | refine blk_drewN ?_ _ | refine blk_drew ?_ | refine blk_alloc ?_ _)); refine blk_far ?_ NB363_366.out _; (with_reducible repeat (first | refine blk_drewN ?_ _ | refine blk_drew ?_ | refine blk_alloc ?_ _)); refine blk_far ?_ NB363_366.out _; (with_reducible repeat (first | refine blk_drewN ?_ _ | refine blk_drew ?_ | refine blk_alloc ?_ _)); exact BK363.out) hb); have n1_ := Ax (blk_below (g := gb366) (o := .cells #[.int .u8 3, .int .i64 1, .int .u64 2, .int .i64 300, .bool false, .int .u64 0, .int .u64 167772160, .int .i64 8, .int .u8 1, .int .i64 7, .int .i64 0, .int .i64 0] 32 (0, 0)) (by (with_reducible repeat (first | refine blk_drewN ?_ _ | refine blk_drew ?_ | refine blk_alloc ?_ _)); refine blk_put (cs := #[.int .u8 3, .int .i64 1, .int .u64 2, .int .i64 300, .bool false, .int .u64 0, .int .u64 167772160, .int .i64 8, .int .u8 1, .int .i64 7, .int .i64 0, .int .i64 0]) ?_ 11 _ rfl; (with_reducible repeat (first | refine blk_drewN ?_ _ | refine blk_drew ?_ | refine blk_alloc ?_ _)); refine blk_put (cs := #[.int .u8 3, .int .i64 1, .int .u64 2, .int .i64 300, .bool false, .int .u64 0, .int .u64 167772160, .int .i64 8, .int .u8 1, .int .i64 7, .int .i64 0, .int .i64 0]) ?_ 10 _ rfl; (with_reducible repeat (first | refine blk_drewN ?_ _ | refine blk_drew ?_ | refine blk_alloc ?_ _)); refine blk_put (cs := #[.int .u8 3, .int .i64 1, .int .u64 2, .int .i64 300, .bool false, .int .u64 0, .int .u64 167772160, .int .i64 8, .int .u8 1, .int .i64 0, .int .i64 0, .int .i64 0]) ?_ 9 _ rfl; (with_reducible repeat (first | refine blk_drewN ?_ _ | refine blk_drew ?_ | refine blk_alloc ?_ _)); refine blk_put (cs := #[.int .u8 3, .int .i64 1, .int .u64 2, .int .i64 300, .bool false, .int .u64 0, .int .u64 167772160, .int .i64 8, .int .u8 0, .int .i64 0, .int .i64 0, .int .i64 0]) ?_ 8 _ rfl; (with_reducible repeat (first | refine blk_drewN ?_ _ | refine blk_drew ?_ | refine blk_alloc ?_ _)); refine blk_put (cs := #[.int .u8 3, .int .i64 1, .int .u64 2, .int .i64 300, .bool false, .int .u64 0, .int .u64 167772160, .int .i64 0, .int .u8 0, .int .i64 0, .int .i64 0, .int .i64 0]) ?_ 7 _ rfl; (with_reducible repeat (first | refine blk_drewN ?_ _ | refine blk_drew ?_ | refine blk_alloc ?_ _)); refine blk_put (cs := #[.int .u8 3, .int .i64 1, .int .u64 2, .int .i64 300, .bool false, .int .u64 0, .int .u64 0, .int .i64 0, .int .u8 0, .int .i64 0, .int .i64 0, .int .i64 0]) ?_ 6 _ rfl; (with_reducible repeat (first | refine blk_drewN ?_ _ | refine blk_drew ?_ | refine blk_alloc ?_ _)); refine blk_put (cs := #[.int .u8 3, .int .i64 1, .int .u64 2, .int .i64 300, .bool false, .int .u64 0, .int .u64 0, .int .i64 0, .int .u8 0, .int .i64 0, .int .i64 0, .int .i64 0]) ?_ 5 _ rfl; (with_reducible repeat (first | refine blk_drewN ?_ _ | refine blk_drew ?_ | refine blk_alloc ?_ _)); refine blk_put (cs := #[.int .u8 3, .int .i64 1, .int .u64 2, .int .i64 300, .bool false, .int .u64 0, .int .u64 0, .int .i64 0, .int .u8 0, .int .i64 0, .int .i64 0, .int .i64 0]) ?_ 4 _ rfl; (with_reducible repeat (first | refine blk_drewN ?_ _ | refine blk_drew ?_ | refine blk_alloc ?_ _)); refine blk_put (cs := #[.int .u8 3, .int .i64 1, .int .u64 2, .int .i64 0, .bool false, .int .u64 0, .int .u64 0, .int .i64 0, .int .u8 0, .int .i64 0, .int .i64 0, .int .i64 0]) ?_ 3 _ rfl; (with_reducible repeat (first | refine blk_drewN ?_ _ | refine blk_drew ?_ | refine blk_alloc ?_ _)); refine blk_put (cs := #[.int .u8 3, .int .i64 1, .int .u64 0, .int .i64 0, .bool false, .int .u64 0, .int .u64 0, .int .i64 0, .int .u8 0, .int .i64 0, .int .i64 0, .int .i64 0]) ?_ 2 _ rfl; (with_reducible repeat (first | refine blk_drewN ?_ _ | refine blk_drew ?_ | refine blk_alloc ?_ _)); refine blk_put (cs := #[.int .u8 3, .int .i64 0, .int .u64 0, .int .i64 0, .bool false, .int .u64 0, .int .u64 0, .int .i64 0, .int .u8 0, .int .i64 0, .int .i64 0, .int .i64 0]) ?_ 1 _ rfl; (with_reducible repeat (first | refine blk_drewN ?_ _ | refine blk_drew ?_ | refine blk_alloc ?_ _)); refine blk_put (cs := #[.int .u8 0, .int .i64 0, .int .u64 0, .int .i64 0, .bool false, .int .u64 0, .int .u64 0, .int .i64 0, .int .u8 0, .int .i64 0, .int .i64 0, .int .i64 0]) ?_ 0 _ rfl; (with_reducible repeat (first | refine blk_drewN ?_ _ | refine blk_drew ?_ | refine blk_alloc ?_ _)); exact BK366.out) hb); have n2_ := Bs2 HB hb GE363.out GE366.out; clear BK363; clear BK366; clear HB; have BK363 := n0_; have BK366 := n1_; have HB := n2_; clear n0_ n1_ n2_; (try clear hb)) | ((with_reducible refine gate_callee (f := 10) rfl ?_); refine goesL_ (some 38) rfl rfl Try.func10 (by kernel_rfl) rfl #[.string t367] rfl gS ?_; (with_reducible refine (msg_Get.calls k t367 t369 t370 t371 t372 t373 t374 t375 t376 t377 t378 t379 t380 t381 _ A3.out).mono ?_); rintro e w41 ⟨rfl, hb⟩; refine ⟨_, rfl, ?_⟩; replace BK363 := Bx0 BK363 hb; replace BK366 := Bx0 BK366 hb; replace HB := Bs2 HB hb GE363.out GE366.out; (try clear hb)) | ((with_reducible refine gate_dst (N := 7) rfl ?_); refine box_event ?hg (N := 7) ?hd (cs := #[.int .u8 0, .int .i64 0, .int .u64 0, .int .i64 0, .bool false, .int .u64 0, .int .u64 0, .int .i64 0, .int .u8 0, .int .i64 0, .int .i64 0, .int .i64 0]) (t := 32) ?hr ?_; (case hd => rfl); (case hg => rfl); (case hr => first | (go_simp; done) | (go_simp; rfl)); intro gb382 hg w42 hbox hb; have n0_ := Bx0 BK363 hb; have n1_ := Bx0 BK366 hb; have n2_ := Bs2 HB hb GE363.out GE366.out; have n3_ := Ax (hbox); have n4_ := Gw2 HB hg GE363.out GE366.out; have n5_ := Gw2 HB hg GE363.out GE366.out; have n6_ := Nl0 BK363 hg; have n7_ := Nr0 BK363 hg; have n8_ := Nl0 BK366 hg; have n9_ := Nr0 BK366 hg; clear BK363; clear BK366; clear HB; have BK363 := n0_; have BK366 := n1_; have HB := n2_; have BK382 := n3_; have GW382 := n4_; have GE382 := n5_; have NB363_382 := n6_; have NB382_363 := n7_; have NB366_382 := n8_; have NB382_366 := n9_; clear n0_ n1_ n2_ n3_ n4_ n5_ n6_ n7_ n8_ n9_; clear hb hbox hg; have hnb43 := NB382_363.out; have hnc43 := NB363_382.out; have hnb44 := NB382_366.out; have hnc44 := NB366_382.out; obtain ⟨hcz45_0, hcz45_1, hcz45_2, hcz45_3, hcz45_4, hcz45_5, hcz45_6, hcz45_7, hcz45_8, hcz45_9, hcz45_10, hcz45_11, hfz45_0, hfz45_1, hfz45_2, hfz45_3, hfz45_4, hfz45_5, hfz45_6, hfz45_7, hfz45_8, hfz45_9, hfz45_10, hfz45_11⟩ := cl12 BK382) | ((with_reducible refine gate_callee (f := 10) rfl ?_); refine goesL_ (some 44) rfl rfl Try.func10 (by kernel_rfl) rfl #[.string (t367 ++ (⟨#[0]⟩ : ByteArray))] rfl gS ?_; (with_reducible refine (msg_Get.calls k (t367 ++ (⟨#[0]⟩ : ByteArray)) t383 t384 t385 t386 t387 t388 t389 t390 t391 t392 t393 t394 t395 _ A5.out).mono ?_); rintro e w46 ⟨rfl, hb⟩; refine ⟨_, rfl, ?_⟩; have n0_ := Ax (blk_below (g := gb363) (o := .cells #[.bool false, .int .u64 0, .int .u64 167772160, .int .i64 8] 27 (0, 0)) (by (with_reducible repeat (first | refine blk_drewN ?_ _ | refine blk_drew ?_ | refine blk_alloc ?_ _)); refine blk_far ?_ NB363_382.out _; (with_reducible repeat (first | refine blk_drewN ?_ _ | refine blk_drew ?_ | refine blk_alloc ?_ _)); refine blk_far ?_ NB363_382.out _; (with_reducible repeat (first | refine blk_drewN ?_ _ | refine blk_drew ?_ | refine blk_alloc ?_ _)); refine blk_far ?_ NB363_382.out _; (with_reducible repeat (first | refine blk_drewN ?_ _ | refine blk_drew ?_ | refine blk_alloc ?_ _)); refine blk_far ?_ NB363_382.out _; (with_reducible repeat (first | refine blk_drewN ?_ _ | refine blk_drew ?_ | refine blk_alloc ?_ _)); refine blk_far ?_ NB363_382.out _; (with_reducible repeat (first | refine blk_drewN ?_ _ | refine blk_drew ?_ | refine blk_alloc ?_ _)); refine blk_far ?_ NB363_382.out _; (with_reducible repeat (first | refine blk_drewN ?_ _ | refine blk_drew ?_ | refine blk_alloc ?_ _)); refine blk_far ?_ NB363_382.out _; (with_reducible repeat (first | refine blk_drewN ?_ _ | refine blk_drew ?_ | refine blk_alloc ?_ _)); refine blk_far ?_ NB363_382.out _; (with_reducible repeat (first | refine blk_drewN ?_ _ | refine blk_drew ?_ | refine blk_alloc ?_ _)); refine blk_far ?_ NB363_382.out _; (with_reducible repeat (first | refine blk_drewN ?_ _ | refine blk_drew ?_ | refine blk_alloc ?_ _)); refine blk_far ?_ NB363_382.out _; (with_reducible repeat (first | refine blk_drewN ?_ _ | refine blk_drew ?_ | refine blk_alloc ?_ _)); refine blk_far ?_ NB363_382.out _; (with_reducible repeat (first | refine blk_drewN ?_ _ | refine blk_drew ?_ | refine blk_alloc ?_ _)); refine blk_far ?_ NB363_382.out _; (with_reducible repeat (first | refine blk_drewN ?_ _ | refine blk_drew ?_ | refine blk_alloc ?_ _)); exact BK363.out) hb); have n1_ := Ax (blk_below (g := gb366) (o := .cells #[.int .u8 3, .int .i64 1, .int .u64 2, .int .i64 300, .bool false, .int .u64 0, .int .u64 167772160, .int .i64 8, .int .u8 1, .int .i64 7, .int .i64 0, .int .i64 0] 32 (0, 0)) (by (with_reducible repeat (first | refine blk_drewN ?_ _ | refine blk_drew ?_ | refine blk_alloc ?_ _)); refine blk_far ?_ NB366_382.out _; (with_reducible repeat (first | refine blk_drewN ?_ _ | refine blk_drew ?_ | refine blk_alloc ?_ _)); refine blk_far ?_ NB366_382.out _; (with_reducible repeat (first | refine blk_drewN ?_ _ | refine blk_drew ?_ | refine blk_alloc ?_ _)); refine blk_far ?_ NB366_382.out _; (with_reducible repeat (first | refine blk_drewN ?_ _ | refine blk_drew ?_ | refine blk_alloc ?_ _)); refine blk_far ?_ NB366_382.out _; (with_reducible repeat (first | refine blk_drewN ?_ _ | refine blk_drew ?_ | refine blk_alloc ?_ _)); refine blk_far ?_ NB366_382.out _; (with_reducible repeat (first | refine blk_drewN ?_ _ | refine blk_drew ?_ | refine blk_alloc ?_ _)); refine blk_far ?_ NB366_382.out _; (with_reducible repeat (first | refine blk_drewN ?_ _ | refine blk_drew ?_ | refine blk_alloc ?_ _)); refine blk_far ?_ NB366_382.out _; (with_reducible repeat (first | refine blk_drewN ?_ _ | refine blk_drew ?_ | refine blk_alloc ?_ _)); refine blk_far ?_ NB366_382.out _; (with_reducible repeat (first | refine blk_drewN ?_ _ | refine blk_drew ?_ | refine blk_alloc ?_ _)); refine blk_far ?_ NB366_382.out _; (with_reducible repeat (first | refine blk_drewN ?_ _ | refine blk_drew ?_ | refine blk_alloc ?_ _)); refine blk_far ?_ NB366_382.out _; (with_reducible repeat (first | refine blk_drewN ?_ _ | refine blk_drew ?_ | refine blk_alloc ?_ _)); refine blk_far ?_ NB366_382.out _; (with_reducible repeat (first | refine blk_drewN ?_ _ | refine blk_drew ?_ | refine blk_alloc ?_ _)); refine blk_far ?_ NB366_382.out _; (with_reducible repeat (first | refine blk_drewN ?_ _ | refine blk_drew ?_ | refine blk_alloc ?_ _)); exact BK366.out) hb); have n2_ := Ax (blk_below (g := gb382) (o := .cells #[.int .u8 t369, .int .i64 t370, .int .u64 t371, .int .i64 t372, .bool t373, .int .u64 t374, .int .u64 t375, .int .i64 t376, .int .u8 t377, .int .i64 t378, .int .i64 t379, .int .i64 t380] 32 (0, 0)) (by (with_reducible repeat (first | refine blk_drewN ?_ _ | refine blk_drew ?_ | refine blk_alloc ?_ _)); refine blk_put (cs := #[.int .u8 t369, .int .i64 t370, .int .u64 t371, .int .i64 t372, .bool t373, .int .u64 t374, .int .u64 t375, .int .i64 t376, .int .u8 t377, .int .i64 t378, .int .i64 t379, .int .i64 0]) ?_ 11 _ rfl; (with_reducible repeat (first | refine blk_drewN ?_ _ | refine blk_drew ?_ | refine blk_alloc ?_ _)); refine blk_put (cs := #[.int .u8 t369, .int .i64 t370, .int .u64 t371, .int .i64 t372, .bool t373, .int .u64 t374, .int .u64 t375, .int .i64 t376, .int .u8 t377, .int .i64 t378, .int .i64 0, .int .i64 0]) ?_ 10 _ rfl; (with_reducible repeat (first | refine blk_drewN ?_ _ | refine blk_drew ?_ | refine blk_alloc ?_ _)); refine blk_put (cs := #[.int .u8 t369, .int .i64 t370, .int .u64 t371, .int .i64 t372, .bool t373, .int .u64 t374, .int .u64 t375, .int .i64 t376, .int .u8 t377, .int .i64 0, .int .i64 0, .int .i64 0]) ?_ 9 _ rfl; (with_reducible repeat (first | refine blk_drewN ?_ _ | refine blk_drew ?_ | refine blk_alloc ?_ _)); refine blk_put (cs := #[.int .u8 t369, .int .i64 t370, .int .u64 t371, .int .i64 t372, .bool t373, .int .u64 t374, .int .u64 t375, .int .i64 t376, .int .u8 0, .int .i64 0, .int .i64 0, .int .i64 0]) ?_ 8 _ rfl; (with_reducible repeat (first | refine blk_drewN ?_ _ | refine blk_drew ?_ | refine blk_alloc ?_ _)); refine blk_put (cs := #[.int .u8 t369, .int .i64 t370, .int .u64 t371, .int .i64 t372, .bool t373, .int .u64 t374, .int .u64 t375, .int .i64 0, .int .u8 0, .int .i64 0, .int .i64 0, .int .i64 0]) ?_ 7 _ rfl; (with_reducible repeat (first | refine blk_drewN ?_ _ | refine blk_drew ?_ | refine blk_alloc ?_ _)); refine blk_put (cs := #[.int .u8 t369, .int .i64 t370, .int .u64 t371, .int .i64 t372, .bool t373, .int .u64 t374, .int .u64 0, .int .i64 0, .int .u8 0, .int .i64 0, .int .i64 0, .int .i64 0]) ?_ 6 _ rfl; (with_reducible repeat (first | refine blk_drewN ?_ _ | refine blk_drew ?_ | refine blk_alloc ?_ _)); refine blk_put (cs := #[.int .u8 t369, .int .i64 t370, .int .u64 t371, .int .i64 t372, .bool t373, .int .u64 0, .int .u64 0, .int .i64 0, .int .u8 0, .int .i64 0, .int .i64 0, .int .i64 0]) ?_ 5 _ rfl; (with_reducible repeat (first | refine blk_drewN ?_ _ | refine blk_drew ?_ | refine blk_alloc ?_ _)); refine blk_put (cs := #[.int .u8 t369, .int .i64 t370, .int .u64 t371, .int .i64 t372, .bool false, .int .u64 0, .int .u64 0, .int .i64 0, .int .u8 0, .int .i64 0, .int .i64 0, .int .i64 0]) ?_ 4 _ rfl; (with_reducible repeat (first | refine blk_drewN ?_ _ | refine blk_drew ?_ | refine blk_alloc ?_ _)); refine blk_put (cs := #[.int .u8 t369, .int .i64 t370, .int .u64 t371, .int .i64 0, .bool false, .int .u64 0, .int .u64 0, .int .i64 0, .int .u8 0, .int .i64 0, .int .i64 0, .int .i64 0]) ?_ 3 _ rfl; (with_reducible repeat (first | refine blk_drewN ?_ _ | refine blk_drew ?_ | refine blk_alloc ?_ _)); refine blk_put (cs := #[.int .u8 t369, .int .i64 t370, .int .u64 0, .int .i64 0, .bool false, .int .u64 0, .int .u64 0, .int .i64 0, .int .u8 0, .int .i64 0, .int .i64 0, .int .i64 0]) ?_ 2 _ rfl; (with_reducible repeat (first | refine blk_drewN ?_ _ | refine blk_drew ?_ | refine blk_alloc ?_ _)); refine blk_put (cs := #[.int .u8 t369, .int .i64 0, .int .u64 0, .int .i64 0, .bool false, .int .u64 0, .int .u64 0, .int .i64 0, .int .u8 0, .int .i64 0, .int .i64 0, .int .i64 0]) ?_ 1 _ rfl; (with_reducible repeat (first | refine blk_drewN ?_ _ | refine blk_drew ?_ | refine blk_alloc ?_ _)); refine blk_put (cs := #[.int .u8 0, .int .i64 0, .int .u64 0, .int .i64 0, .bool false, .int .u64 0, .int .u64 0, .int .i64 0, .int .u8 0, .int .i64 0, .int .i64 0, .int .i64 0]) ?_ 0 _ rfl; (with_reducible repeat (first | refine blk_drewN ?_ _ | refine blk_drew ?_ | refine blk_alloc ?_ _)); exact BK382.out) hb); have n3_ := Bs3 HB hb GE363.out GE366.out GE382.out; clear BK363; clear BK366; clear BK382; clear HB; have BK363 := n0_; have BK366 := n1_; have BK382 := n2_; have HB := n3_; clear n0_ n1_ n2_ n3_; (try clear hb)) | ((with_reducible refine gate_dst (N := 9) rfl ?_); refine box_event ?hg (N := 9) ?hd (cs := #[.int .u8 0, .int .i64 0, .int .u64 0, .int .i64 0, .bool false, .int .u64 0, .int .u64 0, .int .i64 0, .int .u8 0, .int .i64 0, .int .i64 0, .int .i64 0]) (t := 32) ?hr ?_; (case hd => rfl); (case hg => rfl); (case hr => first | (go_simp; done) | (go_simp; rfl)); intro gb396 hg w47 hbox hb; have n0_ := Bx0 BK363 hb; have n1_ := Bx0 BK366 hb; have n2_ := Bx0 BK382 hb; have n3_ := Bs3 HB hb GE363.out GE366.out GE382.out; have n4_ := Ax (hbox); have n5_ := Gw3 HB hg GE363.out GE366.out GE382.out; have n6_ := Gw3 HB hg GE363.out GE366.out GE382.out; have n7_ := Nl0 BK363 hg; have n8_ := Nr0 BK363 hg; have n9_ := Nl0 BK366 hg; have n10_ := Nr0 BK366 hg; have n11_ := Nl0 BK382 hg; have n12_ := Nr0 BK382 hg; clear BK363; clear BK366; clear BK382; clear HB; have BK363 := n0_; have BK366 := n1_; have BK382 := n2_; have HB := n3_; have BK396 := n4_; have GW396 := n5_; have GE396 := n6_; have NB363_396 := n7_; have NB396_363 := n8_; have NB366_396 := n9_; have NB396_366 := n10_; have NB382_396 := n11_; have NB396_382 := n12_; clear n0_ n1_ n2_ n3_ n4_ n5_ n6_ n7_ n8_ n9_ n10_ n11_ n12_; clear hb hbox hg; have hnb48 := NB396_363.out; have hnc48 := NB363_396.out; have hnb49 := NB396_366.out; have hnc49 := NB366_396.out; have hnb50 := NB396_382.out; have hnc50 := NB382_396.out; obtain ⟨hcz51_0, hcz51_1, hcz51_2, hcz51_3, hcz51_4, hcz51_5, hcz51_6, hcz51_7, hcz51_8, hcz51_9, hcz51_10, hcz51_11, hfz51_0, hfz51_1, hfz51_2, hfz51_3, hfz51_4, hfz51_5, hfz51_6, hfz51_7, hfz51_8, hfz51_9, hfz51_10, hfz51_11⟩ := cl12 BK396; obtain ⟨hcz52_0, hcz52_1, hcz52_2, hcz52_3, hfz52_0, hfz52_1, hfz52_2, hfz52_3⟩ := cl4 BK363) | ((with_reducible refine gate_callee (f := 15) rfl ?_); refine goesL_ (some 49) rfl rfl Try.func15 (by kernel_rfl) rfl #[.agg #[.bool false, .int .u64 0, .int .u64 167772160, .int .i64 8]] rfl gS ?_; (with_reducible refine (msg_PutPrefix.calls k false 0 167772160 8 t397 t398 _ A6.out).mono ?_); rintro e w53 ⟨rfl, hb⟩; refine ⟨_, rfl, ?_⟩; have n0_ := Ax (blk_below (g := gb363) (o := .cells #[.bool false, .int .u64 0, .int .u64 167772160, .int .i64 8] 27 (0, 0)) (by (with_reducible repeat (first | refine blk_drewN ?_ _ | refine blk_drew ?_ | refine blk_alloc ?_ _)); refine blk_far ?_ NB363_396.out _; (with_reducible repeat (first | refine blk_drewN ?_ _ | refine blk_drew ?_ | refine blk_alloc ?_ _)); refine blk_far ?_ NB363_396.out _; (with_reducible repeat (first | refine blk_drewN ?_ _ | refine blk_drew ?_ | refine blk_alloc ?_ _)); refine blk_far ?_ NB363_396.out _; (with_reducible repeat (first | refine blk_drewN ?_ _ | refine blk_drew ?_ | refine blk_alloc ?_ _)); refine blk_far ?_ NB363_396.out _; (with_reducible repeat (first | refine blk_drewN ?_ _ | refine blk_drew ?_ | refine blk_alloc ?_ _)); refine blk_far ?_ NB363_396.out _; (with_reducible repeat (first | refine blk_drewN ?_ _ | refine blk_drew ?_ | refine blk_alloc ?_ _)); refine blk_far ?_ NB363_396.out _; (with_reducible repeat (first | refine blk_drewN ?_ _ | refine blk_drew ?_ | refine blk_alloc ?_ _)); refine blk_far ?_ NB363_396.out _; (with_reducible repeat (first | refine blk_drewN ?_ _ | refine blk_drew ?_ | refine blk_alloc ?_ _)); refine blk_far ?_ NB363_396.out _; (with_reducible repeat (first | refine blk_drewN ?_ _ | refine blk_drew ?_ | refine blk_alloc ?_ _)); refine blk_far ?_ NB363_396.out _; (with_reducible repeat (first | refine blk_drewN ?_ _ | refine blk_drew ?_ | refine blk_alloc ?_ _)); refine blk_far ?_ NB363_396.out _; (with_reducible repeat (first | refine blk_drewN ?_ _ | refine blk_drew ?_ | refine blk_alloc ?_ _)); refine blk_far ?_ NB363_396.out _; (with_reducible repeat (first | refine blk_drewN ?_ _ | refine blk_drew ?_ | refine blk_alloc ?_ _)); refine blk_far ?_ NB363_396.out _; (with_reducible repeat (first | refine blk_drewN ?_ _ | refine blk_drew ?_ | refine blk_alloc ?_ _)); exact BK363.out) hb); have n1_ := Ax (blk_below (g := gb366) (o := .cells #[.int .u8 3, .int .i64 1, .int .u64 2, .int .i64 300, .bool false, .int .u64 0, .int .u64 167772160, .int .i64 8, .int .u8 1, .int .i64 7, .int .i64 0, .int .i64 0] 32 (0, 0)) (by (with_reducible repeat (first | refine blk_drewN ?_ _ | refine blk_drew ?_ | refine blk_alloc ?_ _)); refine blk_far ?_ NB366_396.out _; (with_reducible repeat (first | refine blk_drewN ?_ _ | refine blk_drew ?_ | refine blk_alloc ?_ _)); refine blk_far ?_ NB366_396.out _; (with_reducible repeat (first | refine blk_drewN ?_ _ | refine blk_drew ?_ | refine blk_alloc ?_ _)); refine blk_far ?_ NB366_396.out _; (with_reducible repeat (first | refine blk_drewN ?_ _ | refine blk_drew ?_ | refine blk_alloc ?_ _)); refine blk_far ?_ NB366_396.out _; (with_reducible repeat (first | refine blk_drewN ?_ _ | refine blk_drew ?_ | refine blk_alloc ?_ _)); refine blk_far ?_ NB366_396.out _; (with_reducible repeat (first | refine blk_drewN ?_ _ | refine blk_drew ?_ | refine blk_alloc ?_ _)); refine blk_far ?_ NB366_396.out _; (with_reducible repeat (first | refine blk_drewN ?_ _ | refine blk_drew ?_ | refine blk_alloc ?_ _)); refine blk_far ?_ NB366_396.out _; (with_reducible repeat (first | refine blk_drewN ?_ _ | refine blk_drew ?_ | refine blk_alloc ?_ _)); refine blk_far ?_ NB366_396.out _; (with_reducible repeat (first | refine blk_drewN ?_ _ | refine blk_drew ?_ | refine blk_alloc ?_ _)); refine blk_far ?_ NB366_396.out _; (with_reducible repeat (first | refine blk_drewN ?_ _ | refine blk_drew ?_ | refine blk_alloc ?_ _)); refine blk_far ?_ NB366_396.out _; (with_reducible repeat (first | refine blk_drewN ?_ _ | refine blk_drew ?_ | refine blk_alloc ?_ _)); refine blk_far ?_ NB366_396.out _; (with_reducible repeat (first | refine blk_drewN ?_ _ | refine blk_drew ?_ | refine blk_alloc ?_ _)); refine blk_far ?_ NB366_396.out _; (with_reducible repeat (first | refine blk_drewN ?_ _ | refine blk_drew ?_ | refine blk_alloc ?_ _)); exact BK366.out) hb); have n2_ := Ax (blk_below (g := gb382) (o := .cells #[.int .u8 t369, .int .i64 t370, .int .u64 t371, .int .i64 t372, .bool t373, .int .u64 t374, .int .u64 t375, .int .i64 t376, .int .u8 t377, .int .i64 t378, .int .i64 t379, .int .i64 t380] 32 (0, 0)) (by (with_reducible repeat (first | refine blk_drewN ?_ _ | refine blk_drew ?_ | refine blk_alloc ?_ _)); refine blk_far ?_ NB382_396.out _; (with_reducible repeat (first | refine blk_drewN ?_ _ | refine blk_drew ?_ | refine blk_alloc ?_ _)); refine blk_far ?_ NB382_396.out _; (with_reducible repeat (first | refine blk_drewN ?_ _ | refine blk_drew ?_ | refine blk_alloc ?_ _)); refine blk_far ?_ NB382_396.out _; (with_reducible repeat (first | refine blk_drewN ?_ _ | refine blk_drew ?_ | refine blk_alloc ?_ _)); refine blk_far ?_ NB382_396.out _; (with_reducible repeat (first | refine blk_drewN ?_ _ | refine blk_drew ?_ | refine blk_alloc ?_ _)); refine blk_far ?_ NB382_396.out _; (with_reducible repeat (first | refine blk_drewN ?_ _ | refine blk_drew ?_ | refine blk_alloc ?_ _)); refine blk_far ?_ NB382_396.out _; (with_reducible repeat (first | refine blk_drewN ?_ _ | refine blk_drew ?_ | refine blk_alloc ?_ _)); refine blk_far ?_ NB382_396.out _; (with_reducible repeat (first | refine blk_drewN ?_ _ | refine blk_drew ?_ | refine blk_alloc ?_ _)); refine blk_far ?_ NB382_396.out _; (with_reducible repeat (first | refine blk_drewN ?_ _ | refine blk_drew ?_ | refine blk_alloc ?_ _)); refine blk_far ?_ NB382_396.out _; (with_reducible repeat (first | refine blk_drewN ?_ _ | refine blk_drew ?_ | refine blk_alloc ?_ _)); refine blk_far ?_ NB382_396.out _; (with_reducible repeat (first | refine blk_drewN ?_ _ | refine blk_drew ?_ | refine blk_alloc ?_ _)); refine blk_far ?_ NB382_396.out _; (with_reducible repeat (first | refine blk_drewN ?_ _ | refine blk_drew ?_ | refine blk_alloc ?_ _)); refine blk_far ?_ NB382_396.out _; (with_reducible repeat (first | refine blk_drewN ?_ _ | refine blk_drew ?_ | refine blk_alloc ?_ _)); exact BK382.out) hb); have n3_ := Ax (blk_below (g := gb396) (o := .cells #[.int .u8 t383, .int .i64 t384, .int .u64 t385, .int .i64 t386, .bool t387, .int .u64 t388, .int .u64 t389, .int .i64 t390, .int .u8 t391, .int .i64 t392, .int .i64 t393, .int .i64 t394] 32 (0, 0)) (by (with_reducible repeat (first | refine blk_drewN ?_ _ | refine blk_drew ?_ | refine blk_alloc ?_ _)); refine blk_put (cs := #[.int .u8 t383, .int .i64 t384, .int .u64 t385, .int .i64 t386, .bool t387, .int .u64 t388, .int .u64 t389, .int .i64 t390, .int .u8 t391, .int .i64 t392, .int .i64 t393, .int .i64 0]) ?_ 11 _ rfl; (with_reducible repeat (first | refine blk_drewN ?_ _ | refine blk_drew ?_ | refine blk_alloc ?_ _)); refine blk_put (cs := #[.int .u8 t383, .int .i64 t384, .int .u64 t385, .int .i64 t386, .bool t387, .int .u64 t388, .int .u64 t389, .int .i64 t390, .int .u8 t391, .int .i64 t392, .int .i64 0, .int .i64 0]) ?_ 10 _ rfl; (with_reducible repeat (first | refine blk_drewN ?_ _ | refine blk_drew ?_ | refine blk_alloc ?_ _)); refine blk_put (cs := #[.int .u8 t383, .int .i64 t384, .int .u64 t385, .int .i64 t386, .bool t387, .int .u64 t388, .int .u64 t389, .int .i64 t390, .int .u8 t391, .int .i64 0, .int .i64 0, .int .i64 0]) ?_ 9 _ rfl; (with_reducible repeat (first | refine blk_drewN ?_ _ | refine blk_drew ?_ | refine blk_alloc ?_ _)); refine blk_put (cs := #[.int .u8 t383, .int .i64 t384, .int .u64 t385, .int .i64 t386, .bool t387, .int .u64 t388, .int .u64 t389, .int .i64 t390, .int .u8 0, .int .i64 0, .int .i64 0, .int .i64 0]) ?_ 8 _ rfl; (with_reducible repeat (first | refine blk_drewN ?_ _ | refine blk_drew ?_ | refine blk_alloc ?_ _)); refine blk_put (cs := #[.int .u8 t383, .int .i64 t384, .int .u64 t385, .int .i64 t386, .bool t387, .int .u64 t388, .int .u64 t389, .int .i64 0, .int .u8 0, .int .i64 0, .int .i64 0, .int .i64 0]) ?_ 7 _ rfl; (with_reducible repeat (first | refine blk_drewN ?_ _ | refine blk_drew ?_ | refine blk_alloc ?_ _)); refine blk_put (cs := #[.int .u8 t383, .int .i64 t384, .int .u64 t385, .int .i64 t386, .bool t387, .int .u64 t388, .int .u64 0, .int .i64 0, .int .u8 0, .int .i64 0, .int .i64 0, .int .i64 0]) ?_ 6 _ rfl; (with_reducible repeat (first | refine blk_drewN ?_ _ | refine blk_drew ?_ | refine blk_alloc ?_ _)); refine blk_put (cs := #[.int .u8 t383, .int .i64 t384, .int .u64 t385, .int .i64 t386, .bool t387, .int .u64 0, .int .u64 0, .int .i64 0, .int .u8 0, .int .i64 0, .int .i64 0, .int .i64 0]) ?_ 5 _ rfl; (with_reducible repeat (first | refine blk_drewN ?_ _ | refine blk_drew ?_ | refine blk_alloc ?_ _)); refine blk_put (cs := #[.int .u8 t383, .int .i64 t384, .int .u64 t385, .int .i64 t386, .bool false, .int .u64 0, .int .u64 0, .int .i64 0, .int .u8 0, .int .i64 0, .int .i64 0, .int .i64 0]) ?_ 4 _ rfl; (with_reducible repeat (first | refine blk_drewN ?_ _ | refine blk_drew ?_ | refine blk_alloc ?_ _)); refine blk_put (cs := #[.int .u8 t383, .int .i64 t384, .int .u64 t385, .int .i64 0, .bool false, .int .u64 0, .int .u64 0, .int .i64 0, .int .u8 0, .int .i64 0, .int .i64 0, .int .i64 0]) ?_ 3 _ rfl; (with_reducible repeat (first | refine blk_drewN ?_ _ | refine blk_drew ?_ | refine blk_alloc ?_ _)); refine blk_put (cs := #[.int .u8 t383, .int .i64 t384, .int .u64 0, .int .i64 0, .bool false, .int .u64 0, .int .u64 0, .int .i64 0, .int .u8 0, .int .i64 0, .int .i64 0, .int .i64 0]) ?_ 2 _ rfl; (with_reducible repeat (first | refine blk_drewN ?_ _ | refine blk_drew ?_ | refine blk_alloc ?_ _)); refine blk_put (cs := #[.int .u8 t383, .int .i64 0, .int .u64 0, .int .i64 0, .bool false, .int .u64 0, .int .u64 0, .int .i64 0, .int .u8 0, .int .i64 0, .int .i64 0, .int .i64 0]) ?_ 1 _ rfl; (with_reducible repeat (first | refine blk_drewN ?_ _ | refine blk_drew ?_ | refine blk_alloc ?_ _)); refine blk_put (cs := #[.int .u8 0, .int .i64 0, .int .u64 0, .int .i64 0, .bool false, .int .u64 0, .int .u64 0, .int .i64 0, .int .u8 0, .int .i64 0, .int .i64 0, .int .i64 0]) ?_ 0 _ rfl; (with_reducible repeat (first | refine blk_drewN ?_ _ | refine blk_drew ?_ | refine blk_alloc ?_ _)); exact BK396.out) hb); have n4_ := Bs4 HB hb GE363.out GE366.out GE382.out GE396.out; clear BK363; clear BK366; clear BK382; clear BK396; clear HB; have BK363 := n0_; have BK366 := n1_; have BK382 := n2_; have BK396 := n3_; have HB := n4_; clear n0_ n1_ n2_ n3_ n4_; (try clear hb)) | ((with_reducible refine gate_callee (f := 17) rfl ?_); refine goesL_ (some 55) rfl rfl Try.func17 (by kernel_rfl) rfl #[.string (t397 ++ (⟨#[122]⟩ : ByteArray))] rfl gS ?_; (with_reducible refine (msg_GetPrefix.calls k (t397 ++ (⟨#[122]⟩ : ByteArray)) t399 t400 t401 t402 t403 t404 _ A8.out).mono ?_); rintro e w54 ⟨rfl, hb⟩; refine ⟨_, rfl, ?_⟩; replace BK363 := Bx0 BK363 hb; replace BK366 := Bx0 BK366 hb; replace BK382 := Bx0 BK382 hb; replace BK396 := Bx0 BK396 hb; replace HB := Bs4 HB hb GE363.out GE366.out GE382.out GE396.out; (try clear hb)) | ((with_reducible refine gate_dst (N := 13) rfl ?_); refine box_event ?hg (N := 13) ?hd (cs := #[.bool false, .int .u64 0, .int .u64 0, .int .i64 0]) (t := 27) ?hr ?_; (case hd => rfl); (case hg => rfl); (case hr => first | (go_simp; done) | (go_simp; rfl)); intro gb405 hg w55 hbox hb; have n0_ := Bx0 BK363 hb; have n1_ := Bx0 BK366 hb; have n2_ := Bx0 BK382 hb; have n3_ := Bx0 BK396 hb; have n4_ := Bs4 HB hb GE363.out GE366.out GE382.out GE396.out; have n5_ := Ax (hbox); have n6_ := Gw4 HB hg GE363.out GE366.out GE382.out GE396.out; have n7_ := Gw4 HB hg GE363.out GE366.out GE382.out GE396.out; have n8_ := Nl0 BK363 hg; have n9_ := Nr0 BK363 hg; have n10_ := Nl0 BK366 hg; have n11_ := Nr0 BK366 hg; have n12_ := Nl0 BK382 hg; have n13_ := Nr0 BK382 hg; have n14_ := Nl0 BK396 hg; have n15_ := Nr0 BK396 hg; clear BK363; clear BK366; clear BK382; clear BK396; clear HB; have BK363 := n0_; have BK366 := n1_; have BK382 := n2_; have BK396 := n3_; have HB := n4_; have BK405 := n5_; have GW405 := n6_; have GE405 := n7_; have NB363_405 := n8_; have NB405_363 := n9_; have NB366_405 := n10_; have NB405_366 := n11_; have NB382_405 := n12_; have NB405_382 := n13_; have NB396_405 := n14_; have NB405_396 := n15_; clear n0_ n1_ n2_ n3_ n4_ n5_ n6_ n7_ n8_ n9_ n10_ n11_ n12_ n13_ n14_ n15_; clear hb hbox hg; have hnb56 := NB405_363.out; have hnc56 := NB363_405.out; have hnb57 := NB405_366.out; have hnc57 := NB366_405.out; have hnb58 := NB405_382.out; have hnc58 := NB382_405.out; have hnb59 := NB405_396.out; have hnc59 := NB396_405.out; obtain ⟨hcz60_0, hcz60_1, hcz60_2, hcz60_3, hfz60_0, hfz60_1, hfz60_2, hfz60_3⟩ := cl4 BK405) | ((with_reducible refine gate_callee (f := 19) rfl ?_); refine goesL_ (some 61) rfl rfl Try.func19 (by kernel_rfl) rfl #[.agg #[.int .u8 2, .int .i64 0]] rfl gS ?_; (with_reducible refine (msg_PutAction.calls k 2 0 t406 t407 _ A9.out).mono ?_); rintro e w61 ⟨rfl, hb⟩; refine ⟨_, rfl, ?_⟩; have n0_ := Bx4 BK363 hb NB363_405.out NB363_405.out NB363_405.out NB363_405.out; have n1_ := Bx4 BK366 hb NB366_405.out NB366_405.out NB366_405.out NB366_405.out; have n2_ := Bx4 BK382 hb NB382_405.out NB382_405.out NB382_405.out NB382_405.out; have n3_ := Bx4 BK396 hb NB396_405.out NB396_405.out NB396_405.out NB396_405.out; have n4_ := Ax (blk_below (g := gb405) (o := .cells #[.bool t399, .int .u64 t400, .int .u64 t401, .int .i64 t402] 27 (0, 0)) (by (with_reducible repeat (first | refine blk_drewN ?_ _ | refine blk_drew ?_ | refine blk_alloc ?_ _)); refine blk_put (cs := #[.bool t399, .int .u64 t400, .int .u64 t401, .int .i64 0]) ?_ 3 _ rfl; (with_reducible repeat (first | refine blk_drewN ?_ _ | refine blk_drew ?_ | refine blk_alloc ?_ _)); refine blk_put (cs := #[.bool t399, .int .u64 t400, .int .u64 0, .int .i64 0]) ?_ 2 _ rfl; (with_reducible repeat (first | refine blk_drewN ?_ _ | refine blk_drew ?_ | refine blk_alloc ?_ _)); refine blk_put (cs := #[.bool t399, .int .u64 0, .int .u64 0, .int .i64 0]) ?_ 1 _ rfl; (with_reducible repeat (first | refine blk_drewN ?_ _ | refine blk_drew ?_ | refine blk_alloc ?_ _)); refine blk_put (cs := #[.bool false, .int .u64 0, .int .u64 0, .int .i64 0]) ?_ 0 _ rfl; (with_reducible repeat (first | refine blk_drewN ?_ _ | refine blk_drew ?_ | refine blk_alloc ?_ _)); exact BK405.out) hb); have n5_ := Bs5 HB hb GE363.out GE366.out GE382.out GE396.out GE405.out; clear BK363; clear BK366; clear BK382; clear BK396; clear BK405; clear HB; have BK363 := n0_; have BK366 := n1_; have BK382 := n2_; have BK396 := n3_; have BK405 := n4_; have HB := n5_; clear n0_ n1_ n2_ n3_ n4_ n5_; (try clear hb)) | ((with_reducible refine gate_callee (f := 21) rfl ?_); refine goesL_ (some 67) rfl rfl Try.func21 (by kernel_rfl) rfl #[.string (t406 ++ (⟨#[122]⟩ : ByteArray))] rfl gS ?_; (with_reducible refine (msg_GetAction.calls k (t406 ++ (⟨#[122]⟩ : ByteArray)) t408 t409 t410 t411 _ A11.out).mono ?_); rintro e w62 ⟨rfl, hb⟩; refine ⟨_, rfl, ?_⟩; replace BK363 := Bx0 BK363 hb; replace BK366 := Bx0 BK366 hb; replace BK382 := Bx0 BK382 hb; replace BK396 := Bx0 BK396 hb; replace BK405 := Bx0 BK405 hb; replace HB := Bs5 HB hb GE363.out GE366.out GE382.out GE396.out GE405.out; (try clear hb)) | ((with_reducible refine gate_dst (N := 18) rfl ?_); refine box_event ?hg (N := 18) ?hd (cs := #[.int .u8 0, .int .i64 0]) (t := 30) ?hr ?_; (case hd => rfl); (case hg => rfl); (case hr => first | (go_simp; done) | (go_simp; rfl)); intro gb412 hg w63 hbox hb; have n0_ := Bx0 BK363 hb; have n1_ := Bx0 BK366 hb; have n2_ := Bx0 BK382 hb; have n3_ := Bx0 BK396 hb; have n4_ := Bx0 BK405 hb; have n5_ := Bs5 HB hb GE363.out GE366.out GE382.out GE396.out GE405.out; have n6_ := Ax (hbox); have n7_ := Gw5 HB hg GE363.out GE366.out GE382.out GE396.out GE405.out; have n8_ := Gw5 HB hg GE363.out GE366.out GE382.out GE396.out GE405.out; have n9_ := Nl0 BK363 hg; have n10_ := Nr0 BK363 hg; have n11_ := Nl0 BK366 hg; have n12_ := Nr0 BK366 hg; have n13_ := Nl0 BK382 hg; have n14_ := Nr0 BK382 hg; have n15_ := Nl0 BK396 hg; have n16_ := Nr0 BK396 hg; have n17_ := Nl0 BK405 hg; have n18_ := Nr0 BK405 hg; clear BK363; clear BK366; clear BK382; clear BK396; clear BK405; clear HB; have BK363 := n0_; have BK366 := n1_; have BK382 := n2_; have BK396 := n3_; have BK405 := n4_; have HB := n5_; have BK412 := n6_; have GW412 := n7_; have GE412 := n8_; have NB363_412 := n9_; have NB412_363 := n10_; have NB366_412 := n11_; have NB412_366 := n12_; have NB382_412 := n13_; have NB412_382 := n14_; have NB396_412 := n15_; have NB412_396 := n16_; have NB405_412 := n17_; have NB412_405 := n18_; clear n0_ n1_ n2_ n3_ n4_ n5_ n6_ n7_ n8_ n9_ n10_ n11_ n12_ n13_ n14_ n15_ n16_ n17_ n18_; clear hb hbox hg; have hnb64 := NB412_363.out; have hnc64 := NB363_412.out; have hnb65 := NB412_366.out; have hnc65 := NB366_412.out; have hnb66 := NB412_382.out; have hnc66 := NB382_412.out; have hnb67 := NB412_396.out; have hnc67 := NB396_412.out; have hnb68 := NB412_405.out; have hnc68 := NB405_412.out; obtain ⟨hcz69_0, hcz69_1, hfz69_0, hfz69_1⟩ := cl2 BK412; obtain ⟨hcz70_0, hcz70_1, hcz70_2, hcz70_3, hcz70_4, hcz70_5, hcz70_6, hcz70_7, hcz70_8, hcz70_9, hcz70_10, hcz70_11, hfz70_0, hfz70_1, hfz70_2, hfz70_3, hfz70_4, hfz70_5, hfz70_6, hfz70_7, hfz70_8, hfz70_9, hfz70_10, hfz70_11⟩ := cl12 BK366; obtain ⟨hcz71_0, hcz71_1, hcz71_2, hcz71_3, hcz71_4, hcz71_5, hcz71_6, hcz71_7, hcz71_8, hcz71_9, hcz71_10, hcz71_11, hfz71_0, hfz71_1, hfz71_2, hfz71_3, hfz71_4, hfz71_5, hfz71_6, hfz71_7, hfz71_8, hfz71_9, hfz71_10, hfz71_11⟩ := cl12 BK382; obtain ⟨hcz72_0, hcz72_1, hcz72_2, hcz72_3, hfz72_0, hfz72_1, hfz72_2, hfz72_3⟩ := cl4 BK363; obtain ⟨hcz73_0, hcz73_1, hcz73_2, hcz73_3, hfz73_0, hfz73_1, hfz73_2, hfz73_3⟩ := cl4 BK405) | (go_at_call 13; (with_reducible refine (msg_Check.calls k 3 1 2 300 false 0 167772160 8 1 7 1 0 t413 _ A30.out).mono ?_); rintro e w74 ⟨rfl, hb⟩; have n0_ := Bx3 BK363 hb NB363_366.out NB363_412.out NB363_412.out; have n1_ := Ax (blk_below (g := gb366) (o := .cells #[.int .u8 3, .int .i64 1, .int .u64 2, .int .i64 300, .bool false, .int .u64 0, .int .u64 167772160, .int .i64 8, .int .u8 1, .int .i64 7, .int .i64 1, .int .i64 0] 32 (0, 0)) (by (with_reducible repeat (first | refine blk_drewN ?_ _ | refine blk_drew ?_ | refine blk_alloc ?_ _)); refine blk_put (cs := #[.int .u8 3, .int .i64 1, .int .u64 2, .int .i64 300, .bool false, .int .u64 0, .int .u64 167772160, .int .i64 8, .int .u8 1, .int .i64 7, .int .i64 0, .int .i64 0]) ?_ 10 _ rfl; (with_reducible repeat (first | refine blk_drewN ?_ _ | refine blk_drew ?_ | refine blk_alloc ?_ _)); refine blk_far ?_ NB366_412.out _; (with_reducible repeat (first | refine blk_drewN ?_ _ | refine blk_drew ?_ | refine blk_alloc ?_ _)); refine blk_far ?_ NB366_412.out _; (with_reducible repeat (first | refine blk_drewN ?_ _ | refine blk_drew ?_ | refine blk_alloc ?_ _)); exact BK366.out) hb); have n2_ := Bx3 BK382 hb NB382_366.out NB382_412.out NB382_412.out; have n3_ := Bx3 BK396 hb NB396_366.out NB396_412.out NB396_412.out; have n4_ := Bx3 BK405 hb NB405_366.out NB405_412.out NB405_412.out; have n5_ := Ax (blk_below (g := gb412) (o := .cells #[.int .u8 t408, .int .i64 t409] 30 (0, 0)) (by (with_reducible repeat (first | refine blk_drewN ?_ _ | refine blk_drew ?_ | refine blk_alloc ?_ _)); refine blk_far ?_ NB412_366.out _; (with_reducible repeat (first | refine blk_drewN ?_ _ | refine blk_drew ?_ | refine blk_alloc ?_ _)); refine blk_put (cs := #[.int .u8 t408, .int .i64 0]) ?_ 1 _ rfl; (with_reducible repeat (first | refine blk_drewN ?_ _ | refine blk_drew ?_ | refine blk_alloc ?_ _)); refine blk_put (cs := #[.int .u8 0, .int .i64 0]) ?_ 0 _ rfl; (with_reducible repeat (first | refine blk_drewN ?_ _ | refine blk_drew ?_ | refine blk_alloc ?_ _)); exact BK412.out) hb); have n6_ := Bs6 HB hb GE363.out GE366.out GE382.out GE396.out GE405.out GE412.out; clear BK363; clear BK366; clear BK382; clear BK396; clear BK405; clear BK412; clear HB; have BK363 := n0_; have BK366 := n1_; have BK382 := n2_; have BK396 := n3_; have BK405 := n4_; have BK412 := n5_; have HB := n6_; clear n0_ n1_ n2_ n3_ n4_ n5_ n6_; (try clear hb); obtain ⟨hcz75_0, hcz75_1, hcz75_2, hcz75_3, hcz75_4, hcz75_5, hcz75_6, hcz75_7, hcz75_8, hcz75_9, hcz75_10, hcz75_11, hfz75_0, hfz75_1, hfz75_2, hfz75_3, hfz75_4, hfz75_5, hfz75_6, hfz75_7, hfz75_8, hfz75_9, hfz75_10, hfz75_11⟩ := cl12 BK382) | (go_at_call 13; (with_reducible refine (msg_Check.calls k t369 t370 t371 t372 t373 t374 t375 t376 t377 t378 t379 t380 t414 _ A32.out).mono ?_); rintro e w76 ⟨rfl, hb⟩; replace BK363 := Bx0 BK363 hb; replace BK366 := Bx0 BK366 hb; replace BK382 := Bx0 BK382 hb; replace BK396 := Bx0 BK396 hb; replace BK405 := Bx0 BK405 hb; replace BK412 := Bx0 BK412 hb; replace HB := Bs6 HB hb GE363.out GE366.out GE382.out GE396.out GE405.out GE412.out; (try clear hb)))
                       go_ret
                       exact ⟨eS, bw6 HB.out GE363.out GE366.out GE382.out GE396.out GE405.out GE412.out⟩
                      ·rw [if_neg c31] at H
                       exact absurd H (by simp)
                     ·rw [if_neg c29] at H
                      exact absurd H (by simp)
                    ·rw [if_neg c28] at H
                     exact absurd H (by simp)
                   ·rw [if_neg c27] at H
                    exact absurd H (by simp)
                  ·rw [if_neg c26] at H
                   exact absurd H (by simp)
                 ·rw [if_neg c25] at H
                  exact absurd H (by simp)
                ·rw [if_neg c24] at H
                 exact absurd H (by simp)
               ·rw [if_neg c23] at H
                exact absurd H (by simp)
              ·rw [if_neg c22] at H
               exact absurd H (by simp)
             ·rw [if_neg c21] at H
              exact absurd H (by simp)
            ·rw [if_neg c20] at H
             exact absurd H (by simp)
           ·rw [if_neg c19] at H
            exact absurd H (by simp)
          ·rw [if_neg c18] at H
           exact absurd H (by simp)
         ·rw [if_neg c17] at H
          exact absurd H (by simp)
        ·rw [if_neg c16] at H
         exact absurd H (by simp)
       ·rw [if_neg c15] at H
        exact absurd H (by simp)
      ·rw [if_neg c14] at H
       exact absurd H (by simp)
     ·rw [if_neg c13] at H
      exact absurd H (by simp)
    ·rw [if_neg c12] at H
     exact absurd H (by simp)
   ·rw [if_neg c10] at H
    exact absurd H (by simp)
  ·rw [if_neg c7] at H
   exact absurd H (by simp)
 ·rw [if_neg c4] at H
  exact absurd H (by simp)
end Go.Proofs.Ytodgadhegcjbhaa.Q
end
section
namespace Go.Proofs.Ytodgadhegcjbhaa.Q
open Go.RowKit Go.Proofs.YtodgadhegcjbhaaW.PrintWords Go.Proofs.YtodgadhegcjbhaaW.PrintLast Go.Proofs.YtodgadhegcjbhaaW.PrintMore
attribute [local go_sem] max2_int min2_int max_two min_two max_three min_three max_four min_four   -- for this text's walks alone
set_option linter.unusedVariables false
set_option linter.unusedSimpArgs false
attribute [local go_sem high] eqA27 eqA30 eqA32
def spoorlaw11_MsgPrefixes.f (k : Nat) (a0_0 : Bool) (a0_1 : Int) (a0_2 : Int) (a0_3 : Int) (a1_0 : Int) (a1_1 : Int) (a2 : ByteArray) : Option (Bool) := (spoorlaw11_lives.f k).bind fun t544 => (if t544 = true then ((msg_PutPrefix.f k a0_0 a0_1 a0_2 a0_3).bind fun bt545 => (if bt545.1.size + a2.size ≤ 9223372036854775807 then ((msg_GetPrefix.f k (bt545.1 ++ a2)).bind fun bt547 => ((msg_PutAction.f k a1_0 a1_1).bind fun bt554 => (if bt554.1.size + a2.size ≤ 9223372036854775807 then ((msg_GetAction.f k (bt554.1 ++ a2)).bind fun bt556 => ((msg_GetPrefix.f k a2).bind fun bt561 => ((msg_PutPrefix.f k bt561.1 bt561.2.1 bt561.2.2.1 bt561.2.2.2.1).bind fun bt568 => (if bt545.2 = 0 then (if bt547.2.2.2.2.2 = 0 then (if (bt547.1 == a0_0 && ((bt547.2.1 == a0_1 && (bt547.2.2.1 == a0_2)) && (bt547.2.2.2.1 == a0_3))) = true then (if bt547.2.2.2.2.1.toList = a2.toList then (if bt554.2 = 0 then (if bt556.2.2.2 = 0 then (if (bt556.1 == a1_0 && (bt556.2.1 == a1_1)) = true then (if bt556.2.2.1.toList = a2.toList then (if bt561.2.2.2.2.2 = 0 then (if bt568.2 = 0 then (if bt568.1.size + bt561.2.2.2.2.1.size ≤ 9223372036854775807 then (some ((bt568.1 ++ bt561.2.2.2.2.1).toList == a2.toList)) else (none)) else (none)) else (some true)) else (none)) else (none)) else (none)) else (if bt561.2.2.2.2.2 = 0 then (if bt568.2 = 0 then (if bt568.1.size + bt561.2.2.2.2.1.size ≤ 9223372036854775807 then (some ((bt568.1 ++ bt561.2.2.2.2.1).toList == a2.toList)) else (none)) else (none)) else (some true))) else (none)) else (none)) else (none)) else (if bt554.2 = 0 then (if bt556.2.2.2 = 0 then (if (bt556.1 == a1_0 && (bt556.2.1 == a1_1)) = true then (if bt556.2.2.1.toList = a2.toList then (if bt561.2.2.2.2.2 = 0 then (if bt568.2 = 0 then (if bt568.1.size + bt561.2.2.2.2.1.size ≤ 9223372036854775807 then (some ((bt568.1 ++ bt561.2.2.2.2.1).toList == a2.toList)) else (none)) else (none)) else (some true)) else (none)) else (none)) else (none)) else (if bt561.2.2.2.2.2 = 0 then (if bt568.2 = 0 then (if bt568.1.size + bt561.2.2.2.2.1.size ≤ 9223372036854775807 then (some ((bt568.1 ++ bt561.2.2.2.2.1).toList == a2.toList)) else (none)) else (none)) else (some true))))))) else (none)))) else (none))) else (none))
set_option maxHeartbeats 8000000 in
set_option maxRecDepth 100000 in
theorem spoorlaw11_MsgPrefixes.calls (k : Nat) (a0_0 : Bool) (a0_1 : Int) (a0_2 : Int) (a0_3 : Int) (a1_0 : Int) (a1_1 : Int) (a2 : ByteArray) (r : Bool) (w : World) (h : spoorlaw11_MsgPrefixes.f k a0_0 a0_1 a0_2 a0_3 a1_0 a1_1 a2 = some r) :
  Calls Try.prog 7 #[.agg #[.bool a0_0, .int .u64 a0_1, .int .u64 a0_2, .int .i64 a0_3], .agg #[.int .u8 a1_0, .int .i64 a1_1], .string a2] w fun e w' => e = .returned (.bool r) ∧ Below w.heap.size w w' := by
 have hu27 := Try.underlying27
 have hu30 := Try.underlying30
 have HB := Ax (Below.refl w.heap.size w)
 have H : ((spoorlaw11_lives.f k).bind fun t544 => (if t544 = true then ((msg_PutPrefix.f k a0_0 a0_1 a0_2 a0_3).bind fun bt545 => (if bt545.1.size + a2.size ≤ 9223372036854775807 then ((msg_GetPrefix.f k (bt545.1 ++ a2)).bind fun bt547 => ((msg_PutAction.f k a1_0 a1_1).bind fun bt554 => (if bt554.1.size + a2.size ≤ 9223372036854775807 then ((msg_GetAction.f k (bt554.1 ++ a2)).bind fun bt556 => ((msg_GetPrefix.f k a2).bind fun bt561 => ((msg_PutPrefix.f k bt561.1 bt561.2.1 bt561.2.2.1 bt561.2.2.2.1).bind fun bt568 => (if bt545.2 = 0 then (if bt547.2.2.2.2.2 = 0 then (if (bt547.1 == a0_0 && ((bt547.2.1 == a0_1 && (bt547.2.2.1 == a0_2)) && (bt547.2.2.2.1 == a0_3))) = true then (if bt547.2.2.2.2.1.toList = a2.toList then (if bt554.2 = 0 then (if bt556.2.2.2 = 0 then (if (bt556.1 == a1_0 && (bt556.2.1 == a1_1)) = true then (if bt556.2.2.1.toList = a2.toList then (if bt561.2.2.2.2.2 = 0 then (if bt568.2 = 0 then (if bt568.1.size + bt561.2.2.2.2.1.size ≤ 9223372036854775807 then (some ((bt568.1 ++ bt561.2.2.2.2.1).toList == a2.toList)) else (none)) else (none)) else (some true)) else (none)) else (none)) else (none)) else (if bt561.2.2.2.2.2 = 0 then (if bt568.2 = 0 then (if bt568.1.size + bt561.2.2.2.2.1.size ≤ 9223372036854775807 then (some ((bt568.1 ++ bt561.2.2.2.2.1).toList == a2.toList)) else (none)) else (none)) else (some true))) else (none)) else (none)) else (none)) else (if bt554.2 = 0 then (if bt556.2.2.2 = 0 then (if (bt556.1 == a1_0 && (bt556.2.1 == a1_1)) = true then (if bt556.2.2.1.toList = a2.toList then (if bt561.2.2.2.2.2 = 0 then (if bt568.2 = 0 then (if bt568.1.size + bt561.2.2.2.2.1.size ≤ 9223372036854775807 then (some ((bt568.1 ++ bt561.2.2.2.2.1).toList == a2.toList)) else (none)) else (none)) else (some true)) else (none)) else (none)) else (none)) else (if bt561.2.2.2.2.2 = 0 then (if bt568.2 = 0 then (if bt568.1.size + bt561.2.2.2.2.1.size ≤ 9223372036854775807 then (some ((bt568.1 ++ bt561.2.2.2.2.1).toList == a2.toList)) else (none)) else (none)) else (some true))))))) else (none)))) else (none))) else (none))) = some r := h
 clear h
 replace H := Option.bind_eq_some_iff.mp H
 obtain ⟨t544, A40, H⟩ := H
 replace H : (if t544 = true then ((msg_PutPrefix.f k a0_0 a0_1 a0_2 a0_3).bind fun bt545 => (if bt545.1.size + a2.size ≤ 9223372036854775807 then ((msg_GetPrefix.f k (bt545.1 ++ a2)).bind fun bt547 => ((msg_PutAction.f k a1_0 a1_1).bind fun bt554 => (if bt554.1.size + a2.size ≤ 9223372036854775807 then ((msg_GetAction.f k (bt554.1 ++ a2)).bind fun bt556 => ((msg_GetPrefix.f k a2).bind fun bt561 => ((msg_PutPrefix.f k bt561.1 bt561.2.1 bt561.2.2.1 bt561.2.2.2.1).bind fun bt568 => (if bt545.2 = 0 then (if bt547.2.2.2.2.2 = 0 then (if (bt547.1 == a0_0 && ((bt547.2.1 == a0_1 && (bt547.2.2.1 == a0_2)) && (bt547.2.2.2.1 == a0_3))) = true then (if bt547.2.2.2.2.1.toList = a2.toList then (if bt554.2 = 0 then (if bt556.2.2.2 = 0 then (if (bt556.1 == a1_0 && (bt556.2.1 == a1_1)) = true then (if bt556.2.2.1.toList = a2.toList then (if bt561.2.2.2.2.2 = 0 then (if bt568.2 = 0 then (if bt568.1.size + bt561.2.2.2.2.1.size ≤ 9223372036854775807 then (some ((bt568.1 ++ bt561.2.2.2.2.1).toList == a2.toList)) else (none)) else (none)) else (some true)) else (none)) else (none)) else (none)) else (if bt561.2.2.2.2.2 = 0 then (if bt568.2 = 0 then (if bt568.1.size + bt561.2.2.2.2.1.size ≤ 9223372036854775807 then (some ((bt568.1 ++ bt561.2.2.2.2.1).toList == a2.toList)) else (none)) else (none)) else (some true))) else (none)) else (none)) else (none)) else (if bt554.2 = 0 then (if bt556.2.2.2 = 0 then (if (bt556.1 == a1_0 && (bt556.2.1 == a1_1)) = true then (if bt556.2.2.1.toList = a2.toList then (if bt561.2.2.2.2.2 = 0 then (if bt568.2 = 0 then (if bt568.1.size + bt561.2.2.2.2.1.size ≤ 9223372036854775807 then (some ((bt568.1 ++ bt561.2.2.2.2.1).toList == a2.toList)) else (none)) else (none)) else (some true)) else (none)) else (none)) else (none)) else (if bt561.2.2.2.2.2 = 0 then (if bt568.2 = 0 then (if bt568.1.size + bt561.2.2.2.2.1.size ≤ 9223372036854775807 then (some ((bt568.1 ++ bt561.2.2.2.2.1).toList == a2.toList)) else (none)) else (none)) else (some true))))))) else (none)))) else (none))) else (none)) = some r := H
 have A4 := Ax A40
 clear A40
 by_cases c5 : t544 = true
 ·subst c5
  have H1 : ((msg_PutPrefix.f k a0_0 a0_1 a0_2 a0_3).bind fun bt545 => (if bt545.1.size + a2.size ≤ 9223372036854775807 then ((msg_GetPrefix.f k (bt545.1 ++ a2)).bind fun bt547 => ((msg_PutAction.f k a1_0 a1_1).bind fun bt554 => (if bt554.1.size + a2.size ≤ 9223372036854775807 then ((msg_GetAction.f k (bt554.1 ++ a2)).bind fun bt556 => ((msg_GetPrefix.f k a2).bind fun bt561 => ((msg_PutPrefix.f k bt561.1 bt561.2.1 bt561.2.2.1 bt561.2.2.2.1).bind fun bt568 => (if bt545.2 = 0 then (if bt547.2.2.2.2.2 = 0 then (if (bt547.1 == a0_0 && ((bt547.2.1 == a0_1 && (bt547.2.2.1 == a0_2)) && (bt547.2.2.2.1 == a0_3))) = true then (if bt547.2.2.2.2.1.toList = a2.toList then (if bt554.2 = 0 then (if bt556.2.2.2 = 0 then (if (bt556.1 == a1_0 && (bt556.2.1 == a1_1)) = true then (if bt556.2.2.1.toList = a2.toList then (if bt561.2.2.2.2.2 = 0 then (if bt568.2 = 0 then (if bt568.1.size + bt561.2.2.2.2.1.size ≤ 9223372036854775807 then (some ((bt568.1 ++ bt561.2.2.2.2.1).toList == a2.toList)) else (none)) else (none)) else (some true)) else (none)) else (none)) else (none)) else (if bt561.2.2.2.2.2 = 0 then (if bt568.2 = 0 then (if bt568.1.size + bt561.2.2.2.2.1.size ≤ 9223372036854775807 then (some ((bt568.1 ++ bt561.2.2.2.2.1).toList == a2.toList)) else (none)) else (none)) else (some true))) else (none)) else (none)) else (none)) else (if bt554.2 = 0 then (if bt556.2.2.2 = 0 then (if (bt556.1 == a1_0 && (bt556.2.1 == a1_1)) = true then (if bt556.2.2.1.toList = a2.toList then (if bt561.2.2.2.2.2 = 0 then (if bt568.2 = 0 then (if bt568.1.size + bt561.2.2.2.2.1.size ≤ 9223372036854775807 then (some ((bt568.1 ++ bt561.2.2.2.2.1).toList == a2.toList)) else (none)) else (none)) else (some true)) else (none)) else (none)) else (none)) else (if bt561.2.2.2.2.2 = 0 then (if bt568.2 = 0 then (if bt568.1.size + bt561.2.2.2.2.1.size ≤ 9223372036854775807 then (some ((bt568.1 ++ bt561.2.2.2.2.1).toList == a2.toList)) else (none)) else (none)) else (some true))))))) else (none)))) else (none))) = some r := by rw [if_pos rfl] at H; exact H
  clear H
  have H := H1
  clear H1
  replace H := Option.bind_eq_some_iff.mp H
  obtain ⟨⟨t545, t546⟩, A60, H⟩ := H
  replace H : (if t545.size + a2.size ≤ 9223372036854775807 then ((msg_GetPrefix.f k (t545 ++ a2)).bind fun bt547 => ((msg_PutAction.f k a1_0 a1_1).bind fun bt554 => (if bt554.1.size + a2.size ≤ 9223372036854775807 then ((msg_GetAction.f k (bt554.1 ++ a2)).bind fun bt556 => ((msg_GetPrefix.f k a2).bind fun bt561 => ((msg_PutPrefix.f k bt561.1 bt561.2.1 bt561.2.2.1 bt561.2.2.2.1).bind fun bt568 => (if t546 = 0 then (if bt547.2.2.2.2.2 = 0 then (if (bt547.1 == a0_0 && ((bt547.2.1 == a0_1 && (bt547.2.2.1 == a0_2)) && (bt547.2.2.2.1 == a0_3))) = true then (if bt547.2.2.2.2.1.toList = a2.toList then (if bt554.2 = 0 then (if bt556.2.2.2 = 0 then (if (bt556.1 == a1_0 && (bt556.2.1 == a1_1)) = true then (if bt556.2.2.1.toList = a2.toList then (if bt561.2.2.2.2.2 = 0 then (if bt568.2 = 0 then (if bt568.1.size + bt561.2.2.2.2.1.size ≤ 9223372036854775807 then (some ((bt568.1 ++ bt561.2.2.2.2.1).toList == a2.toList)) else (none)) else (none)) else (some true)) else (none)) else (none)) else (none)) else (if bt561.2.2.2.2.2 = 0 then (if bt568.2 = 0 then (if bt568.1.size + bt561.2.2.2.2.1.size ≤ 9223372036854775807 then (some ((bt568.1 ++ bt561.2.2.2.2.1).toList == a2.toList)) else (none)) else (none)) else (some true))) else (none)) else (none)) else (none)) else (if bt554.2 = 0 then (if bt556.2.2.2 = 0 then (if (bt556.1 == a1_0 && (bt556.2.1 == a1_1)) = true then (if bt556.2.2.1.toList = a2.toList then (if bt561.2.2.2.2.2 = 0 then (if bt568.2 = 0 then (if bt568.1.size + bt561.2.2.2.2.1.size ≤ 9223372036854775807 then (some ((bt568.1 ++ bt561.2.2.2.2.1).toList == a2.toList)) else (none)) else (none)) else (some true)) else (none)) else (none)) else (none)) else (if bt561.2.2.2.2.2 = 0 then (if bt568.2 = 0 then (if bt568.1.size + bt561.2.2.2.2.1.size ≤ 9223372036854775807 then (some ((bt568.1 ++ bt561.2.2.2.2.1).toList == a2.toList)) else (none)) else (none)) else (some true))))))) else (none)))) else (none)) = some r := H
  have A6 := Ax A60
  clear A60
  by_cases c7 : t545.size + a2.size ≤ 9223372036854775807
  ·rw [if_pos c7] at H
   have c7b0 := eq_true c7
   have c7b1 : decide (t545.size + a2.size ≤ 9223372036854775807) = true := decide_eq_true c7
   try have c7b2 : (9223372036854775807 < t545.size + a2.size) = False := eq_false (Nat.not_lt.2 c7)
   replace H := Option.bind_eq_some_iff.mp H
   obtain ⟨⟨t547, t548, t549, t550, t551, t552⟩, A80, H⟩ := H
   replace H : ((msg_PutAction.f k a1_0 a1_1).bind fun bt554 => (if bt554.1.size + a2.size ≤ 9223372036854775807 then ((msg_GetAction.f k (bt554.1 ++ a2)).bind fun bt556 => ((msg_GetPrefix.f k a2).bind fun bt561 => ((msg_PutPrefix.f k bt561.1 bt561.2.1 bt561.2.2.1 bt561.2.2.2.1).bind fun bt568 => (if t546 = 0 then (if t552 = 0 then (if (t547 == a0_0 && ((t548 == a0_1 && (t549 == a0_2)) && (t550 == a0_3))) = true then (if t551.toList = a2.toList then (if bt554.2 = 0 then (if bt556.2.2.2 = 0 then (if (bt556.1 == a1_0 && (bt556.2.1 == a1_1)) = true then (if bt556.2.2.1.toList = a2.toList then (if bt561.2.2.2.2.2 = 0 then (if bt568.2 = 0 then (if bt568.1.size + bt561.2.2.2.2.1.size ≤ 9223372036854775807 then (some ((bt568.1 ++ bt561.2.2.2.2.1).toList == a2.toList)) else (none)) else (none)) else (some true)) else (none)) else (none)) else (none)) else (if bt561.2.2.2.2.2 = 0 then (if bt568.2 = 0 then (if bt568.1.size + bt561.2.2.2.2.1.size ≤ 9223372036854775807 then (some ((bt568.1 ++ bt561.2.2.2.2.1).toList == a2.toList)) else (none)) else (none)) else (some true))) else (none)) else (none)) else (none)) else (if bt554.2 = 0 then (if bt556.2.2.2 = 0 then (if (bt556.1 == a1_0 && (bt556.2.1 == a1_1)) = true then (if bt556.2.2.1.toList = a2.toList then (if bt561.2.2.2.2.2 = 0 then (if bt568.2 = 0 then (if bt568.1.size + bt561.2.2.2.2.1.size ≤ 9223372036854775807 then (some ((bt568.1 ++ bt561.2.2.2.2.1).toList == a2.toList)) else (none)) else (none)) else (some true)) else (none)) else (none)) else (none)) else (if bt561.2.2.2.2.2 = 0 then (if bt568.2 = 0 then (if bt568.1.size + bt561.2.2.2.2.1.size ≤ 9223372036854775807 then (some ((bt568.1 ++ bt561.2.2.2.2.1).toList == a2.toList)) else (none)) else (none)) else (some true))))))) else (none))) = some r := H
   have A8 := Ax A80
   clear A80
   replace H := Option.bind_eq_some_iff.mp H
   obtain ⟨⟨t554, t555⟩, A90, H⟩ := H
   replace H : (if t554.size + a2.size ≤ 9223372036854775807 then ((msg_GetAction.f k (t554 ++ a2)).bind fun bt556 => ((msg_GetPrefix.f k a2).bind fun bt561 => ((msg_PutPrefix.f k bt561.1 bt561.2.1 bt561.2.2.1 bt561.2.2.2.1).bind fun bt568 => (if t546 = 0 then (if t552 = 0 then (if (t547 == a0_0 && ((t548 == a0_1 && (t549 == a0_2)) && (t550 == a0_3))) = true then (if t551.toList = a2.toList then (if t555 = 0 then (if bt556.2.2.2 = 0 then (if (bt556.1 == a1_0 && (bt556.2.1 == a1_1)) = true then (if bt556.2.2.1.toList = a2.toList then (if bt561.2.2.2.2.2 = 0 then (if bt568.2 = 0 then (if bt568.1.size + bt561.2.2.2.2.1.size ≤ 9223372036854775807 then (some ((bt568.1 ++ bt561.2.2.2.2.1).toList == a2.toList)) else (none)) else (none)) else (some true)) else (none)) else (none)) else (none)) else (if bt561.2.2.2.2.2 = 0 then (if bt568.2 = 0 then (if bt568.1.size + bt561.2.2.2.2.1.size ≤ 9223372036854775807 then (some ((bt568.1 ++ bt561.2.2.2.2.1).toList == a2.toList)) else (none)) else (none)) else (some true))) else (none)) else (none)) else (none)) else (if t555 = 0 then (if bt556.2.2.2 = 0 then (if (bt556.1 == a1_0 && (bt556.2.1 == a1_1)) = true then (if bt556.2.2.1.toList = a2.toList then (if bt561.2.2.2.2.2 = 0 then (if bt568.2 = 0 then (if bt568.1.size + bt561.2.2.2.2.1.size ≤ 9223372036854775807 then (some ((bt568.1 ++ bt561.2.2.2.2.1).toList == a2.toList)) else (none)) else (none)) else (some true)) else (none)) else (none)) else (none)) else (if bt561.2.2.2.2.2 = 0 then (if bt568.2 = 0 then (if bt568.1.size + bt561.2.2.2.2.1.size ≤ 9223372036854775807 then (some ((bt568.1 ++ bt561.2.2.2.2.1).toList == a2.toList)) else (none)) else (none)) else (some true))))))) else (none)) = some r := H
   have A9 := Ax A90
   clear A90
   by_cases c10 : t554.size + a2.size ≤ 9223372036854775807
   ·rw [if_pos c10] at H
    have c10b0 := eq_true c10
    have c10b1 : decide (t554.size + a2.size ≤ 9223372036854775807) = true := decide_eq_true c10
    try have c10b2 : (9223372036854775807 < t554.size + a2.size) = False := eq_false (Nat.not_lt.2 c10)
    replace H := Option.bind_eq_some_iff.mp H
    obtain ⟨⟨t556, t557, t558, t559⟩, A110, H⟩ := H
    replace H : ((msg_GetPrefix.f k a2).bind fun bt561 => ((msg_PutPrefix.f k bt561.1 bt561.2.1 bt561.2.2.1 bt561.2.2.2.1).bind fun bt568 => (if t546 = 0 then (if t552 = 0 then (if (t547 == a0_0 && ((t548 == a0_1 && (t549 == a0_2)) && (t550 == a0_3))) = true then (if t551.toList = a2.toList then (if t555 = 0 then (if t559 = 0 then (if (t556 == a1_0 && (t557 == a1_1)) = true then (if t558.toList = a2.toList then (if bt561.2.2.2.2.2 = 0 then (if bt568.2 = 0 then (if bt568.1.size + bt561.2.2.2.2.1.size ≤ 9223372036854775807 then (some ((bt568.1 ++ bt561.2.2.2.2.1).toList == a2.toList)) else (none)) else (none)) else (some true)) else (none)) else (none)) else (none)) else (if bt561.2.2.2.2.2 = 0 then (if bt568.2 = 0 then (if bt568.1.size + bt561.2.2.2.2.1.size ≤ 9223372036854775807 then (some ((bt568.1 ++ bt561.2.2.2.2.1).toList == a2.toList)) else (none)) else (none)) else (some true))) else (none)) else (none)) else (none)) else (if t555 = 0 then (if t559 = 0 then (if (t556 == a1_0 && (t557 == a1_1)) = true then (if t558.toList = a2.toList then (if bt561.2.2.2.2.2 = 0 then (if bt568.2 = 0 then (if bt568.1.size + bt561.2.2.2.2.1.size ≤ 9223372036854775807 then (some ((bt568.1 ++ bt561.2.2.2.2.1).toList == a2.toList)) else (none)) else (none)) else (some true)) else (none)) else (none)) else (none)) else (if bt561.2.2.2.2.2 = 0 then (if bt568.2 = 0 then (if bt568.1.size + bt561.2.2.2.2.1.size ≤ 9223372036854775807 then (some ((bt568.1 ++ bt561.2.2.2.2.1).toList == a2.toList)) else (none)) else (none)) else (some true)))))) = some r := H
    have A11 := Ax A110
    clear A110
    replace H := Option.bind_eq_some_iff.mp H
    obtain ⟨⟨t561, t562, t563, t564, t565, t566⟩, A120, H⟩ := H
    replace H : ((msg_PutPrefix.f k t561 t562 t563 t564).bind fun bt568 => (if t546 = 0 then (if t552 = 0 then (if (t547 == a0_0 && ((t548 == a0_1 && (t549 == a0_2)) && (t550 == a0_3))) = true then (if t551.toList = a2.toList then (if t555 = 0 then (if t559 = 0 then (if (t556 == a1_0 && (t557 == a1_1)) = true then (if t558.toList = a2.toList then (if t566 = 0 then (if bt568.2 = 0 then (if bt568.1.size + t565.size ≤ 9223372036854775807 then (some ((bt568.1 ++ t565).toList == a2.toList)) else (none)) else (none)) else (some true)) else (none)) else (none)) else (none)) else (if t566 = 0 then (if bt568.2 = 0 then (if bt568.1.size + t565.size ≤ 9223372036854775807 then (some ((bt568.1 ++ t565).toList == a2.toList)) else (none)) else (none)) else (some true))) else (none)) else (none)) else (none)) else (if t555 = 0 then (if t559 = 0 then (if (t556 == a1_0 && (t557 == a1_1)) = true then (if t558.toList = a2.toList then (if t566 = 0 then (if bt568.2 = 0 then (if bt568.1.size + t565.size ≤ 9223372036854775807 then (some ((bt568.1 ++ t565).toList == a2.toList)) else (none)) else (none)) else (some true)) else (none)) else (none)) else (none)) else (if t566 = 0 then (if bt568.2 = 0 then (if bt568.1.size + t565.size ≤ 9223372036854775807 then (some ((bt568.1 ++ t565).toList == a2.toList)) else (none)) else (none)) else (some true))))) = some r := H
    have A12 := Ax A120
    clear A120
    replace H := Option.bind_eq_some_iff.mp H
    obtain ⟨⟨t568, t569⟩, A130, H⟩ := H
    replace H : (if t546 = 0 then (if t552 = 0 then (if (t547 == a0_0 && ((t548 == a0_1 && (t549 == a0_2)) && (t550 == a0_3))) = true then (if t551.toList = a2.toList then (if t555 = 0 then (if t559 = 0 then (if (t556 == a1_0 && (t557 == a1_1)) = true then (if t558.toList = a2.toList then (if t566 = 0 then (if t569 = 0 then (if t568.size + t565.size ≤ 9223372036854775807 then (some ((t568 ++ t565).toList == a2.toList)) else (none)) else (none)) else (some true)) else (none)) else (none)) else (none)) else (if t566 = 0 then (if t569 = 0 then (if t568.size + t565.size ≤ 9223372036854775807 then (some ((t568 ++ t565).toList == a2.toList)) else (none)) else (none)) else (some true))) else (none)) else (none)) else (none)) else (if t555 = 0 then (if t559 = 0 then (if (t556 == a1_0 && (t557 == a1_1)) = true then (if t558.toList = a2.toList then (if t566 = 0 then (if t569 = 0 then (if t568.size + t565.size ≤ 9223372036854775807 then (some ((t568 ++ t565).toList == a2.toList)) else (none)) else (none)) else (some true)) else (none)) else (none)) else (none)) else (if t566 = 0 then (if t569 = 0 then (if t568.size + t565.size ≤ 9223372036854775807 then (some ((t568 ++ t565).toList == a2.toList)) else (none)) else (none)) else (some true)))) = some r := H
    have A13 := Ax A130
    clear A130
    by_cases c14 : t546 = 0
    ·rw [if_pos c14] at H
     have c14b0 : (t546 == 0) = true := beq_iff_eq.mpr c14
     have c14b1 : (t546 != 0) = false := bne_eq_false_iff_eq.mpr c14
     clear c14
     by_cases c15 : t552 = 0
     ·rw [if_pos c15] at H
      have c15b0 : (t552 == 0) = true := beq_iff_eq.mpr c15
      have c15b1 : (t552 != 0) = false := bne_eq_false_iff_eq.mpr c15
      clear c15
      by_cases c16 : (t547 == a0_0 && ((t548 == a0_1 && (t549 == a0_2)) && (t550 == a0_3))) = true
      ·rw [if_pos c16] at H
       have c16b0 : (t547 == a0_0 && ((t548 == a0_1 && (t549 == a0_2)) && (t550 == a0_3))) = true := c16
       (try (have c16b1 : decide (t547 = a0_0 && ((t548 == a0_1 && (t549 == a0_2)) && (t550 == a0_3))) = true := by simpa using c16))
       (try (have c16b2 : (t547 == a0_0 && ((t548 == a0_1 && (t549 == a0_2)) && (t550 == a0_3))) = true := by simpa using c16))
       clear c16
       by_cases c17 : t551.toList = a2.toList
       ·rw [if_pos c17] at H
        have c17b0 : (t551.toList == a2.toList) = true := beq_iff_eq.mpr c17
        have c17b1 : (t551.toList != a2.toList) = false := bne_eq_false_iff_eq.mpr c17
        clear c17
        by_cases c18 : t555 = 0
        ·rw [if_pos c18] at H
         have c18b0 : (t555 == 0) = true := beq_iff_eq.mpr c18
         have c18b1 : (t555 != 0) = false := bne_eq_false_iff_eq.mpr c18
         clear c18
         by_cases c19 : t559 = 0
         ·rw [if_pos c19] at H
          have c19b0 : (t559 == 0) = true := beq_iff_eq.mpr c19
          have c19b1 : (t559 != 0) = false := bne_eq_false_iff_eq.mpr c19
          clear c19
          by_cases c20 : (t556 == a1_0 && (t557 == a1_1)) = true
          ·rw [if_pos c20] at H
           have c20b0 : (t556 == a1_0 && (t557 == a1_1)) = true := c20
           (try (have c20b1 : decide (t556 = a1_0 && (t557 == a1_1)) = true := by simpa using c20))
           (try (have c20b2 : (t556 == a1_0 && (t557 == a1_1)) = true := by simpa using c20))
           clear c20
           by_cases c21 : t558.toList = a2.toList
           ·rw [if_pos c21] at H
            have c21b0 : (t558.toList == a2.toList) = true := beq_iff_eq.mpr c21
            have c21b1 : (t558.toList != a2.toList) = false := bne_eq_false_iff_eq.mpr c21
            clear c21
            by_cases c22 : t566 = 0
            ·rw [if_pos c22] at H
             have c22b0 : (t566 == 0) = true := beq_iff_eq.mpr c22
             have c22b1 : (t566 != 0) = false := bne_eq_false_iff_eq.mpr c22
             clear c22
             by_cases c23 : t569 = 0
             ·rw [if_pos c23] at H
              have c23b0 : (t569 == 0) = true := beq_iff_eq.mpr c23
              have c23b1 : (t569 != 0) = false := bne_eq_false_iff_eq.mpr c23
              clear c23
              by_cases c24 : t568.size + t565.size ≤ 9223372036854775807
              ·rw [if_pos c24] at H
               have c24b0 := eq_true c24
               have c24b1 : decide (t568.size + t565.size ≤ 9223372036854775807) = true := decide_eq_true c24
               try have c24b2 : (9223372036854775807 < t568.size + t565.size) = False := eq_false (Nat.not_lt.2 c24)
               obtain rfl := Option.some.inj H
               go_enter Try.func7, Try.ntmps7
               go_wp2_with (first | ((with_reducible refine gate_dst (N := 3) rfl ?_); refine box_event ?hg (N := 3) ?hd (cs := #[.bool a0_0, .int .u64 a0_1, .int .u64 a0_2, .int .i64 a0_3]) (t := 27) ?hr ?_; (case hd => rfl); (case hg => rfl); (case hr => first | (go_simp; done) | (go_simp; rfl)); intro gb542 hg w25 hbox hb; have n0_ := Bs0 HB hb; have n1_ := Ax (hbox); have n2_ := Gw0 HB hg; have n3_ := Gw0 HB hg; clear HB; have HB := n0_; have BK542 := n1_; have GW542 := n2_; have GE542 := n3_; clear n0_ n1_ n2_ n3_; clear hb hbox hg) | ((with_reducible refine gate_dst (N := 4) rfl ?_); refine box_event ?hg (N := 4) ?hd (cs := #[.int .u8 a1_0, .int .i64 a1_1]) (t := 30) ?hr ?_; (case hd => rfl); (case hg => rfl); (case hr => first | (go_simp; done) | (go_simp; rfl)); intro gb543 hg w26 hbox hb; have n0_ := Bx0 BK542 hb; have n1_ := Bs1 HB hb GE542.out; have n2_ := Ax (hbox); have n3_ := Gw1 HB hg GE542.out; have n4_ := Gw1 HB hg GE542.out; have n5_ := Nl0 BK542 hg; have n6_ := Nr0 BK542 hg; clear BK542; clear HB; have BK542 := n0_; have HB := n1_; have BK543 := n2_; have GW543 := n3_; have GE543 := n4_; have NB542_543 := n5_; have NB543_542 := n6_; clear n0_ n1_ n2_ n3_ n4_ n5_ n6_; clear hb hbox hg) | ((with_reducible refine gate_callee (f := 12) rfl ?_); refine goesL_ (some 22) rfl rfl Try.func12 (by kernel_rfl) rfl #[] rfl gS ?_; (with_reducible refine (spoorlaw11_lives.calls k  true _ A4.out).mono ?_); rintro e w27 ⟨rfl, hb⟩; refine ⟨_, rfl, ?_⟩; replace BK542 := Bx0 BK542 hb; replace BK543 := Bx0 BK543 hb; replace HB := Bs2 HB hb GE542.out GE543.out; (try clear hb); have hnb28 := NB542_543.out; have hnc28 := NB543_542.out; obtain ⟨hcz29_0, hcz29_1, hcz29_2, hcz29_3, hfz29_0, hfz29_1, hfz29_2, hfz29_3⟩ := cl4 BK542) | ((with_reducible refine gate_callee (f := 15) rfl ?_); refine goesL_ (some 26) rfl rfl Try.func15 (by kernel_rfl) rfl #[.agg #[.bool a0_0, .int .u64 a0_1, .int .u64 a0_2, .int .i64 a0_3]] rfl gS ?_; (with_reducible refine (msg_PutPrefix.calls k a0_0 a0_1 a0_2 a0_3 t545 t546 _ A6.out).mono ?_); rintro e w30 ⟨rfl, hb⟩; refine ⟨_, rfl, ?_⟩; replace BK542 := Bx0 BK542 hb; replace BK543 := Bx0 BK543 hb; replace HB := Bs2 HB hb GE542.out GE543.out; (try clear hb)) | ((with_reducible refine gate_callee (f := 17) rfl ?_); refine goesL_ (some 33) rfl rfl Try.func17 (by kernel_rfl) rfl #[.string (t545 ++ a2)] rfl gS ?_; (with_reducible refine (msg_GetPrefix.calls k (t545 ++ a2) t547 t548 t549 t550 t551 t552 _ A8.out).mono ?_); rintro e w31 ⟨rfl, hb⟩; refine ⟨_, rfl, ?_⟩; replace BK542 := Bx0 BK542 hb; replace BK543 := Bx0 BK543 hb; replace HB := Bs2 HB hb GE542.out GE543.out; (try clear hb)) | ((with_reducible refine gate_dst (N := 9) rfl ?_); refine box_event ?hg (N := 9) ?hd (cs := #[.bool false, .int .u64 0, .int .u64 0, .int .i64 0]) (t := 27) ?hr ?_; (case hd => rfl); (case hg => rfl); (case hr => first | (go_simp; done) | (go_simp; rfl)); intro gb553 hg w32 hbox hb; have n0_ := Bx0 BK542 hb; have n1_ := Bx0 BK543 hb; have n2_ := Bs2 HB hb GE542.out GE543.out; have n3_ := Ax (hbox); have n4_ := Gw2 HB hg GE542.out GE543.out; have n5_ := Gw2 HB hg GE542.out GE543.out; have n6_ := Nl0 BK542 hg; have n7_ := Nr0 BK542 hg; have n8_ := Nl0 BK543 hg; have n9_ := Nr0 BK543 hg; clear BK542; clear BK543; clear HB; have BK542 := n0_; have BK543 := n1_; have HB := n2_; have BK553 := n3_; have GW553 := n4_; have GE553 := n5_; have NB542_553 := n6_; have NB553_542 := n7_; have NB543_553 := n8_; have NB553_543 := n9_; clear n0_ n1_ n2_ n3_ n4_ n5_ n6_ n7_ n8_ n9_; clear hb hbox hg; have hnb33 := NB553_542.out; have hnc33 := NB542_553.out; have hnb34 := NB553_543.out; have hnc34 := NB543_553.out; obtain ⟨hcz35_0, hcz35_1, hcz35_2, hcz35_3, hfz35_0, hfz35_1, hfz35_2, hfz35_3⟩ := cl4 BK553; obtain ⟨hcz36_0, hcz36_1, hfz36_0, hfz36_1⟩ := cl2 BK543) | ((with_reducible refine gate_callee (f := 19) rfl ?_); refine goesL_ (some 39) rfl rfl Try.func19 (by kernel_rfl) rfl #[.agg #[.int .u8 a1_0, .int .i64 a1_1]] rfl gS ?_; (with_reducible refine (msg_PutAction.calls k a1_0 a1_1 t554 t555 _ A9.out).mono ?_); rintro e w37 ⟨rfl, hb⟩; refine ⟨_, rfl, ?_⟩; have n0_ := Bx4 BK542 hb NB542_553.out NB542_553.out NB542_553.out NB542_553.out; have n1_ := Bx4 BK543 hb NB543_553.out NB543_553.out NB543_553.out NB543_553.out; have n2_ := Ax (blk_below (g := gb553) (o := .cells #[.bool t547, .int .u64 t548, .int .u64 t549, .int .i64 t550] 27 (0, 0)) (by (with_reducible repeat (first | refine blk_drewN ?_ _ | refine blk_drew ?_ | refine blk_alloc ?_ _)); refine blk_put (cs := #[.bool t547, .int .u64 t548, .int .u64 t549, .int .i64 0]) ?_ 3 _ rfl; (with_reducible repeat (first | refine blk_drewN ?_ _ | refine blk_drew ?_ | refine blk_alloc ?_ _)); refine blk_put (cs := #[.bool t547, .int .u64 t548, .int .u64 0, .int .i64 0]) ?_ 2 _ rfl; (with_reducible repeat (first | refine blk_drewN ?_ _ | refine blk_drew ?_ | refine blk_alloc ?_ _)); refine blk_put (cs := #[.bool t547, .int .u64 0, .int .u64 0, .int .i64 0]) ?_ 1 _ rfl; (with_reducible repeat (first | refine blk_drewN ?_ _ | refine blk_drew ?_ | refine blk_alloc ?_ _)); refine blk_put (cs := #[.bool false, .int .u64 0, .int .u64 0, .int .i64 0]) ?_ 0 _ rfl; (with_reducible repeat (first | refine blk_drewN ?_ _ | refine blk_drew ?_ | refine blk_alloc ?_ _)); exact BK553.out) hb); have n3_ := Bs3 HB hb GE542.out GE543.out GE553.out; clear BK542; clear BK543; clear BK553; clear HB; have BK542 := n0_; have BK543 := n1_; have BK553 := n2_; have HB := n3_; clear n0_ n1_ n2_ n3_; (try clear hb)) | ((with_reducible refine gate_callee (f := 21) rfl ?_); refine goesL_ (some 46) rfl rfl Try.func21 (by kernel_rfl) rfl #[.string (t554 ++ a2)] rfl gS ?_; (with_reducible refine (msg_GetAction.calls k (t554 ++ a2) t556 t557 t558 t559 _ A11.out).mono ?_); rintro e w38 ⟨rfl, hb⟩; refine ⟨_, rfl, ?_⟩; replace BK542 := Bx0 BK542 hb; replace BK543 := Bx0 BK543 hb; replace BK553 := Bx0 BK553 hb; replace HB := Bs3 HB hb GE542.out GE543.out GE553.out; (try clear hb)) | ((with_reducible refine gate_dst (N := 14) rfl ?_); refine box_event ?hg (N := 14) ?hd (cs := #[.int .u8 0, .int .i64 0]) (t := 30) ?hr ?_; (case hd => rfl); (case hg => rfl); (case hr => first | (go_simp; done) | (go_simp; rfl)); intro gb560 hg w39 hbox hb; have n0_ := Bx0 BK542 hb; have n1_ := Bx0 BK543 hb; have n2_ := Bx0 BK553 hb; have n3_ := Bs3 HB hb GE542.out GE543.out GE553.out; have n4_ := Ax (hbox); have n5_ := Gw3 HB hg GE542.out GE543.out GE553.out; have n6_ := Gw3 HB hg GE542.out GE543.out GE553.out; have n7_ := Nl0 BK542 hg; have n8_ := Nr0 BK542 hg; have n9_ := Nl0 BK543 hg; have n10_ := Nr0 BK543 hg; have n11_ := Nl0 BK553 hg; have n12_ := Nr0 BK553 hg; clear BK542; clear BK543; clear BK553; clear HB; have BK542 := n0_; have BK543 := n1_; have BK553 := n2_; have HB := n3_; have BK560 := n4_; have GW560 := n5_; have GE560 := n6_; have NB542_560 := n7_; have NB560_542 := n8_; have NB543_560 := n9_; have NB560_543 := n10_; have NB553_560 := n11_; have NB560_553 := n12_; clear n0_ n1_ n2_ n3_ n4_ n5_ n6_ n7_ n8_ n9_ n10_ n11_ n12_; clear hb hbox hg; have hnb40 := NB560_542.out; have hnc40 := NB542_560.out; have hnb41 := NB560_543.out; have hnc41 := NB543_560.out; have hnb42 := NB560_553.out; have hnc42 := NB553_560.out; obtain ⟨hcz43_0, hcz43_1, hfz43_0, hfz43_1⟩ := cl2 BK560) | ((with_reducible refine gate_callee (f := 17) rfl ?_); refine goesL_ (some 52) rfl rfl Try.func17 (by kernel_rfl) rfl #[.string a2] rfl gS ?_; (with_reducible refine (msg_GetPrefix.calls k a2 t561 t562 t563 t564 t565 t566 _ A12.out).mono ?_); rintro e w44 ⟨rfl, hb⟩; refine ⟨_, rfl, ?_⟩; have n0_ := Bx2 BK542 hb NB542_560.out NB542_560.out; have n1_ := Bx2 BK543 hb NB543_560.out NB543_560.out; have n2_ := Bx2 BK553 hb NB553_560.out NB553_560.out; have n3_ := Ax (blk_below (g := gb560) (o := .cells #[.int .u8 t556, .int .i64 t557] 30 (0, 0)) (by (with_reducible repeat (first | refine blk_drewN ?_ _ | refine blk_drew ?_ | refine blk_alloc ?_ _)); refine blk_put (cs := #[.int .u8 t556, .int .i64 0]) ?_ 1 _ rfl; (with_reducible repeat (first | refine blk_drewN ?_ _ | refine blk_drew ?_ | refine blk_alloc ?_ _)); refine blk_put (cs := #[.int .u8 0, .int .i64 0]) ?_ 0 _ rfl; (with_reducible repeat (first | refine blk_drewN ?_ _ | refine blk_drew ?_ | refine blk_alloc ?_ _)); exact BK560.out) hb); have n4_ := Bs4 HB hb GE542.out GE543.out GE553.out GE560.out; clear BK542; clear BK543; clear BK553; clear BK560; clear HB; have BK542 := n0_; have BK543 := n1_; have BK553 := n2_; have BK560 := n3_; have HB := n4_; clear n0_ n1_ n2_ n3_ n4_; (try clear hb)) | ((with_reducible refine gate_dst (N := 17) rfl ?_); refine box_event ?hg (N := 17) ?hd (cs := #[.bool false, .int .u64 0, .int .u64 0, .int .i64 0]) (t := 27) ?hr ?_; (case hd => rfl); (case hg => rfl); (case hr => first | (go_simp; done) | (go_simp; rfl)); intro gb567 hg w45 hbox hb; have n0_ := Bx0 BK542 hb; have n1_ := Bx0 BK543 hb; have n2_ := Bx0 BK553 hb; have n3_ := Bx0 BK560 hb; have n4_ := Bs4 HB hb GE542.out GE543.out GE553.out GE560.out; have n5_ := Ax (hbox); have n6_ := Gw4 HB hg GE542.out GE543.out GE553.out GE560.out; have n7_ := Gw4 HB hg GE542.out GE543.out GE553.out GE560.out; have n8_ := Nl0 BK542 hg; have n9_ := Nr0 BK542 hg; have n10_ := Nl0 BK543 hg; have n11_ := Nr0 BK543 hg; have n12_ := Nl0 BK553 hg; have n13_ := Nr0 BK553 hg; have n14_ := Nl0 BK560 hg; have n15_ := Nr0 BK560 hg; clear BK542; clear BK543; clear BK553; clear BK560; clear HB; have BK542 := n0_; have BK543 := n1_; have BK553 := n2_; have BK560 := n3_; have HB := n4_; have BK567 := n5_; have GW567 := n6_; have GE567 := n7_; have NB542_567 := n8_; have NB567_542 := n9_; have NB543_567 := n10_; have NB567_543 := n11_; have NB553_567 := n12_; have NB567_553 := n13_; have NB560_567 := n14_; have NB567_560 := n15_; clear n0_ n1_ n2_ n3_ n4_ n5_ n6_ n7_ n8_ n9_ n10_ n11_ n12_ n13_ n14_ n15_; clear hb hbox hg; have hnb46 := NB567_542.out; have hnc46 := NB542_567.out; have hnb47 := NB567_543.out; have hnc47 := NB543_567.out; have hnb48 := NB567_553.out; have hnc48 := NB553_567.out; have hnb49 := NB567_560.out; have hnc49 := NB560_567.out; obtain ⟨hcz50_0, hcz50_1, hcz50_2, hcz50_3, hfz50_0, hfz50_1, hfz50_2, hfz50_3⟩ := cl4 BK567) | ((with_reducible refine gate_callee (f := 15) rfl ?_); refine goesL_ (some 58) rfl rfl Try.func15 (by kernel_rfl) rfl #[.agg #[.bool t561, .int .u64 t562, .int .u64 t563, .int .i64 t564]] rfl gS ?_; (with_reducible refine (msg_PutPrefix.calls k t561 t562 t563 t564 t568 t569 _ A13.out).mono ?_); rintro e w51 ⟨rfl, hb⟩; refine ⟨_, rfl, ?_⟩; have n0_ := Bx4 BK542 hb NB542_567.out NB542_567.out NB542_567.out NB542_567.out; have n1_ := Bx4 BK543 hb NB543_567.out NB543_567.out NB543_567.out NB543_567.out; have n2_ := Bx4 BK553 hb NB553_567.out NB553_567.out NB553_567.out NB553_567.out; have n3_ := Bx4 BK560 hb NB560_567.out NB560_567.out NB560_567.out NB560_567.out; have n4_ := Ax (blk_below (g := gb567) (o := .cells #[.bool t561, .int .u64 t562, .int .u64 t563, .int .i64 t564] 27 (0, 0)) (by (with_reducible repeat (first | refine blk_drewN ?_ _ | refine blk_drew ?_ | refine blk_alloc ?_ _)); refine blk_put (cs := #[.bool t561, .int .u64 t562, .int .u64 t563, .int .i64 0]) ?_ 3 _ rfl; (with_reducible repeat (first | refine blk_drewN ?_ _ | refine blk_drew ?_ | refine blk_alloc ?_ _)); refine blk_put (cs := #[.bool t561, .int .u64 t562, .int .u64 0, .int .i64 0]) ?_ 2 _ rfl; (with_reducible repeat (first | refine blk_drewN ?_ _ | refine blk_drew ?_ | refine blk_alloc ?_ _)); refine blk_put (cs := #[.bool t561, .int .u64 0, .int .u64 0, .int .i64 0]) ?_ 1 _ rfl; (with_reducible repeat (first | refine blk_drewN ?_ _ | refine blk_drew ?_ | refine blk_alloc ?_ _)); refine blk_put (cs := #[.bool false, .int .u64 0, .int .u64 0, .int .i64 0]) ?_ 0 _ rfl; (with_reducible repeat (first | refine blk_drewN ?_ _ | refine blk_drew ?_ | refine blk_alloc ?_ _)); exact BK567.out) hb); have n5_ := Bs5 HB hb GE542.out GE543.out GE553.out GE560.out GE567.out; clear BK542; clear BK543; clear BK553; clear BK560; clear BK567; clear HB; have BK542 := n0_; have BK543 := n1_; have BK553 := n2_; have BK560 := n3_; have BK567 := n4_; have HB := n5_; clear n0_ n1_ n2_ n3_ n4_ n5_; (try clear hb); obtain ⟨hcz52_0, hcz52_1, hcz52_2, hcz52_3, hfz52_0, hfz52_1, hfz52_2, hfz52_3⟩ := cl4 BK553; obtain ⟨hcz53_0, hcz53_1, hcz53_2, hcz53_3, hfz53_0, hfz53_1, hfz53_2, hfz53_3⟩ := cl4 BK542; obtain ⟨hcz54_0, hcz54_1, hfz54_0, hfz54_1⟩ := cl2 BK560; obtain ⟨hcz55_0, hcz55_1, hfz55_0, hfz55_1⟩ := cl2 BK543))
               go_ret
               exact ⟨eS, bw5 HB.out GE542.out GE543.out GE553.out GE560.out GE567.out⟩
              ·rw [if_neg c24] at H
               exact absurd H (by simp)
             ·rw [if_neg c23] at H
              exact absurd H (by simp)
            ·rw [if_neg c22] at H
             have c22b0 : (t566 == 0) = false := beq_eq_false_iff_ne.mpr c22
             have c22b1 : (t566 != 0) = true := bne_iff_ne.mpr c22
             obtain rfl := Option.some.inj H
             go_enter Try.func7, Try.ntmps7
             go_wp2_with (first | ((with_reducible refine gate_dst (N := 3) rfl ?_); refine box_event ?hg (N := 3) ?hd (cs := #[.bool a0_0, .int .u64 a0_1, .int .u64 a0_2, .int .i64 a0_3]) (t := 27) ?hr ?_; (case hd => rfl); (case hg => rfl); (case hr => first | (go_simp; done) | (go_simp; rfl)); intro gb542 hg w56 hbox hb; have n0_ := Bs0 HB hb; have n1_ := Ax (hbox); have n2_ := Gw0 HB hg; have n3_ := Gw0 HB hg; clear HB; have HB := n0_; have BK542 := n1_; have GW542 := n2_; have GE542 := n3_; clear n0_ n1_ n2_ n3_; clear hb hbox hg) | ((with_reducible refine gate_dst (N := 4) rfl ?_); refine box_event ?hg (N := 4) ?hd (cs := #[.int .u8 a1_0, .int .i64 a1_1]) (t := 30) ?hr ?_; (case hd => rfl); (case hg => rfl); (case hr => first | (go_simp; done) | (go_simp; rfl)); intro gb543 hg w57 hbox hb; have n0_ := Bx0 BK542 hb; have n1_ := Bs1 HB hb GE542.out; have n2_ := Ax (hbox); have n3_ := Gw1 HB hg GE542.out; have n4_ := Gw1 HB hg GE542.out; have n5_ := Nl0 BK542 hg; have n6_ := Nr0 BK542 hg; clear BK542; clear HB; have BK542 := n0_; have HB := n1_; have BK543 := n2_; have GW543 := n3_; have GE543 := n4_; have NB542_543 := n5_; have NB543_542 := n6_; clear n0_ n1_ n2_ n3_ n4_ n5_ n6_; clear hb hbox hg) | ((with_reducible refine gate_callee (f := 12) rfl ?_); refine goesL_ (some 22) rfl rfl Try.func12 (by kernel_rfl) rfl #[] rfl gS ?_; (with_reducible refine (spoorlaw11_lives.calls k  true _ A4.out).mono ?_); rintro e w58 ⟨rfl, hb⟩; refine ⟨_, rfl, ?_⟩; replace BK542 := Bx0 BK542 hb; replace BK543 := Bx0 BK543 hb; replace HB := Bs2 HB hb GE542.out GE543.out; (try clear hb); have hnb59 := NB542_543.out; have hnc59 := NB543_542.out; obtain ⟨hcz60_0, hcz60_1, hcz60_2, hcz60_3, hfz60_0, hfz60_1, hfz60_2, hfz60_3⟩ := cl4 BK542) | ((with_reducible refine gate_callee (f := 15) rfl ?_); refine goesL_ (some 26) rfl rfl Try.func15 (by kernel_rfl) rfl #[.agg #[.bool a0_0, .int .u64 a0_1, .int .u64 a0_2, .int .i64 a0_3]] rfl gS ?_; (with_reducible refine (msg_PutPrefix.calls k a0_0 a0_1 a0_2 a0_3 t545 t546 _ A6.out).mono ?_); rintro e w61 ⟨rfl, hb⟩; refine ⟨_, rfl, ?_⟩; replace BK542 := Bx0 BK542 hb; replace BK543 := Bx0 BK543 hb; replace HB := Bs2 HB hb GE542.out GE543.out; (try clear hb)) | ((with_reducible refine gate_callee (f := 17) rfl ?_); refine goesL_ (some 33) rfl rfl Try.func17 (by kernel_rfl) rfl #[.string (t545 ++ a2)] rfl gS ?_; (with_reducible refine (msg_GetPrefix.calls k (t545 ++ a2) t547 t548 t549 t550 t551 t552 _ A8.out).mono ?_); rintro e w62 ⟨rfl, hb⟩; refine ⟨_, rfl, ?_⟩; replace BK542 := Bx0 BK542 hb; replace BK543 := Bx0 BK543 hb; replace HB := Bs2 HB hb GE542.out GE543.out; (try clear hb)) | ((with_reducible refine gate_dst (N := 9) rfl ?_); refine box_event ?hg (N := 9) ?hd (cs := #[.bool false, .int .u64 0, .int .u64 0, .int .i64 0]) (t := 27) ?hr ?_; (case hd => rfl); (case hg => rfl); (case hr => first | (go_simp; done) | (go_simp; rfl)); intro gb553 hg w63 hbox hb; have n0_ := Bx0 BK542 hb; have n1_ := Bx0 BK543 hb; have n2_ := Bs2 HB hb GE542.out GE543.out; have n3_ := Ax (hbox); have n4_ := Gw2 HB hg GE542.out GE543.out; have n5_ := Gw2 HB hg GE542.out GE543.out; have n6_ := Nl0 BK542 hg; have n7_ := Nr0 BK542 hg; have n8_ := Nl0 BK543 hg; have n9_ := Nr0 BK543 hg; clear BK542; clear BK543; clear HB; have BK542 := n0_; have BK543 := n1_; have HB := n2_; have BK553 := n3_; have GW553 := n4_; have GE553 := n5_; have NB542_553 := n6_; have NB553_542 := n7_; have NB543_553 := n8_; have NB553_543 := n9_; clear n0_ n1_ n2_ n3_ n4_ n5_ n6_ n7_ n8_ n9_; clear hb hbox hg; have hnb64 := NB553_542.out; have hnc64 := NB542_553.out; have hnb65 := NB553_543.out; have hnc65 := NB543_553.out; obtain ⟨hcz66_0, hcz66_1, hcz66_2, hcz66_3, hfz66_0, hfz66_1, hfz66_2, hfz66_3⟩ := cl4 BK553; obtain ⟨hcz67_0, hcz67_1, hfz67_0, hfz67_1⟩ := cl2 BK543) | ((with_reducible refine gate_callee (f := 19) rfl ?_); refine goesL_ (some 39) rfl rfl Try.func19 (by kernel_rfl) rfl #[.agg #[.int .u8 a1_0, .int .i64 a1_1]] rfl gS ?_; (with_reducible refine (msg_PutAction.calls k a1_0 a1_1 t554 t555 _ A9.out).mono ?_); rintro e w68 ⟨rfl, hb⟩; refine ⟨_, rfl, ?_⟩; have n0_ := Bx4 BK542 hb NB542_553.out NB542_553.out NB542_553.out NB542_553.out; have n1_ := Bx4 BK543 hb NB543_553.out NB543_553.out NB543_553.out NB543_553.out; have n2_ := Ax (blk_below (g := gb553) (o := .cells #[.bool t547, .int .u64 t548, .int .u64 t549, .int .i64 t550] 27 (0, 0)) (by (with_reducible repeat (first | refine blk_drewN ?_ _ | refine blk_drew ?_ | refine blk_alloc ?_ _)); refine blk_put (cs := #[.bool t547, .int .u64 t548, .int .u64 t549, .int .i64 0]) ?_ 3 _ rfl; (with_reducible repeat (first | refine blk_drewN ?_ _ | refine blk_drew ?_ | refine blk_alloc ?_ _)); refine blk_put (cs := #[.bool t547, .int .u64 t548, .int .u64 0, .int .i64 0]) ?_ 2 _ rfl; (with_reducible repeat (first | refine blk_drewN ?_ _ | refine blk_drew ?_ | refine blk_alloc ?_ _)); refine blk_put (cs := #[.bool t547, .int .u64 0, .int .u64 0, .int .i64 0]) ?_ 1 _ rfl; (with_reducible repeat (first | refine blk_drewN ?_ _ | refine blk_drew ?_ | refine blk_alloc ?_ _)); refine blk_put (cs := #[.bool false, .int .u64 0, .int .u64 0, .int .i64 0]) ?_ 0 _ rfl; (with_reducible repeat (first | refine blk_drewN ?_ _ | refine blk_drew ?_ | refine blk_alloc ?_ _)); exact BK553.out) hb); have n3_ := Bs3 HB hb GE542.out GE543.out GE553.out; clear BK542; clear BK543; clear BK553; clear HB; have BK542 := n0_; have BK543 := n1_; have BK553 := n2_; have HB := n3_; clear n0_ n1_ n2_ n3_; (try clear hb)) | ((with_reducible refine gate_callee (f := 21) rfl ?_); refine goesL_ (some 46) rfl rfl Try.func21 (by kernel_rfl) rfl #[.string (t554 ++ a2)] rfl gS ?_; (with_reducible refine (msg_GetAction.calls k (t554 ++ a2) t556 t557 t558 t559 _ A11.out).mono ?_); rintro e w69 ⟨rfl, hb⟩; refine ⟨_, rfl, ?_⟩; replace BK542 := Bx0 BK542 hb; replace BK543 := Bx0 BK543 hb; replace BK553 := Bx0 BK553 hb; replace HB := Bs3 HB hb GE542.out GE543.out GE553.out; (try clear hb)) | ((with_reducible refine gate_dst (N := 14) rfl ?_); refine box_event ?hg (N := 14) ?hd (cs := #[.int .u8 0, .int .i64 0]) (t := 30) ?hr ?_; (case hd => rfl); (case hg => rfl); (case hr => first | (go_simp; done) | (go_simp; rfl)); intro gb560 hg w70 hbox hb; have n0_ := Bx0 BK542 hb; have n1_ := Bx0 BK543 hb; have n2_ := Bx0 BK553 hb; have n3_ := Bs3 HB hb GE542.out GE543.out GE553.out; have n4_ := Ax (hbox); have n5_ := Gw3 HB hg GE542.out GE543.out GE553.out; have n6_ := Gw3 HB hg GE542.out GE543.out GE553.out; have n7_ := Nl0 BK542 hg; have n8_ := Nr0 BK542 hg; have n9_ := Nl0 BK543 hg; have n10_ := Nr0 BK543 hg; have n11_ := Nl0 BK553 hg; have n12_ := Nr0 BK553 hg; clear BK542; clear BK543; clear BK553; clear HB; have BK542 := n0_; have BK543 := n1_; have BK553 := n2_; have HB := n3_; have BK560 := n4_; have GW560 := n5_; have GE560 := n6_; have NB542_560 := n7_; have NB560_542 := n8_; have NB543_560 := n9_; have NB560_543 := n10_; have NB553_560 := n11_; have NB560_553 := n12_; clear n0_ n1_ n2_ n3_ n4_ n5_ n6_ n7_ n8_ n9_ n10_ n11_ n12_; clear hb hbox hg; have hnb71 := NB560_542.out; have hnc71 := NB542_560.out; have hnb72 := NB560_543.out; have hnc72 := NB543_560.out; have hnb73 := NB560_553.out; have hnc73 := NB553_560.out; obtain ⟨hcz74_0, hcz74_1, hfz74_0, hfz74_1⟩ := cl2 BK560) | ((with_reducible refine gate_callee (f := 17) rfl ?_); refine goesL_ (some 52) rfl rfl Try.func17 (by kernel_rfl) rfl #[.string a2] rfl gS ?_; (with_reducible refine (msg_GetPrefix.calls k a2 t561 t562 t563 t564 t565 t566 _ A12.out).mono ?_); rintro e w75 ⟨rfl, hb⟩; refine ⟨_, rfl, ?_⟩; have n0_ := Bx2 BK542 hb NB542_560.out NB542_560.out; have n1_ := Bx2 BK543 hb NB543_560.out NB543_560.out; have n2_ := Bx2 BK553 hb NB553_560.out NB553_560.out; have n3_ := Ax (blk_below (g := gb560) (o := .cells #[.int .u8 t556, .int .i64 t557] 30 (0, 0)) (by (with_reducible repeat (first | refine blk_drewN ?_ _ | refine blk_drew ?_ | refine blk_alloc ?_ _)); refine blk_put (cs := #[.int .u8 t556, .int .i64 0]) ?_ 1 _ rfl; (with_reducible repeat (first | refine blk_drewN ?_ _ | refine blk_drew ?_ | refine blk_alloc ?_ _)); refine blk_put (cs := #[.int .u8 0, .int .i64 0]) ?_ 0 _ rfl; (with_reducible repeat (first | refine blk_drewN ?_ _ | refine blk_drew ?_ | refine blk_alloc ?_ _)); exact BK560.out) hb); have n4_ := Bs4 HB hb GE542.out GE543.out GE553.out GE560.out; clear BK542; clear BK543; clear BK553; clear BK560; clear HB; have BK542 := n0_; have BK543 := n1_; have BK553 := n2_; have BK560 := n3_; have HB := n4_; clear n0_ n1_ n2_ n3_ n4_; (try clear hb)) | ((with_reducible refine gate_dst (N := 17) rfl ?_); refine box_event ?hg (N := 17) ?hd (cs := #[.bool false, .int .u64 0, .int .u64 0, .int .i64 0]) (t := 27) ?hr ?_; (case hd => rfl); (case hg => rfl); (case hr => first | (go_simp; done) | (go_simp; rfl)); intro gb567 hg w76 hbox hb; have n0_ := Bx0 BK542 hb; have n1_ := Bx0 BK543 hb; have n2_ := Bx0 BK553 hb; have n3_ := Bx0 BK560 hb; have n4_ := Bs4 HB hb GE542.out GE543.out GE553.out GE560.out; have n5_ := Ax (hbox); have n6_ := Gw4 HB hg GE542.out GE543.out GE553.out GE560.out; have n7_ := Gw4 HB hg GE542.out GE543.out GE553.out GE560.out; have n8_ := Nl0 BK542 hg; have n9_ := Nr0 BK542 hg; have n10_ := Nl0 BK543 hg; have n11_ := Nr0 BK543 hg; have n12_ := Nl0 BK553 hg; have n13_ := Nr0 BK553 hg; have n14_ := Nl0 BK560 hg; have n15_ := Nr0 BK560 hg; clear BK542; clear BK543; clear BK553; clear BK560; clear HB; have BK542 := n0_; have BK543 := n1_; have BK553 := n2_; have BK560 := n3_; have HB := n4_; have BK567 := n5_; have GW567 := n6_; have GE567 := n7_; have NB542_567 := n8_; have NB567_542 := n9_; have NB543_567 := n10_; have NB567_543 := n11_; have NB553_567 := n12_; have NB567_553 := n13_; have NB560_567 := n14_; have NB567_560 := n15_; clear n0_ n1_ n2_ n3_ n4_ n5_ n6_ n7_ n8_ n9_ n10_ n11_ n12_ n13_ n14_ n15_; clear hb hbox hg; have hnb77 := NB567_542.out; have hnc77 := NB542_567.out; have hnb78 := NB567_543.out; have hnc78 := NB543_567.out; have hnb79 := NB567_553.out; have hnc79 := NB553_567.out; have hnb80 := NB567_560.out; have hnc80 := NB560_567.out; obtain ⟨hcz81_0, hcz81_1, hcz81_2, hcz81_3, hfz81_0, hfz81_1, hfz81_2, hfz81_3⟩ := cl4 BK567) | ((with_reducible refine gate_callee (f := 15) rfl ?_); refine goesL_ (some 58) rfl rfl Try.func15 (by kernel_rfl) rfl #[.agg #[.bool t561, .int .u64 t562, .int .u64 t563, .int .i64 t564]] rfl gS ?_; (with_reducible refine (msg_PutPrefix.calls k t561 t562 t563 t564 t568 t569 _ A13.out).mono ?_); rintro e w82 ⟨rfl, hb⟩; refine ⟨_, rfl, ?_⟩; have n0_ := Bx4 BK542 hb NB542_567.out NB542_567.out NB542_567.out NB542_567.out; have n1_ := Bx4 BK543 hb NB543_567.out NB543_567.out NB543_567.out NB543_567.out; have n2_ := Bx4 BK553 hb NB553_567.out NB553_567.out NB553_567.out NB553_567.out; have n3_ := Bx4 BK560 hb NB560_567.out NB560_567.out NB560_567.out NB560_567.out; have n4_ := Ax (blk_below (g := gb567) (o := .cells #[.bool t561, .int .u64 t562, .int .u64 t563, .int .i64 t564] 27 (0, 0)) (by (with_reducible repeat (first | refine blk_drewN ?_ _ | refine blk_drew ?_ | refine blk_alloc ?_ _)); refine blk_put (cs := #[.bool t561, .int .u64 t562, .int .u64 t563, .int .i64 0]) ?_ 3 _ rfl; (with_reducible repeat (first | refine blk_drewN ?_ _ | refine blk_drew ?_ | refine blk_alloc ?_ _)); refine blk_put (cs := #[.bool t561, .int .u64 t562, .int .u64 0, .int .i64 0]) ?_ 2 _ rfl; (with_reducible repeat (first | refine blk_drewN ?_ _ | refine blk_drew ?_ | refine blk_alloc ?_ _)); refine blk_put (cs := #[.bool t561, .int .u64 0, .int .u64 0, .int .i64 0]) ?_ 1 _ rfl; (with_reducible repeat (first | refine blk_drewN ?_ _ | refine blk_drew ?_ | refine blk_alloc ?_ _)); refine blk_put (cs := #[.bool false, .int .u64 0, .int .u64 0, .int .i64 0]) ?_ 0 _ rfl; (with_reducible repeat (first | refine blk_drewN ?_ _ | refine blk_drew ?_ | refine blk_alloc ?_ _)); exact BK567.out) hb); have n5_ := Bs5 HB hb GE542.out GE543.out GE553.out GE560.out GE567.out; clear BK542; clear BK543; clear BK553; clear BK560; clear BK567; clear HB; have BK542 := n0_; have BK543 := n1_; have BK553 := n2_; have BK560 := n3_; have BK567 := n4_; have HB := n5_; clear n0_ n1_ n2_ n3_ n4_ n5_; (try clear hb); obtain ⟨hcz83_0, hcz83_1, hcz83_2, hcz83_3, hfz83_0, hfz83_1, hfz83_2, hfz83_3⟩ := cl4 BK553; obtain ⟨hcz84_0, hcz84_1, hcz84_2, hcz84_3, hfz84_0, hfz84_1, hfz84_2, hfz84_3⟩ := cl4 BK542; obtain ⟨hcz85_0, hcz85_1, hfz85_0, hfz85_1⟩ := cl2 BK560; obtain ⟨hcz86_0, hcz86_1, hfz86_0, hfz86_1⟩ := cl2 BK543))
             go_ret
             exact ⟨eS, bw5 HB.out GE542.out GE543.out GE553.out GE560.out GE567.out⟩
           ·rw [if_neg c21] at H
            exact absurd H (by simp)
          ·rw [if_neg c20] at H
           exact absurd H (by simp)
         ·rw [if_neg c19] at H
          exact absurd H (by simp)
        ·rw [if_neg c18] at H
         have c18b0 : (t555 == 0) = false := beq_eq_false_iff_ne.mpr c18
         have c18b1 : (t555 != 0) = true := bne_iff_ne.mpr c18
         by_cases c87 : t566 = 0
         ·rw [if_pos c87] at H
          have c87b0 : (t566 == 0) = true := beq_iff_eq.mpr c87
          have c87b1 : (t566 != 0) = false := bne_eq_false_iff_eq.mpr c87
          clear c87
          by_cases c88 : t569 = 0
          ·rw [if_pos c88] at H
           have c88b0 : (t569 == 0) = true := beq_iff_eq.mpr c88
           have c88b1 : (t569 != 0) = false := bne_eq_false_iff_eq.mpr c88
           clear c88
           by_cases c89 : t568.size + t565.size ≤ 9223372036854775807
           ·rw [if_pos c89] at H
            have c89b0 := eq_true c89
            have c89b1 : decide (t568.size + t565.size ≤ 9223372036854775807) = true := decide_eq_true c89
            try have c89b2 : (9223372036854775807 < t568.size + t565.size) = False := eq_false (Nat.not_lt.2 c89)
            obtain rfl := Option.some.inj H
            go_enter Try.func7, Try.ntmps7
            go_wp2_with (first | ((with_reducible refine gate_dst (N := 3) rfl ?_); refine box_event ?hg (N := 3) ?hd (cs := #[.bool a0_0, .int .u64 a0_1, .int .u64 a0_2, .int .i64 a0_3]) (t := 27) ?hr ?_; (case hd => rfl); (case hg => rfl); (case hr => first | (go_simp; done) | (go_simp; rfl)); intro gb542 hg w90 hbox hb; have n0_ := Bs0 HB hb; have n1_ := Ax (hbox); have n2_ := Gw0 HB hg; have n3_ := Gw0 HB hg; clear HB; have HB := n0_; have BK542 := n1_; have GW542 := n2_; have GE542 := n3_; clear n0_ n1_ n2_ n3_; clear hb hbox hg) | ((with_reducible refine gate_dst (N := 4) rfl ?_); refine box_event ?hg (N := 4) ?hd (cs := #[.int .u8 a1_0, .int .i64 a1_1]) (t := 30) ?hr ?_; (case hd => rfl); (case hg => rfl); (case hr => first | (go_simp; done) | (go_simp; rfl)); intro gb543 hg w91 hbox hb; have n0_ := Bx0 BK542 hb; have n1_ := Bs1 HB hb GE542.out; have n2_ := Ax (hbox); have n3_ := Gw1 HB hg GE542.out; have n4_ := Gw1 HB hg GE542.out; have n5_ := Nl0 BK542 hg; have n6_ := Nr0 BK542 hg; clear BK542; clear HB; have BK542 := n0_; have HB := n1_; have BK543 := n2_; have GW543 := n3_; have GE543 := n4_; have NB542_543 := n5_; have NB543_542 := n6_; clear n0_ n1_ n2_ n3_ n4_ n5_ n6_; clear hb hbox hg) | ((with_reducible refine gate_callee (f := 12) rfl ?_); refine goesL_ (some 22) rfl rfl Try.func12 (by kernel_rfl) rfl #[] rfl gS ?_; (with_reducible refine (spoorlaw11_lives.calls k  true _ A4.out).mono ?_); rintro e w92 ⟨rfl, hb⟩; refine ⟨_, rfl, ?_⟩; replace BK542 := Bx0 BK542 hb; replace BK543 := Bx0 BK543 hb; replace HB := Bs2 HB hb GE542.out GE543.out; (try clear hb); have hnb93 := NB542_543.out; have hnc93 := NB543_542.out; obtain ⟨hcz94_0, hcz94_1, hcz94_2, hcz94_3, hfz94_0, hfz94_1, hfz94_2, hfz94_3⟩ := cl4 BK542) | ((with_reducible refine gate_callee (f := 15) rfl ?_); refine goesL_ (some 26) rfl rfl Try.func15 (by kernel_rfl) rfl #[.agg #[.bool a0_0, .int .u64 a0_1, .int .u64 a0_2, .int .i64 a0_3]] rfl gS ?_; (with_reducible refine (msg_PutPrefix.calls k a0_0 a0_1 a0_2 a0_3 t545 t546 _ A6.out).mono ?_); rintro e w95 ⟨rfl, hb⟩; refine ⟨_, rfl, ?_⟩; replace BK542 := Bx0 BK542 hb; replace BK543 := Bx0 BK543 hb; replace HB := Bs2 HB hb GE542.out GE543.out; (try clear hb)) | ((with_reducible refine gate_callee (f := 17) rfl ?_); refine goesL_ (some 33) rfl rfl Try.func17 (by kernel_rfl) rfl #[.string (t545 ++ a2)] rfl gS ?_; (with_reducible refine (msg_GetPrefix.calls k (t545 ++ a2) t547 t548 t549 t550 t551 t552 _ A8.out).mono ?_); rintro e w96 ⟨rfl, hb⟩; refine ⟨_, rfl, ?_⟩; replace BK542 := Bx0 BK542 hb; replace BK543 := Bx0 BK543 hb; replace HB := Bs2 HB hb GE542.out GE543.out; (try clear hb)) | ((with_reducible refine gate_dst (N := 9) rfl ?_); refine box_event ?hg (N := 9) ?hd (cs := #[.bool false, .int .u64 0, .int .u64 0, .int .i64 0]) (t := 27) ?hr ?_; (case hd => rfl); (case hg => rfl); (case hr => first | (go_simp; done) | (go_simp; rfl)); intro gb553 hg w97 hbox hb; have n0_ := Bx0 BK542 hb; have n1_ := Bx0 BK543 hb; have n2_ := Bs2 HB hb GE542.out GE543.out; have n3_ := Ax (hbox); have n4_ := Gw2 HB hg GE542.out GE543.out; have n5_ := Gw2 HB hg GE542.out GE543.out; have n6_ := Nl0 BK542 hg; have n7_ := Nr0 BK542 hg; have n8_ := Nl0 BK543 hg; have n9_ := Nr0 BK543 hg; clear BK542; clear BK543; clear HB; have BK542 := n0_; have BK543 := n1_; have HB := n2_; have BK553 := n3_; have GW553 := n4_; have GE553 := n5_; have NB542_553 := n6_; have NB553_542 := n7_; have NB543_553 := n8_; have NB553_543 := n9_; clear n0_ n1_ n2_ n3_ n4_ n5_ n6_ n7_ n8_ n9_; clear hb hbox hg; have hnb98 := NB553_542.out; have hnc98 := NB542_553.out; have hnb99 := NB553_543.out; have hnc99 := NB543_553.out; obtain ⟨hcz100_0, hcz100_1, hcz100_2, hcz100_3, hfz100_0, hfz100_1, hfz100_2, hfz100_3⟩ := cl4 BK553; obtain ⟨hcz101_0, hcz101_1, hfz101_0, hfz101_1⟩ := cl2 BK543) | ((with_reducible refine gate_callee (f := 19) rfl ?_); refine goesL_ (some 39) rfl rfl Try.func19 (by kernel_rfl) rfl #[.agg #[.int .u8 a1_0, .int .i64 a1_1]] rfl gS ?_; (with_reducible refine (msg_PutAction.calls k a1_0 a1_1 t554 t555 _ A9.out).mono ?_); rintro e w102 ⟨rfl, hb⟩; refine ⟨_, rfl, ?_⟩; have n0_ := Bx4 BK542 hb NB542_553.out NB542_553.out NB542_553.out NB542_553.out; have n1_ := Bx4 BK543 hb NB543_553.out NB543_553.out NB543_553.out NB543_553.out; have n2_ := Ax (blk_below (g := gb553) (o := .cells #[.bool t547, .int .u64 t548, .int .u64 t549, .int .i64 t550] 27 (0, 0)) (by (with_reducible repeat (first | refine blk_drewN ?_ _ | refine blk_drew ?_ | refine blk_alloc ?_ _)); refine blk_put (cs := #[.bool t547, .int .u64 t548, .int .u64 t549, .int .i64 0]) ?_ 3 _ rfl; (with_reducible repeat (first | refine blk_drewN ?_ _ | refine blk_drew ?_ | refine blk_alloc ?_ _)); refine blk_put (cs := #[.bool t547, .int .u64 t548, .int .u64 0, .int .i64 0]) ?_ 2 _ rfl; (with_reducible repeat (first | refine blk_drewN ?_ _ | refine blk_drew ?_ | refine blk_alloc ?_ _)); refine blk_put (cs := #[.bool t547, .int .u64 0, .int .u64 0, .int .i64 0]) ?_ 1 _ rfl; (with_reducible repeat (first | refine blk_drewN ?_ _ | refine blk_drew ?_ | refine blk_alloc ?_ _)); refine blk_put (cs := #[.bool false, .int .u64 0, .int .u64 0, .int .i64 0]) ?_ 0 _ rfl; (with_reducible repeat (first | refine blk_drewN ?_ _ | refine blk_drew ?_ | refine blk_alloc ?_ _)); exact BK553.out) hb); have n3_ := Bs3 HB hb GE542.out GE543.out GE553.out; clear BK542; clear BK543; clear BK553; clear HB; have BK542 := n0_; have BK543 := n1_; have BK553 := n2_; have HB := n3_; clear n0_ n1_ n2_ n3_; (try clear hb)) | ((with_reducible refine gate_callee (f := 21) rfl ?_); refine goesL_ (some 46) rfl rfl Try.func21 (by kernel_rfl) rfl #[.string (t554 ++ a2)] rfl gS ?_; (with_reducible refine (msg_GetAction.calls k (t554 ++ a2) t556 t557 t558 t559 _ A11.out).mono ?_); rintro e w103 ⟨rfl, hb⟩; refine ⟨_, rfl, ?_⟩; replace BK542 := Bx0 BK542 hb; replace BK543 := Bx0 BK543 hb; replace BK553 := Bx0 BK553 hb; replace HB := Bs3 HB hb GE542.out GE543.out GE553.out; (try clear hb)) | ((with_reducible refine gate_dst (N := 14) rfl ?_); refine box_event ?hg (N := 14) ?hd (cs := #[.int .u8 0, .int .i64 0]) (t := 30) ?hr ?_; (case hd => rfl); (case hg => rfl); (case hr => first | (go_simp; done) | (go_simp; rfl)); intro gb560 hg w104 hbox hb; have n0_ := Bx0 BK542 hb; have n1_ := Bx0 BK543 hb; have n2_ := Bx0 BK553 hb; have n3_ := Bs3 HB hb GE542.out GE543.out GE553.out; have n4_ := Ax (hbox); have n5_ := Gw3 HB hg GE542.out GE543.out GE553.out; have n6_ := Gw3 HB hg GE542.out GE543.out GE553.out; have n7_ := Nl0 BK542 hg; have n8_ := Nr0 BK542 hg; have n9_ := Nl0 BK543 hg; have n10_ := Nr0 BK543 hg; have n11_ := Nl0 BK553 hg; have n12_ := Nr0 BK553 hg; clear BK542; clear BK543; clear BK553; clear HB; have BK542 := n0_; have BK543 := n1_; have BK553 := n2_; have HB := n3_; have BK560 := n4_; have GW560 := n5_; have GE560 := n6_; have NB542_560 := n7_; have NB560_542 := n8_; have NB543_560 := n9_; have NB560_543 := n10_; have NB553_560 := n11_; have NB560_553 := n12_; clear n0_ n1_ n2_ n3_ n4_ n5_ n6_ n7_ n8_ n9_ n10_ n11_ n12_; clear hb hbox hg; have hnb105 := NB560_542.out; have hnc105 := NB542_560.out; have hnb106 := NB560_543.out; have hnc106 := NB543_560.out; have hnb107 := NB560_553.out; have hnc107 := NB553_560.out; obtain ⟨hcz108_0, hcz108_1, hfz108_0, hfz108_1⟩ := cl2 BK560) | ((with_reducible refine gate_callee (f := 17) rfl ?_); refine goesL_ (some 52) rfl rfl Try.func17 (by kernel_rfl) rfl #[.string a2] rfl gS ?_; (with_reducible refine (msg_GetPrefix.calls k a2 t561 t562 t563 t564 t565 t566 _ A12.out).mono ?_); rintro e w109 ⟨rfl, hb⟩; refine ⟨_, rfl, ?_⟩; have n0_ := Bx2 BK542 hb NB542_560.out NB542_560.out; have n1_ := Bx2 BK543 hb NB543_560.out NB543_560.out; have n2_ := Bx2 BK553 hb NB553_560.out NB553_560.out; have n3_ := Ax (blk_below (g := gb560) (o := .cells #[.int .u8 t556, .int .i64 t557] 30 (0, 0)) (by (with_reducible repeat (first | refine blk_drewN ?_ _ | refine blk_drew ?_ | refine blk_alloc ?_ _)); refine blk_put (cs := #[.int .u8 t556, .int .i64 0]) ?_ 1 _ rfl; (with_reducible repeat (first | refine blk_drewN ?_ _ | refine blk_drew ?_ | refine blk_alloc ?_ _)); refine blk_put (cs := #[.int .u8 0, .int .i64 0]) ?_ 0 _ rfl; (with_reducible repeat (first | refine blk_drewN ?_ _ | refine blk_drew ?_ | refine blk_alloc ?_ _)); exact BK560.out) hb); have n4_ := Bs4 HB hb GE542.out GE543.out GE553.out GE560.out; clear BK542; clear BK543; clear BK553; clear BK560; clear HB; have BK542 := n0_; have BK543 := n1_; have BK553 := n2_; have BK560 := n3_; have HB := n4_; clear n0_ n1_ n2_ n3_ n4_; (try clear hb)) | ((with_reducible refine gate_dst (N := 17) rfl ?_); refine box_event ?hg (N := 17) ?hd (cs := #[.bool false, .int .u64 0, .int .u64 0, .int .i64 0]) (t := 27) ?hr ?_; (case hd => rfl); (case hg => rfl); (case hr => first | (go_simp; done) | (go_simp; rfl)); intro gb567 hg w110 hbox hb; have n0_ := Bx0 BK542 hb; have n1_ := Bx0 BK543 hb; have n2_ := Bx0 BK553 hb; have n3_ := Bx0 BK560 hb; have n4_ := Bs4 HB hb GE542.out GE543.out GE553.out GE560.out; have n5_ := Ax (hbox); have n6_ := Gw4 HB hg GE542.out GE543.out GE553.out GE560.out; have n7_ := Gw4 HB hg GE542.out GE543.out GE553.out GE560.out; have n8_ := Nl0 BK542 hg; have n9_ := Nr0 BK542 hg; have n10_ := Nl0 BK543 hg; have n11_ := Nr0 BK543 hg; have n12_ := Nl0 BK553 hg; have n13_ := Nr0 BK553 hg; have n14_ := Nl0 BK560 hg; have n15_ := Nr0 BK560 hg; clear BK542; clear BK543; clear BK553; clear BK560; clear HB; have BK542 := n0_; have BK543 := n1_; have BK553 := n2_; have BK560 := n3_; have HB := n4_; have BK567 := n5_; have GW567 := n6_; have GE567 := n7_; have NB542_567 := n8_; have NB567_542 := n9_; have NB543_567 := n10_; have NB567_543 := n11_; have NB553_567 := n12_; have NB567_553 := n13_; have NB560_567 := n14_; have NB567_560 := n15_; clear n0_ n1_ n2_ n3_ n4_ n5_ n6_ n7_ n8_ n9_ n10_ n11_ n12_ n13_ n14_ n15_; clear hb hbox hg; have hnb111 := NB567_542.out; have hnc111 := NB542_567.out; have hnb112 := NB567_543.out; have hnc112 := NB543_567.out; have hnb113 := NB567_553.out; have hnc113 := NB553_567.out; have hnb114 := NB567_560.out; have hnc114 := NB560_567.out; obtain ⟨hcz115_0, hcz115_1, hcz115_2, hcz115_3, hfz115_0, hfz115_1, hfz115_2, hfz115_3⟩ := cl4 BK567) | ((with_reducible refine gate_callee (f := 15) rfl ?_); refine goesL_ (some 58) rfl rfl Try.func15 (by kernel_rfl) rfl #[.agg #[.bool t561, .int .u64 t562, .int .u64 t563, .int .i64 t564]] rfl gS ?_; (with_reducible refine (msg_PutPrefix.calls k t561 t562 t563 t564 t568 t569 _ A13.out).mono ?_); rintro e w116 ⟨rfl, hb⟩; refine ⟨_, rfl, ?_⟩; have n0_ := Bx4 BK542 hb NB542_567.out NB542_567.out NB542_567.out NB542_567.out; have n1_ := Bx4 BK543 hb NB543_567.out NB543_567.out NB543_567.out NB543_567.out; have n2_ := Bx4 BK553 hb NB553_567.out NB553_567.out NB553_567.out NB553_567.out; have n3_ := Bx4 BK560 hb NB560_567.out NB560_567.out NB560_567.out NB560_567.out; have n4_ := Ax (blk_below (g := gb567) (o := .cells #[.bool t561, .int .u64 t562, .int .u64 t563, .int .i64 t564] 27 (0, 0)) (by (with_reducible repeat (first | refine blk_drewN ?_ _ | refine blk_drew ?_ | refine blk_alloc ?_ _)); refine blk_put (cs := #[.bool t561, .int .u64 t562, .int .u64 t563, .int .i64 0]) ?_ 3 _ rfl; (with_reducible repeat (first | refine blk_drewN ?_ _ | refine blk_drew ?_ | refine blk_alloc ?_ _)); refine blk_put (cs := #[.bool t561, .int .u64 t562, .int .u64 0, .int .i64 0]) ?_ 2 _ rfl; (with_reducible repeat (first | refine blk_drewN ?_ _ | refine blk_drew ?_ | refine blk_alloc ?_ _)); refine blk_put (cs := #[.bool t561, .int .u64 0, .int .u64 0, .int .i64 0]) ?_ 1 _ rfl; (with_reducible repeat (first | refine blk_drewN ?_ _ | refine blk_drew ?_ | refine blk_alloc ?_ _)); refine blk_put (cs := #[.bool false, .int .u64 0, .int .u64 0, .int .i64 0]) ?_ 0 _ rfl; (with_reducible repeat (first | refine blk_drewN ?_ _ | refine blk_drew ?_ | refine blk_alloc ?_ _)); exact BK567.out) hb); have n5_ := Bs5 HB hb GE542.out GE543.out GE553.out GE560.out GE567.out; clear BK542; clear BK543; clear BK553; clear BK560; clear BK567; clear HB; have BK542 := n0_; have BK543 := n1_; have BK553 := n2_; have BK560 := n3_; have BK567 := n4_; have HB := n5_; clear n0_ n1_ n2_ n3_ n4_ n5_; (try clear hb); obtain ⟨hcz117_0, hcz117_1, hcz117_2, hcz117_3, hfz117_0, hfz117_1, hfz117_2, hfz117_3⟩ := cl4 BK553; obtain ⟨hcz118_0, hcz118_1, hcz118_2, hcz118_3, hfz118_0, hfz118_1, hfz118_2, hfz118_3⟩ := cl4 BK542))
            go_ret
            exact ⟨eS, bw5 HB.out GE542.out GE543.out GE553.out GE560.out GE567.out⟩
           ·rw [if_neg c89] at H
            exact absurd H (by simp)
          ·rw [if_neg c88] at H
           exact absurd H (by simp)
         ·rw [if_neg c87] at H
          have c87b0 : (t566 == 0) = false := beq_eq_false_iff_ne.mpr c87
          have c87b1 : (t566 != 0) = true := bne_iff_ne.mpr c87
          obtain rfl := Option.some.inj H
          go_enter Try.func7, Try.ntmps7
          go_wp2_with (first | ((with_reducible refine gate_dst (N := 3) rfl ?_); refine box_event ?hg (N := 3) ?hd (cs := #[.bool a0_0, .int .u64 a0_1, .int .u64 a0_2, .int .i64 a0_3]) (t := 27) ?hr ?_; (case hd => rfl); (case hg => rfl); (case hr => first | (go_simp; done) | (go_simp; rfl)); intro gb542 hg w119 hbox hb; have n0_ := Bs0 HB hb; have n1_ := Ax (hbox); have n2_ := Gw0 HB hg; have n3_ := Gw0 HB hg; clear HB; have HB := n0_; have BK542 := n1_; have GW542 := n2_; have GE542 := n3_; clear n0_ n1_ n2_ n3_; clear hb hbox hg) | ((with_reducible refine gate_dst (N := 4) rfl ?_); refine box_event ?hg (N := 4) ?hd (cs := #[.int .u8 a1_0, .int .i64 a1_1]) (t := 30) ?hr ?_; (case hd => rfl); (case hg => rfl); (case hr => first | (go_simp; done) | (go_simp; rfl)); intro gb543 hg w120 hbox hb; have n0_ := Bx0 BK542 hb; have n1_ := Bs1 HB hb GE542.out; have n2_ := Ax (hbox); have n3_ := Gw1 HB hg GE542.out; have n4_ := Gw1 HB hg GE542.out; have n5_ := Nl0 BK542 hg; have n6_ := Nr0 BK542 hg; clear BK542; clear HB; have BK542 := n0_; have HB := n1_; have BK543 := n2_; have GW543 := n3_; have GE543 := n4_; have NB542_543 := n5_; have NB543_542 := n6_; clear n0_ n1_ n2_ n3_ n4_ n5_ n6_; clear hb hbox hg) | ((with_reducible refine gate_callee (f := 12) rfl ?_); refine goesL_ (some 22) rfl rfl Try.func12 (by kernel_rfl) rfl #[] rfl gS ?_; (with_reducible refine (spoorlaw11_lives.calls k  true _ A4.out).mono ?_); rintro e w121 ⟨rfl, hb⟩; refine ⟨_, rfl, ?_⟩; replace BK542 := Bx0 BK542 hb; replace BK543 := Bx0 BK543 hb; replace HB := Bs2 HB hb GE542.out GE543.out; (try clear hb); have hnb122 := NB542_543.out; have hnc122 := NB543_542.out; obtain ⟨hcz123_0, hcz123_1, hcz123_2, hcz123_3, hfz123_0, hfz123_1, hfz123_2, hfz123_3⟩ := cl4 BK542) | ((with_reducible refine gate_callee (f := 15) rfl ?_); refine goesL_ (some 26) rfl rfl Try.func15 (by kernel_rfl) rfl #[.agg #[.bool a0_0, .int .u64 a0_1, .int .u64 a0_2, .int .i64 a0_3]] rfl gS ?_; (with_reducible refine (msg_PutPrefix.calls k a0_0 a0_1 a0_2 a0_3 t545 t546 _ A6.out).mono ?_); rintro e w124 ⟨rfl, hb⟩; refine ⟨_, rfl, ?_⟩; replace BK542 := Bx0 BK542 hb; replace BK543 := Bx0 BK543 hb; replace HB := Bs2 HB hb GE542.out GE543.out; (try clear hb)) | ((with_reducible refine gate_callee (f := 17) rfl ?_); refine goesL_ (some 33) rfl rfl Try.func17 (by kernel_rfl) rfl #[.string (t545 ++ a2)] rfl gS ?_; (with_reducible refine (msg_GetPrefix.calls k (t545 ++ a2) t547 t548 t549 t550 t551 t552 _ A8.out).mono ?_); rintro e w125 ⟨rfl, hb⟩; refine ⟨_, rfl, ?_⟩; replace BK542 := Bx0 BK542 hb; replace BK543 := Bx0 BK543 hb; replace HB := Bs2 HB hb GE542.out GE543.out; (try clear hb)) | ((with_reducible refine gate_dst (N := 9) rfl ?_); refine box_event ?hg (N := 9) ?hd (cs := #[.bool false, .int .u64 0, .int .u64 0, .int .i64 0]) (t := 27) ?hr ?_; (case hd => rfl); (case hg => rfl); (case hr => first | (go_simp; done) | (go_simp; rfl)); intro gb553 hg w126 hbox hb; have n0_ := Bx0 BK542 hb; have n1_ := Bx0 BK543 hb; have n2_ := Bs2 HB hb GE542.out GE543.out; have n3_ := Ax (hbox); have n4_ := Gw2 HB hg GE542.out GE543.out; have n5_ := Gw2 HB hg GE542.out GE543.out; have n6_ := Nl0 BK542 hg; have n7_ := Nr0 BK542 hg; have n8_ := Nl0 BK543 hg; have n9_ := Nr0 BK543 hg; clear BK542; clear BK543; clear HB; have BK542 := n0_; have BK543 := n1_; have HB := n2_; have BK553 := n3_; have GW553 := n4_; have GE553 := n5_; have NB542_553 := n6_; have NB553_542 := n7_; have NB543_553 := n8_; have NB553_543 := n9_; clear n0_ n1_ n2_ n3_ n4_ n5_ n6_ n7_ n8_ n9_; clear hb hbox hg; have hnb127 := NB553_542.out; have hnc127 := NB542_553.out; have hnb128 := NB553_543.out; have hnc128 := NB543_553.out; obtain ⟨hcz129_0, hcz129_1, hcz129_2, hcz129_3, hfz129_0, hfz129_1, hfz129_2, hfz129_3⟩ := cl4 BK553; obtain ⟨hcz130_0, hcz130_1, hfz130_0, hfz130_1⟩ := cl2 BK543) | ((with_reducible refine gate_callee (f := 19) rfl ?_); refine goesL_ (some 39) rfl rfl Try.func19 (by kernel_rfl) rfl #[.agg #[.int .u8 a1_0, .int .i64 a1_1]] rfl gS ?_; (with_reducible refine (msg_PutAction.calls k a1_0 a1_1 t554 t555 _ A9.out).mono ?_); rintro e w131 ⟨rfl, hb⟩; refine ⟨_, rfl, ?_⟩; have n0_ := Bx4 BK542 hb NB542_553.out NB542_553.out NB542_553.out NB542_553.out; have n1_ := Bx4 BK543 hb NB543_553.out NB543_553.out NB543_553.out NB543_553.out; have n2_ := Ax (blk_below (g := gb553) (o := .cells #[.bool t547, .int .u64 t548, .int .u64 t549, .int .i64 t550] 27 (0, 0)) (by (with_reducible repeat (first | refine blk_drewN ?_ _ | refine blk_drew ?_ | refine blk_alloc ?_ _)); refine blk_put (cs := #[.bool t547, .int .u64 t548, .int .u64 t549, .int .i64 0]) ?_ 3 _ rfl; (with_reducible repeat (first | refine blk_drewN ?_ _ | refine blk_drew ?_ | refine blk_alloc ?_ _)); refine blk_put (cs := #[.bool t547, .int .u64 t548, .int .u64 0, .int .i64 0]) ?_ 2 _ rfl; (with_reducible repeat (first | refine blk_drewN ?_ _ | refine blk_drew ?_ | refine blk_alloc ?_ _)); refine blk_put (cs := #[.bool t547, .int .u64 0, .int .u64 0, .int .i64 0]) ?_ 1 _ rfl; (with_reducible repeat (first | refine blk_drewN ?_ _ | refine blk_drew ?_ | refine blk_alloc ?_ _)); refine blk_put (cs := #[.bool false, .int .u64 0, .int .u64 0, .int .i64 0]) ?_ 0 _ rfl; (with_reducible repeat (first | refine blk_drewN ?_ _ | refine blk_drew ?_ | refine blk_alloc ?_ _)); exact BK553.out) hb); have n3_ := Bs3 HB hb GE542.out GE543.out GE553.out; clear BK542; clear BK543; clear BK553; clear HB; have BK542 := n0_; have BK543 := n1_; have BK553 := n2_; have HB := n3_; clear n0_ n1_ n2_ n3_; (try clear hb)) | ((with_reducible refine gate_callee (f := 21) rfl ?_); refine goesL_ (some 46) rfl rfl Try.func21 (by kernel_rfl) rfl #[.string (t554 ++ a2)] rfl gS ?_; (with_reducible refine (msg_GetAction.calls k (t554 ++ a2) t556 t557 t558 t559 _ A11.out).mono ?_); rintro e w132 ⟨rfl, hb⟩; refine ⟨_, rfl, ?_⟩; replace BK542 := Bx0 BK542 hb; replace BK543 := Bx0 BK543 hb; replace BK553 := Bx0 BK553 hb; replace HB := Bs3 HB hb GE542.out GE543.out GE553.out; (try clear hb)) | ((with_reducible refine gate_dst (N := 14) rfl ?_); refine box_event ?hg (N := 14) ?hd (cs := #[.int .u8 0, .int .i64 0]) (t := 30) ?hr ?_; (case hd => rfl); (case hg => rfl); (case hr => first | (go_simp; done) | (go_simp; rfl)); intro gb560 hg w133 hbox hb; have n0_ := Bx0 BK542 hb; have n1_ := Bx0 BK543 hb; have n2_ := Bx0 BK553 hb; have n3_ := Bs3 HB hb GE542.out GE543.out GE553.out; have n4_ := Ax (hbox); have n5_ := Gw3 HB hg GE542.out GE543.out GE553.out; have n6_ := Gw3 HB hg GE542.out GE543.out GE553.out; have n7_ := Nl0 BK542 hg; have n8_ := Nr0 BK542 hg; have n9_ := Nl0 BK543 hg; have n10_ := Nr0 BK543 hg; have n11_ := Nl0 BK553 hg; have n12_ := Nr0 BK553 hg; clear BK542; clear BK543; clear BK553; clear HB; have BK542 := n0_; have BK543 := n1_; have BK553 := n2_; have HB := n3_; have BK560 := n4_; have GW560 := n5_; have GE560 := n6_; have NB542_560 := n7_; have NB560_542 := n8_; have NB543_560 := n9_; have NB560_543 := n10_; have NB553_560 := n11_; have NB560_553 := n12_; clear n0_ n1_ n2_ n3_ n4_ n5_ n6_ n7_ n8_ n9_ n10_ n11_ n12_; clear hb hbox hg; have hnb134 := NB560_542.out; have hnc134 := NB542_560.out; have hnb135 := NB560_543.out; have hnc135 := NB543_560.out; have hnb136 := NB560_553.out; have hnc136 := NB553_560.out; obtain ⟨hcz137_0, hcz137_1, hfz137_0, hfz137_1⟩ := cl2 BK560) | ((with_reducible refine gate_callee (f := 17) rfl ?_); refine goesL_ (some 52) rfl rfl Try.func17 (by kernel_rfl) rfl #[.string a2] rfl gS ?_; (with_reducible refine (msg_GetPrefix.calls k a2 t561 t562 t563 t564 t565 t566 _ A12.out).mono ?_); rintro e w138 ⟨rfl, hb⟩; refine ⟨_, rfl, ?_⟩; have n0_ := Bx2 BK542 hb NB542_560.out NB542_560.out; have n1_ := Bx2 BK543 hb NB543_560.out NB543_560.out; have n2_ := Bx2 BK553 hb NB553_560.out NB553_560.out; have n3_ := Ax (blk_below (g := gb560) (o := .cells #[.int .u8 t556, .int .i64 t557] 30 (0, 0)) (by (with_reducible repeat (first | refine blk_drewN ?_ _ | refine blk_drew ?_ | refine blk_alloc ?_ _)); refine blk_put (cs := #[.int .u8 t556, .int .i64 0]) ?_ 1 _ rfl; (with_reducible repeat (first | refine blk_drewN ?_ _ | refine blk_drew ?_ | refine blk_alloc ?_ _)); refine blk_put (cs := #[.int .u8 0, .int .i64 0]) ?_ 0 _ rfl; (with_reducible repeat (first | refine blk_drewN ?_ _ | refine blk_drew ?_ | refine blk_alloc ?_ _)); exact BK560.out) hb); have n4_ := Bs4 HB hb GE542.out GE543.out GE553.out GE560.out; clear BK542; clear BK543; clear BK553; clear BK560; clear HB; have BK542 := n0_; have BK543 := n1_; have BK553 := n2_; have BK560 := n3_; have HB := n4_; clear n0_ n1_ n2_ n3_ n4_; (try clear hb)) | ((with_reducible refine gate_dst (N := 17) rfl ?_); refine box_event ?hg (N := 17) ?hd (cs := #[.bool false, .int .u64 0, .int .u64 0, .int .i64 0]) (t := 27) ?hr ?_; (case hd => rfl); (case hg => rfl); (case hr => first | (go_simp; done) | (go_simp; rfl)); intro gb567 hg w139 hbox hb; have n0_ := Bx0 BK542 hb; have n1_ := Bx0 BK543 hb; have n2_ := Bx0 BK553 hb; have n3_ := Bx0 BK560 hb; have n4_ := Bs4 HB hb GE542.out GE543.out GE553.out GE560.out; have n5_ := Ax (hbox); have n6_ := Gw4 HB hg GE542.out GE543.out GE553.out GE560.out; have n7_ := Gw4 HB hg GE542.out GE543.out GE553.out GE560.out; have n8_ := Nl0 BK542 hg; have n9_ := Nr0 BK542 hg; have n10_ := Nl0 BK543 hg; have n11_ := Nr0 BK543 hg; have n12_ := Nl0 BK553 hg; have n13_ := Nr0 BK553 hg; have n14_ := Nl0 BK560 hg; have n15_ := Nr0 BK560 hg; clear BK542; clear BK543; clear BK553; clear BK560; clear HB; have BK542 := n0_; have BK543 := n1_; have BK553 := n2_; have BK560 := n3_; have HB := n4_; have BK567 := n5_; have GW567 := n6_; have GE567 := n7_; have NB542_567 := n8_; have NB567_542 := n9_; have NB543_567 := n10_; have NB567_543 := n11_; have NB553_567 := n12_; have NB567_553 := n13_; have NB560_567 := n14_; have NB567_560 := n15_; clear n0_ n1_ n2_ n3_ n4_ n5_ n6_ n7_ n8_ n9_ n10_ n11_ n12_ n13_ n14_ n15_; clear hb hbox hg; have hnb140 := NB567_542.out; have hnc140 := NB542_567.out; have hnb141 := NB567_543.out; have hnc141 := NB543_567.out; have hnb142 := NB567_553.out; have hnc142 := NB553_567.out; have hnb143 := NB567_560.out; have hnc143 := NB560_567.out; obtain ⟨hcz144_0, hcz144_1, hcz144_2, hcz144_3, hfz144_0, hfz144_1, hfz144_2, hfz144_3⟩ := cl4 BK567) | ((with_reducible refine gate_callee (f := 15) rfl ?_); refine goesL_ (some 58) rfl rfl Try.func15 (by kernel_rfl) rfl #[.agg #[.bool t561, .int .u64 t562, .int .u64 t563, .int .i64 t564]] rfl gS ?_; (with_reducible refine (msg_PutPrefix.calls k t561 t562 t563 t564 t568 t569 _ A13.out).mono ?_); rintro e w145 ⟨rfl, hb⟩; refine ⟨_, rfl, ?_⟩; have n0_ := Bx4 BK542 hb NB542_567.out NB542_567.out NB542_567.out NB542_567.out; have n1_ := Bx4 BK543 hb NB543_567.out NB543_567.out NB543_567.out NB543_567.out; have n2_ := Bx4 BK553 hb NB553_567.out NB553_567.out NB553_567.out NB553_567.out; have n3_ := Bx4 BK560 hb NB560_567.out NB560_567.out NB560_567.out NB560_567.out; have n4_ := Ax (blk_below (g := gb567) (o := .cells #[.bool t561, .int .u64 t562, .int .u64 t563, .int .i64 t564] 27 (0, 0)) (by (with_reducible repeat (first | refine blk_drewN ?_ _ | refine blk_drew ?_ | refine blk_alloc ?_ _)); refine blk_put (cs := #[.bool t561, .int .u64 t562, .int .u64 t563, .int .i64 0]) ?_ 3 _ rfl; (with_reducible repeat (first | refine blk_drewN ?_ _ | refine blk_drew ?_ | refine blk_alloc ?_ _)); refine blk_put (cs := #[.bool t561, .int .u64 t562, .int .u64 0, .int .i64 0]) ?_ 2 _ rfl; (with_reducible repeat (first | refine blk_drewN ?_ _ | refine blk_drew ?_ | refine blk_alloc ?_ _)); refine blk_put (cs := #[.bool t561, .int .u64 0, .int .u64 0, .int .i64 0]) ?_ 1 _ rfl; (with_reducible repeat (first | refine blk_drewN ?_ _ | refine blk_drew ?_ | refine blk_alloc ?_ _)); refine blk_put (cs := #[.bool false, .int .u64 0, .int .u64 0, .int .i64 0]) ?_ 0 _ rfl; (with_reducible repeat (first | refine blk_drewN ?_ _ | refine blk_drew ?_ | refine blk_alloc ?_ _)); exact BK567.out) hb); have n5_ := Bs5 HB hb GE542.out GE543.out GE553.out GE560.out GE567.out; clear BK542; clear BK543; clear BK553; clear BK560; clear BK567; clear HB; have BK542 := n0_; have BK543 := n1_; have BK553 := n2_; have BK560 := n3_; have BK567 := n4_; have HB := n5_; clear n0_ n1_ n2_ n3_ n4_ n5_; (try clear hb); obtain ⟨hcz146_0, hcz146_1, hcz146_2, hcz146_3, hfz146_0, hfz146_1, hfz146_2, hfz146_3⟩ := cl4 BK553; obtain ⟨hcz147_0, hcz147_1, hcz147_2, hcz147_3, hfz147_0, hfz147_1, hfz147_2, hfz147_3⟩ := cl4 BK542))
          go_ret
          exact ⟨eS, bw5 HB.out GE542.out GE543.out GE553.out GE560.out GE567.out⟩
       ·rw [if_neg c17] at H
        exact absurd H (by simp)
      ·rw [if_neg c16] at H
       exact absurd H (by simp)
     ·rw [if_neg c15] at H
      exact absurd H (by simp)
    ·rw [if_neg c14] at H
     have c14b0 : (t546 == 0) = false := beq_eq_false_iff_ne.mpr c14
     have c14b1 : (t546 != 0) = true := bne_iff_ne.mpr c14
     by_cases c148 : t555 = 0
     ·rw [if_pos c148] at H
      have c148b0 : (t555 == 0) = true := beq_iff_eq.mpr c148
      have c148b1 : (t555 != 0) = false := bne_eq_false_iff_eq.mpr c148
      clear c148
      by_cases c149 : t559 = 0
      ·rw [if_pos c149] at H
       have c149b0 : (t559 == 0) = true := beq_iff_eq.mpr c149
       have c149b1 : (t559 != 0) = false := bne_eq_false_iff_eq.mpr c149
       clear c149
       by_cases c150 : (t556 == a1_0 && (t557 == a1_1)) = true
       ·rw [if_pos c150] at H
        have c150b0 : (t556 == a1_0 && (t557 == a1_1)) = true := c150
        (try (have c150b1 : decide (t556 = a1_0 && (t557 == a1_1)) = true := by simpa using c150))
        (try (have c150b2 : (t556 == a1_0 && (t557 == a1_1)) = true := by simpa using c150))
        clear c150
        by_cases c151 : t558.toList = a2.toList
        ·rw [if_pos c151] at H
         have c151b0 : (t558.toList == a2.toList) = true := beq_iff_eq.mpr c151
         have c151b1 : (t558.toList != a2.toList) = false := bne_eq_false_iff_eq.mpr c151
         clear c151
         by_cases c152 : t566 = 0
         ·rw [if_pos c152] at H
          have c152b0 : (t566 == 0) = true := beq_iff_eq.mpr c152
          have c152b1 : (t566 != 0) = false := bne_eq_false_iff_eq.mpr c152
          clear c152
          by_cases c153 : t569 = 0
          ·rw [if_pos c153] at H
           have c153b0 : (t569 == 0) = true := beq_iff_eq.mpr c153
           have c153b1 : (t569 != 0) = false := bne_eq_false_iff_eq.mpr c153
           clear c153
           by_cases c154 : t568.size + t565.size ≤ 9223372036854775807
           ·rw [if_pos c154] at H
            have c154b0 := eq_true c154
            have c154b1 : decide (t568.size + t565.size ≤ 9223372036854775807) = true := decide_eq_true c154
            try have c154b2 : (9223372036854775807 < t568.size + t565.size) = False := eq_false (Nat.not_lt.2 c154)
            obtain rfl := Option.some.inj H
            go_enter Try.func7, Try.ntmps7
            go_wp2_with (first | ((with_reducible refine gate_dst (N := 3) rfl ?_); refine box_event ?hg (N := 3) ?hd (cs := #[.bool a0_0, .int .u64 a0_1, .int .u64 a0_2, .int .i64 a0_3]) (t := 27) ?hr ?_; (case hd => rfl); (case hg => rfl); (case hr => first | (go_simp; done) | (go_simp; rfl)); intro gb542 hg w155 hbox hb; have n0_ := Bs0 HB hb; have n1_ := Ax (hbox); have n2_ := Gw0 HB hg; have n3_ := Gw0 HB hg; clear HB; have HB := n0_; have BK542 := n1_; have GW542 := n2_; have GE542 := n3_; clear n0_ n1_ n2_ n3_; clear hb hbox hg) | ((with_reducible refine gate_dst (N := 4) rfl ?_); refine box_event ?hg (N := 4) ?hd (cs := #[.int .u8 a1_0, .int .i64 a1_1]) (t := 30) ?hr ?_; (case hd => rfl); (case hg => rfl); (case hr => first | (go_simp; done) | (go_simp; rfl)); intro gb543 hg w156 hbox hb; have n0_ := Bx0 BK542 hb; have n1_ := Bs1 HB hb GE542.out; have n2_ := Ax (hbox); have n3_ := Gw1 HB hg GE542.out; have n4_ := Gw1 HB hg GE542.out; have n5_ := Nl0 BK542 hg; have n6_ := Nr0 BK542 hg; clear BK542; clear HB; have BK542 := n0_; have HB := n1_; have BK543 := n2_; have GW543 := n3_; have GE543 := n4_; have NB542_543 := n5_; have NB543_542 := n6_; clear n0_ n1_ n2_ n3_ n4_ n5_ n6_; clear hb hbox hg) | ((with_reducible refine gate_callee (f := 12) rfl ?_); refine goesL_ (some 22) rfl rfl Try.func12 (by kernel_rfl) rfl #[] rfl gS ?_; (with_reducible refine (spoorlaw11_lives.calls k  true _ A4.out).mono ?_); rintro e w157 ⟨rfl, hb⟩; refine ⟨_, rfl, ?_⟩; replace BK542 := Bx0 BK542 hb; replace BK543 := Bx0 BK543 hb; replace HB := Bs2 HB hb GE542.out GE543.out; (try clear hb); have hnb158 := NB542_543.out; have hnc158 := NB543_542.out; obtain ⟨hcz159_0, hcz159_1, hcz159_2, hcz159_3, hfz159_0, hfz159_1, hfz159_2, hfz159_3⟩ := cl4 BK542) | ((with_reducible refine gate_callee (f := 15) rfl ?_); refine goesL_ (some 26) rfl rfl Try.func15 (by kernel_rfl) rfl #[.agg #[.bool a0_0, .int .u64 a0_1, .int .u64 a0_2, .int .i64 a0_3]] rfl gS ?_; (with_reducible refine (msg_PutPrefix.calls k a0_0 a0_1 a0_2 a0_3 t545 t546 _ A6.out).mono ?_); rintro e w160 ⟨rfl, hb⟩; refine ⟨_, rfl, ?_⟩; replace BK542 := Bx0 BK542 hb; replace BK543 := Bx0 BK543 hb; replace HB := Bs2 HB hb GE542.out GE543.out; (try clear hb)) | ((with_reducible refine gate_callee (f := 17) rfl ?_); refine goesL_ (some 33) rfl rfl Try.func17 (by kernel_rfl) rfl #[.string (t545 ++ a2)] rfl gS ?_; (with_reducible refine (msg_GetPrefix.calls k (t545 ++ a2) t547 t548 t549 t550 t551 t552 _ A8.out).mono ?_); rintro e w161 ⟨rfl, hb⟩; refine ⟨_, rfl, ?_⟩; replace BK542 := Bx0 BK542 hb; replace BK543 := Bx0 BK543 hb; replace HB := Bs2 HB hb GE542.out GE543.out; (try clear hb)) | ((with_reducible refine gate_dst (N := 9) rfl ?_); refine box_event ?hg (N := 9) ?hd (cs := #[.bool false, .int .u64 0, .int .u64 0, .int .i64 0]) (t := 27) ?hr ?_; (case hd => rfl); (case hg => rfl); (case hr => first | (go_simp; done) | (go_simp; rfl)); intro gb553 hg w162 hbox hb; have n0_ := Bx0 BK542 hb; have n1_ := Bx0 BK543 hb; have n2_ := Bs2 HB hb GE542.out GE543.out; have n3_ := Ax (hbox); have n4_ := Gw2 HB hg GE542.out GE543.out; have n5_ := Gw2 HB hg GE542.out GE543.out; have n6_ := Nl0 BK542 hg; have n7_ := Nr0 BK542 hg; have n8_ := Nl0 BK543 hg; have n9_ := Nr0 BK543 hg; clear BK542; clear BK543; clear HB; have BK542 := n0_; have BK543 := n1_; have HB := n2_; have BK553 := n3_; have GW553 := n4_; have GE553 := n5_; have NB542_553 := n6_; have NB553_542 := n7_; have NB543_553 := n8_; have NB553_543 := n9_; clear n0_ n1_ n2_ n3_ n4_ n5_ n6_ n7_ n8_ n9_; clear hb hbox hg; have hnb163 := NB553_542.out; have hnc163 := NB542_553.out; have hnb164 := NB553_543.out; have hnc164 := NB543_553.out; obtain ⟨hcz165_0, hcz165_1, hcz165_2, hcz165_3, hfz165_0, hfz165_1, hfz165_2, hfz165_3⟩ := cl4 BK553; obtain ⟨hcz166_0, hcz166_1, hfz166_0, hfz166_1⟩ := cl2 BK543) | ((with_reducible refine gate_callee (f := 19) rfl ?_); refine goesL_ (some 39) rfl rfl Try.func19 (by kernel_rfl) rfl #[.agg #[.int .u8 a1_0, .int .i64 a1_1]] rfl gS ?_; (with_reducible refine (msg_PutAction.calls k a1_0 a1_1 t554 t555 _ A9.out).mono ?_); rintro e w167 ⟨rfl, hb⟩; refine ⟨_, rfl, ?_⟩; have n0_ := Bx4 BK542 hb NB542_553.out NB542_553.out NB542_553.out NB542_553.out; have n1_ := Bx4 BK543 hb NB543_553.out NB543_553.out NB543_553.out NB543_553.out; have n2_ := Ax (blk_below (g := gb553) (o := .cells #[.bool t547, .int .u64 t548, .int .u64 t549, .int .i64 t550] 27 (0, 0)) (by (with_reducible repeat (first | refine blk_drewN ?_ _ | refine blk_drew ?_ | refine blk_alloc ?_ _)); refine blk_put (cs := #[.bool t547, .int .u64 t548, .int .u64 t549, .int .i64 0]) ?_ 3 _ rfl; (with_reducible repeat (first | refine blk_drewN ?_ _ | refine blk_drew ?_ | refine blk_alloc ?_ _)); refine blk_put (cs := #[.bool t547, .int .u64 t548, .int .u64 0, .int .i64 0]) ?_ 2 _ rfl; (with_reducible repeat (first | refine blk_drewN ?_ _ | refine blk_drew ?_ | refine blk_alloc ?_ _)); refine blk_put (cs := #[.bool t547, .int .u64 0, .int .u64 0, .int .i64 0]) ?_ 1 _ rfl; (with_reducible repeat (first | refine blk_drewN ?_ _ | refine blk_drew ?_ | refine blk_alloc ?_ _)); refine blk_put (cs := #[.bool false, .int .u64 0, .int .u64 0, .int .i64 0]) ?_ 0 _ rfl; (with_reducible repeat (first | refine blk_drewN ?_ _ | refine blk_drew ?_ | refine blk_alloc ?_ _)); exact BK553.out) hb); have n3_ := Bs3 HB hb GE542.out GE543.out GE553.out; clear BK542; clear BK543; clear BK553; clear HB; have BK542 := n0_; have BK543 := n1_; have BK553 := n2_; have HB := n3_; clear n0_ n1_ n2_ n3_; (try clear hb)) | ((with_reducible refine gate_callee (f := 21) rfl ?_); refine goesL_ (some 46) rfl rfl Try.func21 (by kernel_rfl) rfl #[.string (t554 ++ a2)] rfl gS ?_; (with_reducible refine (msg_GetAction.calls k (t554 ++ a2) t556 t557 t558 t559 _ A11.out).mono ?_); rintro e w168 ⟨rfl, hb⟩; refine ⟨_, rfl, ?_⟩; replace BK542 := Bx0 BK542 hb; replace BK543 := Bx0 BK543 hb; replace BK553 := Bx0 BK553 hb; replace HB := Bs3 HB hb GE542.out GE543.out GE553.out; (try clear hb)) | ((with_reducible refine gate_dst (N := 14) rfl ?_); refine box_event ?hg (N := 14) ?hd (cs := #[.int .u8 0, .int .i64 0]) (t := 30) ?hr ?_; (case hd => rfl); (case hg => rfl); (case hr => first | (go_simp; done) | (go_simp; rfl)); intro gb560 hg w169 hbox hb; have n0_ := Bx0 BK542 hb; have n1_ := Bx0 BK543 hb; have n2_ := Bx0 BK553 hb; have n3_ := Bs3 HB hb GE542.out GE543.out GE553.out; have n4_ := Ax (hbox); have n5_ := Gw3 HB hg GE542.out GE543.out GE553.out; have n6_ := Gw3 HB hg GE542.out GE543.out GE553.out; have n7_ := Nl0 BK542 hg; have n8_ := Nr0 BK542 hg; have n9_ := Nl0 BK543 hg; have n10_ := Nr0 BK543 hg; have n11_ := Nl0 BK553 hg; have n12_ := Nr0 BK553 hg; clear BK542; clear BK543; clear BK553; clear HB; have BK542 := n0_; have BK543 := n1_; have BK553 := n2_; have HB := n3_; have BK560 := n4_; have GW560 := n5_; have GE560 := n6_; have NB542_560 := n7_; have NB560_542 := n8_; have NB543_560 := n9_; have NB560_543 := n10_; have NB553_560 := n11_; have NB560_553 := n12_; clear n0_ n1_ n2_ n3_ n4_ n5_ n6_ n7_ n8_ n9_ n10_ n11_ n12_; clear hb hbox hg; have hnb170 := NB560_542.out; have hnc170 := NB542_560.out; have hnb171 := NB560_543.out; have hnc171 := NB543_560.out; have hnb172 := NB560_553.out; have hnc172 := NB553_560.out; obtain ⟨hcz173_0, hcz173_1, hfz173_0, hfz173_1⟩ := cl2 BK560) | ((with_reducible refine gate_callee (f := 17) rfl ?_); refine goesL_ (some 52) rfl rfl Try.func17 (by kernel_rfl) rfl #[.string a2] rfl gS ?_; (with_reducible refine (msg_GetPrefix.calls k a2 t561 t562 t563 t564 t565 t566 _ A12.out).mono ?_); rintro e w174 ⟨rfl, hb⟩; refine ⟨_, rfl, ?_⟩; have n0_ := Bx2 BK542 hb NB542_560.out NB542_560.out; have n1_ := Bx2 BK543 hb NB543_560.out NB543_560.out; have n2_ := Bx2 BK553 hb NB553_560.out NB553_560.out; have n3_ := Ax (blk_below (g := gb560) (o := .cells #[.int .u8 t556, .int .i64 t557] 30 (0, 0)) (by (with_reducible repeat (first | refine blk_drewN ?_ _ | refine blk_drew ?_ | refine blk_alloc ?_ _)); refine blk_put (cs := #[.int .u8 t556, .int .i64 0]) ?_ 1 _ rfl; (with_reducible repeat (first | refine blk_drewN ?_ _ | refine blk_drew ?_ | refine blk_alloc ?_ _)); refine blk_put (cs := #[.int .u8 0, .int .i64 0]) ?_ 0 _ rfl; (with_reducible repeat (first | refine blk_drewN ?_ _ | refine blk_drew ?_ | refine blk_alloc ?_ _)); exact BK560.out) hb); have n4_ := Bs4 HB hb GE542.out GE543.out GE553.out GE560.out; clear BK542; clear BK543; clear BK553; clear BK560; clear HB; have BK542 := n0_; have BK543 := n1_; have BK553 := n2_; have BK560 := n3_; have HB := n4_; clear n0_ n1_ n2_ n3_ n4_; (try clear hb)) | ((with_reducible refine gate_dst (N := 17) rfl ?_); refine box_event ?hg (N := 17) ?hd (cs := #[.bool false, .int .u64 0, .int .u64 0, .int .i64 0]) (t := 27) ?hr ?_; (case hd => rfl); (case hg => rfl); (case hr => first | (go_simp; done) | (go_simp; rfl)); intro gb567 hg w175 hbox hb; have n0_ := Bx0 BK542 hb; have n1_ := Bx0 BK543 hb; have n2_ := Bx0 BK553 hb; have n3_ := Bx0 BK560 hb; have n4_ := Bs4 HB hb GE542.out GE543.out GE553.out GE560.out; have n5_ := Ax (hbox); have n6_ := Gw4 HB hg GE542.out GE543.out GE553.out GE560.out; have n7_ := Gw4 HB hg GE542.out GE543.out GE553.out GE560.out; have n8_ := Nl0 BK542 hg; have n9_ := Nr0 BK542 hg; have n10_ := Nl0 BK543 hg; have n11_ := Nr0 BK543 hg; have n12_ := Nl0 BK553 hg; have n13_ := Nr0 BK553 hg; have n14_ := Nl0 BK560 hg; have n15_ := Nr0 BK560 hg; clear BK542; clear BK543; clear BK553; clear BK560; clear HB; have BK542 := n0_; have BK543 := n1_; have BK553 := n2_; have BK560 := n3_; have HB := n4_; have BK567 := n5_; have GW567 := n6_; have GE567 := n7_; have NB542_567 := n8_; have NB567_542 := n9_; have NB543_567 := n10_; have NB567_543 := n11_; have NB553_567 := n12_; have NB567_553 := n13_; have NB560_567 := n14_; have NB567_560 := n15_; clear n0_ n1_ n2_ n3_ n4_ n5_ n6_ n7_ n8_ n9_ n10_ n11_ n12_ n13_ n14_ n15_; clear hb hbox hg; have hnb176 := NB567_542.out; have hnc176 := NB542_567.out; have hnb177 := NB567_543.out; have hnc177 := NB543_567.out; have hnb178 := NB567_553.out; have hnc178 := NB553_567.out; have hnb179 := NB567_560.out; have hnc179 := NB560_567.out; obtain ⟨hcz180_0, hcz180_1, hcz180_2, hcz180_3, hfz180_0, hfz180_1, hfz180_2, hfz180_3⟩ := cl4 BK567) | ((with_reducible refine gate_callee (f := 15) rfl ?_); refine goesL_ (some 58) rfl rfl Try.func15 (by kernel_rfl) rfl #[.agg #[.bool t561, .int .u64 t562, .int .u64 t563, .int .i64 t564]] rfl gS ?_; (with_reducible refine (msg_PutPrefix.calls k t561 t562 t563 t564 t568 t569 _ A13.out).mono ?_); rintro e w181 ⟨rfl, hb⟩; refine ⟨_, rfl, ?_⟩; have n0_ := Bx4 BK542 hb NB542_567.out NB542_567.out NB542_567.out NB542_567.out; have n1_ := Bx4 BK543 hb NB543_567.out NB543_567.out NB543_567.out NB543_567.out; have n2_ := Bx4 BK553 hb NB553_567.out NB553_567.out NB553_567.out NB553_567.out; have n3_ := Bx4 BK560 hb NB560_567.out NB560_567.out NB560_567.out NB560_567.out; have n4_ := Ax (blk_below (g := gb567) (o := .cells #[.bool t561, .int .u64 t562, .int .u64 t563, .int .i64 t564] 27 (0, 0)) (by (with_reducible repeat (first | refine blk_drewN ?_ _ | refine blk_drew ?_ | refine blk_alloc ?_ _)); refine blk_put (cs := #[.bool t561, .int .u64 t562, .int .u64 t563, .int .i64 0]) ?_ 3 _ rfl; (with_reducible repeat (first | refine blk_drewN ?_ _ | refine blk_drew ?_ | refine blk_alloc ?_ _)); refine blk_put (cs := #[.bool t561, .int .u64 t562, .int .u64 0, .int .i64 0]) ?_ 2 _ rfl; (with_reducible repeat (first | refine blk_drewN ?_ _ | refine blk_drew ?_ | refine blk_alloc ?_ _)); refine blk_put (cs := #[.bool t561, .int .u64 0, .int .u64 0, .int .i64 0]) ?_ 1 _ rfl; (with_reducible repeat (first | refine blk_drewN ?_ _ | refine blk_drew ?_ | refine blk_alloc ?_ _)); refine blk_put (cs := #[.bool false, .int .u64 0, .int .u64 0, .int .i64 0]) ?_ 0 _ rfl; (with_reducible repeat (first | refine blk_drewN ?_ _ | refine blk_drew ?_ | refine blk_alloc ?_ _)); exact BK567.out) hb); have n5_ := Bs5 HB hb GE542.out GE543.out GE553.out GE560.out GE567.out; clear BK542; clear BK543; clear BK553; clear BK560; clear BK567; clear HB; have BK542 := n0_; have BK543 := n1_; have BK553 := n2_; have BK560 := n3_; have BK567 := n4_; have HB := n5_; clear n0_ n1_ n2_ n3_ n4_ n5_; (try clear hb); obtain ⟨hcz182_0, hcz182_1, hfz182_0, hfz182_1⟩ := cl2 BK560; obtain ⟨hcz183_0, hcz183_1, hfz183_0, hfz183_1⟩ := cl2 BK543))
            go_ret
            exact ⟨eS, bw5 HB.out GE542.out GE543.out GE553.out GE560.out GE567.out⟩
           ·rw [if_neg c154] at H
            exact absurd H (by simp)
          ·rw [if_neg c153] at H
           exact absurd H (by simp)
         ·rw [if_neg c152] at H
          have c152b0 : (t566 == 0) = false := beq_eq_false_iff_ne.mpr c152
          have c152b1 : (t566 != 0) = true := bne_iff_ne.mpr c152
          obtain rfl := Option.some.inj H
          go_enter Try.func7, Try.ntmps7
          go_wp2_with (first | ((with_reducible refine gate_dst (N := 3) rfl ?_); refine box_event ?hg (N := 3) ?hd (cs := #[.bool a0_0, .int .u64 a0_1, .int .u64 a0_2, .int .i64 a0_3]) (t := 27) ?hr ?_; (case hd => rfl); (case hg => rfl); (case hr => first | (go_simp; done) | (go_simp; rfl)); intro gb542 hg w184 hbox hb; have n0_ := Bs0 HB hb; have n1_ := Ax (hbox); have n2_ := Gw0 HB hg; have n3_ := Gw0 HB hg; clear HB; have HB := n0_; have BK542 := n1_; have GW542 := n2_; have GE542 := n3_; clear n0_ n1_ n2_ n3_; clear hb hbox hg) | ((with_reducible refine gate_dst (N := 4) rfl ?_); refine box_event ?hg (N := 4) ?hd (cs := #[.int .u8 a1_0, .int .i64 a1_1]) (t := 30) ?hr ?_; (case hd => rfl); (case hg => rfl); (case hr => first | (go_simp; done) | (go_simp; rfl)); intro gb543 hg w185 hbox hb; have n0_ := Bx0 BK542 hb; have n1_ := Bs1 HB hb GE542.out; have n2_ := Ax (hbox); have n3_ := Gw1 HB hg GE542.out; have n4_ := Gw1 HB hg GE542.out; have n5_ := Nl0 BK542 hg; have n6_ := Nr0 BK542 hg; clear BK542; clear HB; have BK542 := n0_; have HB := n1_; have BK543 := n2_; have GW543 := n3_; have GE543 := n4_; have NB542_543 := n5_; have NB543_542 := n6_; clear n0_ n1_ n2_ n3_ n4_ n5_ n6_; clear hb hbox hg) | ((with_reducible refine gate_callee (f := 12) rfl ?_); refine goesL_ (some 22) rfl rfl Try.func12 (by kernel_rfl) rfl #[] rfl gS ?_; (with_reducible refine (spoorlaw11_lives.calls k  true _ A4.out).mono ?_); rintro e w186 ⟨rfl, hb⟩; refine ⟨_, rfl, ?_⟩; replace BK542 := Bx0 BK542 hb; replace BK543 := Bx0 BK543 hb; replace HB := Bs2 HB hb GE542.out GE543.out; (try clear hb); have hnb187 := NB542_543.out; have hnc187 := NB543_542.out; obtain ⟨hcz188_0, hcz188_1, hcz188_2, hcz188_3, hfz188_0, hfz188_1, hfz188_2, hfz188_3⟩ := cl4 BK542) | ((with_reducible refine gate_callee (f := 15) rfl ?_); refine goesL_ (some 26) rfl rfl Try.func15 (by kernel_rfl) rfl #[.agg #[.bool a0_0, .int .u64 a0_1, .int .u64 a0_2, .int .i64 a0_3]] rfl gS ?_; (with_reducible refine (msg_PutPrefix.calls k a0_0 a0_1 a0_2 a0_3 t545 t546 _ A6.out).mono ?_); rintro e w189 ⟨rfl, hb⟩; refine ⟨_, rfl, ?_⟩; replace BK542 := Bx0 BK542 hb; replace BK543 := Bx0 BK543 hb; replace HB := Bs2 HB hb GE542.out GE543.out; (try clear hb)) | ((with_reducible refine gate_callee (f := 17) rfl ?_); refine goesL_ (some 33) rfl rfl Try.func17 (by kernel_rfl) rfl #[.string (t545 ++ a2)] rfl gS ?_; (with_reducible refine (msg_GetPrefix.calls k (t545 ++ a2) t547 t548 t549 t550 t551 t552 _ A8.out).mono ?_); rintro e w190 ⟨rfl, hb⟩; refine ⟨_, rfl, ?_⟩; replace BK542 := Bx0 BK542 hb; replace BK543 := Bx0 BK543 hb; replace HB := Bs2 HB hb GE542.out GE543.out; (try clear hb)) | ((with_reducible refine gate_dst (N := 9) rfl ?_); refine box_event ?hg (N := 9) ?hd (cs := #[.bool false, .int .u64 0, .int .u64 0, .int .i64 0]) (t := 27) ?hr ?_; (case hd => rfl); (case hg => rfl); (case hr => first | (go_simp; done) | (go_simp; rfl)); intro gb553 hg w191 hbox hb; have n0_ := Bx0 BK542 hb; have n1_ := Bx0 BK543 hb; have n2_ := Bs2 HB hb GE542.out GE543.out; have n3_ := Ax (hbox); have n4_ := Gw2 HB hg GE542.out GE543.out; have n5_ := Gw2 HB hg GE542.out GE543.out; have n6_ := Nl0 BK542 hg; have n7_ := Nr0 BK542 hg; have n8_ := Nl0 BK543 hg; have n9_ := Nr0 BK543 hg; clear BK542; clear BK543; clear HB; have BK542 := n0_; have BK543 := n1_; have HB := n2_; have BK553 := n3_; have GW553 := n4_; have GE553 := n5_; have NB542_553 := n6_; have NB553_542 := n7_; have NB543_553 := n8_; have NB553_543 := n9_; clear n0_ n1_ n2_ n3_ n4_ n5_ n6_ n7_ n8_ n9_; clear hb hbox hg; have hnb192 := NB553_542.out; have hnc192 := NB542_553.out; have hnb193 := NB553_543.out; have hnc193 := NB543_553.out; obtain ⟨hcz194_0, hcz194_1, hcz194_2, hcz194_3, hfz194_0, hfz194_1, hfz194_2, hfz194_3⟩ := cl4 BK553; obtain ⟨hcz195_0, hcz195_1, hfz195_0, hfz195_1⟩ := cl2 BK543) | ((with_reducible refine gate_callee (f := 19) rfl ?_); refine goesL_ (some 39) rfl rfl Try.func19 (by kernel_rfl) rfl #[.agg #[.int .u8 a1_0, .int .i64 a1_1]] rfl gS ?_; (with_reducible refine (msg_PutAction.calls k a1_0 a1_1 t554 t555 _ A9.out).mono ?_); rintro e w196 ⟨rfl, hb⟩; refine ⟨_, rfl, ?_⟩; have n0_ := Bx4 BK542 hb NB542_553.out NB542_553.out NB542_553.out NB542_553.out; have n1_ := Bx4 BK543 hb NB543_553.out NB543_553.out NB543_553.out NB543_553.out; have n2_ := Ax (blk_below (g := gb553) (o := .cells #[.bool t547, .int .u64 t548, .int .u64 t549, .int .i64 t550] 27 (0, 0)) (by (with_reducible repeat (first | refine blk_drewN ?_ _ | refine blk_drew ?_ | refine blk_alloc ?_ _)); refine blk_put (cs := #[.bool t547, .int .u64 t548, .int .u64 t549, .int .i64 0]) ?_ 3 _ rfl; (with_reducible repeat (first | refine blk_drewN ?_ _ | refine blk_drew ?_ | refine blk_alloc ?_ _)); refine blk_put (cs := #[.bool t547, .int .u64 t548, .int .u64 0, .int .i64 0]) ?_ 2 _ rfl; (with_reducible repeat (first | refine blk_drewN ?_ _ | refine blk_drew ?_ | refine blk_alloc ?_ _)); refine blk_put (cs := #[.bool t547, .int .u64 0, .int .u64 0, .int .i64 0]) ?_ 1 _ rfl; (with_reducible repeat (first | refine blk_drewN ?_ _ | refine blk_drew ?_ | refine blk_alloc ?_ _)); refine blk_put (cs := #[.bool false, .int .u64 0, .int .u64 0, .int .i64 0]) ?_ 0 _ rfl; (with_reducible repeat (first | refine blk_drewN ?_ _ | refine blk_drew ?_ | refine blk_alloc ?_ _)); exact BK553.out) hb); have n3_ := Bs3 HB hb GE542.out GE543.out GE553.out; clear BK542; clear BK543; clear BK553; clear HB; have BK542 := n0_; have BK543 := n1_; have BK553 := n2_; have HB := n3_; clear n0_ n1_ n2_ n3_; (try clear hb)) | ((with_reducible refine gate_callee (f := 21) rfl ?_); refine goesL_ (some 46) rfl rfl Try.func21 (by kernel_rfl) rfl #[.string (t554 ++ a2)] rfl gS ?_; (with_reducible refine (msg_GetAction.calls k (t554 ++ a2) t556 t557 t558 t559 _ A11.out).mono ?_); rintro e w197 ⟨rfl, hb⟩; refine ⟨_, rfl, ?_⟩; replace BK542 := Bx0 BK542 hb; replace BK543 := Bx0 BK543 hb; replace BK553 := Bx0 BK553 hb; replace HB := Bs3 HB hb GE542.out GE543.out GE553.out; (try clear hb)) | ((with_reducible refine gate_dst (N := 14) rfl ?_); refine box_event ?hg (N := 14) ?hd (cs := #[.int .u8 0, .int .i64 0]) (t := 30) ?hr ?_; (case hd => rfl); (case hg => rfl); (case hr => first | (go_simp; done) | (go_simp; rfl)); intro gb560 hg w198 hbox hb; have n0_ := Bx0 BK542 hb; have n1_ := Bx0 BK543 hb; have n2_ := Bx0 BK553 hb; have n3_ := Bs3 HB hb GE542.out GE543.out GE553.out; have n4_ := Ax (hbox); have n5_ := Gw3 HB hg GE542.out GE543.out GE553.out; have n6_ := Gw3 HB hg GE542.out GE543.out GE553.out; have n7_ := Nl0 BK542 hg; have n8_ := Nr0 BK542 hg; have n9_ := Nl0 BK543 hg; have n10_ := Nr0 BK543 hg; have n11_ := Nl0 BK553 hg; have n12_ := Nr0 BK553 hg; clear BK542; clear BK543; clear BK553; clear HB; have BK542 := n0_; have BK543 := n1_; have BK553 := n2_; have HB := n3_; have BK560 := n4_; have GW560 := n5_; have GE560 := n6_; have NB542_560 := n7_; have NB560_542 := n8_; have NB543_560 := n9_; have NB560_543 := n10_; have NB553_560 := n11_; have NB560_553 := n12_; clear n0_ n1_ n2_ n3_ n4_ n5_ n6_ n7_ n8_ n9_ n10_ n11_ n12_; clear hb hbox hg; have hnb199 := NB560_542.out; have hnc199 := NB542_560.out; have hnb200 := NB560_543.out; have hnc200 := NB543_560.out; have hnb201 := NB560_553.out; have hnc201 := NB553_560.out; obtain ⟨hcz202_0, hcz202_1, hfz202_0, hfz202_1⟩ := cl2 BK560) | ((with_reducible refine gate_callee (f := 17) rfl ?_); refine goesL_ (some 52) rfl rfl Try.func17 (by kernel_rfl) rfl #[.string a2] rfl gS ?_; (with_reducible refine (msg_GetPrefix.calls k a2 t561 t562 t563 t564 t565 t566 _ A12.out).mono ?_); rintro e w203 ⟨rfl, hb⟩; refine ⟨_, rfl, ?_⟩; have n0_ := Bx2 BK542 hb NB542_560.out NB542_560.out; have n1_ := Bx2 BK543 hb NB543_560.out NB543_560.out; have n2_ := Bx2 BK553 hb NB553_560.out NB553_560.out; have n3_ := Ax (blk_below (g := gb560) (o := .cells #[.int .u8 t556, .int .i64 t557] 30 (0, 0)) (by (with_reducible repeat (first | refine blk_drewN ?_ _ | refine blk_drew ?_ | refine blk_alloc ?_ _)); refine blk_put (cs := #[.int .u8 t556, .int .i64 0]) ?_ 1 _ rfl; (with_reducible repeat (first | refine blk_drewN ?_ _ | refine blk_drew ?_ | refine blk_alloc ?_ _)); refine blk_put (cs := #[.int .u8 0, .int .i64 0]) ?_ 0 _ rfl; (with_reducible repeat (first | refine blk_drewN ?_ _ | refine blk_drew ?_ | refine blk_alloc ?_ _)); exact BK560.out) hb); have n4_ := Bs4 HB hb GE542.out GE543.out GE553.out GE560.out; clear BK542; clear BK543; clear BK553; clear BK560; clear HB; have BK542 := n0_; have BK543 := n1_; have BK553 := n2_; have BK560 := n3_; have HB := n4_; clear n0_ n1_ n2_ n3_ n4_; (try clear hb)) | ((with_reducible refine gate_dst (N := 17) rfl ?_); refine box_event ?hg (N := 17) ?hd (cs := #[.bool false, .int .u64 0, .int .u64 0, .int .i64 0]) (t := 27) ?hr ?_; (case hd => rfl); (case hg => rfl); (case hr => first | (go_simp; done) | (go_simp; rfl)); intro gb567 hg w204 hbox hb; have n0_ := Bx0 BK542 hb; have n1_ := Bx0 BK543 hb; have n2_ := Bx0 BK553 hb; have n3_ := Bx0 BK560 hb; have n4_ := Bs4 HB hb GE542.out GE543.out GE553.out GE560.out; have n5_ := Ax (hbox); have n6_ := Gw4 HB hg GE542.out GE543.out GE553.out GE560.out; have n7_ := Gw4 HB hg GE542.out GE543.out GE553.out GE560.out; have n8_ := Nl0 BK542 hg; have n9_ := Nr0 BK542 hg; have n10_ := Nl0 BK543 hg; have n11_ := Nr0 BK543 hg; have n12_ := Nl0 BK553 hg; have n13_ := Nr0 BK553 hg; have n14_ := Nl0 BK560 hg; have n15_ := Nr0 BK560 hg; clear BK542; clear BK543; clear BK553; clear BK560; clear HB; have BK542 := n0_; have BK543 := n1_; have BK553 := n2_; have BK560 := n3_; have HB := n4_; have BK567 := n5_; have GW567 := n6_; have GE567 := n7_; have NB542_567 := n8_; have NB567_542 := n9_; have NB543_567 := n10_; have NB567_543 := n11_; have NB553_567 := n12_; have NB567_553 := n13_; have NB560_567 := n14_; have NB567_560 := n15_; clear n0_ n1_ n2_ n3_ n4_ n5_ n6_ n7_ n8_ n9_ n10_ n11_ n12_ n13_ n14_ n15_; clear hb hbox hg; have hnb205 := NB567_542.out; have hnc205 := NB542_567.out; have hnb206 := NB567_543.out; have hnc206 := NB543_567.out; have hnb207 := NB567_553.out; have hnc207 := NB553_567.out; have hnb208 := NB567_560.out; have hnc208 := NB560_567.out; obtain ⟨hcz209_0, hcz209_1, hcz209_2, hcz209_3, hfz209_0, hfz209_1, hfz209_2, hfz209_3⟩ := cl4 BK567) | ((with_reducible refine gate_callee (f := 15) rfl ?_); refine goesL_ (some 58) rfl rfl Try.func15 (by kernel_rfl) rfl #[.agg #[.bool t561, .int .u64 t562, .int .u64 t563, .int .i64 t564]] rfl gS ?_; (with_reducible refine (msg_PutPrefix.calls k t561 t562 t563 t564 t568 t569 _ A13.out).mono ?_); rintro e w210 ⟨rfl, hb⟩; refine ⟨_, rfl, ?_⟩; have n0_ := Bx4 BK542 hb NB542_567.out NB542_567.out NB542_567.out NB542_567.out; have n1_ := Bx4 BK543 hb NB543_567.out NB543_567.out NB543_567.out NB543_567.out; have n2_ := Bx4 BK553 hb NB553_567.out NB553_567.out NB553_567.out NB553_567.out; have n3_ := Bx4 BK560 hb NB560_567.out NB560_567.out NB560_567.out NB560_567.out; have n4_ := Ax (blk_below (g := gb567) (o := .cells #[.bool t561, .int .u64 t562, .int .u64 t563, .int .i64 t564] 27 (0, 0)) (by (with_reducible repeat (first | refine blk_drewN ?_ _ | refine blk_drew ?_ | refine blk_alloc ?_ _)); refine blk_put (cs := #[.bool t561, .int .u64 t562, .int .u64 t563, .int .i64 0]) ?_ 3 _ rfl; (with_reducible repeat (first | refine blk_drewN ?_ _ | refine blk_drew ?_ | refine blk_alloc ?_ _)); refine blk_put (cs := #[.bool t561, .int .u64 t562, .int .u64 0, .int .i64 0]) ?_ 2 _ rfl; (with_reducible repeat (first | refine blk_drewN ?_ _ | refine blk_drew ?_ | refine blk_alloc ?_ _)); refine blk_put (cs := #[.bool t561, .int .u64 0, .int .u64 0, .int .i64 0]) ?_ 1 _ rfl; (with_reducible repeat (first | refine blk_drewN ?_ _ | refine blk_drew ?_ | refine blk_alloc ?_ _)); refine blk_put (cs := #[.bool false, .int .u64 0, .int .u64 0, .int .i64 0]) ?_ 0 _ rfl; (with_reducible repeat (first | refine blk_drewN ?_ _ | refine blk_drew ?_ | refine blk_alloc ?_ _)); exact BK567.out) hb); have n5_ := Bs5 HB hb GE542.out GE543.out GE553.out GE560.out GE567.out; clear BK542; clear BK543; clear BK553; clear BK560; clear BK567; clear HB; have BK542 := n0_; have BK543 := n1_; have BK553 := n2_; have BK560 := n3_; have BK567 := n4_; have HB := n5_; clear n0_ n1_ n2_ n3_ n4_ n5_; (try clear hb); obtain ⟨hcz211_0, hcz211_1, hfz211_0, hfz211_1⟩ := cl2 BK560; obtain ⟨hcz212_0, hcz212_1, hfz212_0, hfz212_1⟩ := cl2 BK543))
          go_ret
          exact ⟨eS, bw5 HB.out GE542.out GE543.out GE553.out GE560.out GE567.out⟩
        ·rw [if_neg c151] at H
         exact absurd H (by simp)
       ·rw [if_neg c150] at H
        exact absurd H (by simp)
      ·rw [if_neg c149] at H
       exact absurd H (by simp)
     ·rw [if_neg c148] at H
      have c148b0 : (t555 == 0) = false := beq_eq_false_iff_ne.mpr c148
      have c148b1 : (t555 != 0) = true := bne_iff_ne.mpr c148
      by_cases c213 : t566 = 0
      ·rw [if_pos c213] at H
       have c213b0 : (t566 == 0) = true := beq_iff_eq.mpr c213
       have c213b1 : (t566 != 0) = false := bne_eq_false_iff_eq.mpr c213
       clear c213
       by_cases c214 : t569 = 0
       ·rw [if_pos c214] at H
        have c214b0 : (t569 == 0) = true := beq_iff_eq.mpr c214
        have c214b1 : (t569 != 0) = false := bne_eq_false_iff_eq.mpr c214
        clear c214
        by_cases c215 : t568.size + t565.size ≤ 9223372036854775807
        ·rw [if_pos c215] at H
         have c215b0 := eq_true c215
         have c215b1 : decide (t568.size + t565.size ≤ 9223372036854775807) = true := decide_eq_true c215
         try have c215b2 : (9223372036854775807 < t568.size + t565.size) = False := eq_false (Nat.not_lt.2 c215)
         obtain rfl := Option.some.inj H
         go_enter Try.func7, Try.ntmps7
         go_wp2_with (first | ((with_reducible refine gate_dst (N := 3) rfl ?_); refine box_event ?hg (N := 3) ?hd (cs := #[.bool a0_0, .int .u64 a0_1, .int .u64 a0_2, .int .i64 a0_3]) (t := 27) ?hr ?_; (case hd => rfl); (case hg => rfl); (case hr => first | (go_simp; done) | (go_simp; rfl)); intro gb542 hg w216 hbox hb; have n0_ := Bs0 HB hb; have n1_ := Ax (hbox); have n2_ := Gw0 HB hg; have n3_ := Gw0 HB hg; clear HB; have HB := n0_; have BK542 := n1_; have GW542 := n2_; have GE542 := n3_; clear n0_ n1_ n2_ n3_; clear hb hbox hg) | ((with_reducible refine gate_dst (N := 4) rfl ?_); refine box_event ?hg (N := 4) ?hd (cs := #[.int .u8 a1_0, .int .i64 a1_1]) (t := 30) ?hr ?_; (case hd => rfl); (case hg => rfl); (case hr => first | (go_simp; done) | (go_simp; rfl)); intro gb543 hg w217 hbox hb; have n0_ := Bx0 BK542 hb; have n1_ := Bs1 HB hb GE542.out; have n2_ := Ax (hbox); have n3_ := Gw1 HB hg GE542.out; have n4_ := Gw1 HB hg GE542.out; have n5_ := Nl0 BK542 hg; have n6_ := Nr0 BK542 hg; clear BK542; clear HB; have BK542 := n0_; have HB := n1_; have BK543 := n2_; have GW543 := n3_; have GE543 := n4_; have NB542_543 := n5_; have NB543_542 := n6_; clear n0_ n1_ n2_ n3_ n4_ n5_ n6_; clear hb hbox hg) | ((with_reducible refine gate_callee (f := 12) rfl ?_); refine goesL_ (some 22) rfl rfl Try.func12 (by kernel_rfl) rfl #[] rfl gS ?_; (with_reducible refine (spoorlaw11_lives.calls k  true _ A4.out).mono ?_); rintro e w218 ⟨rfl, hb⟩; refine ⟨_, rfl, ?_⟩; replace BK542 := Bx0 BK542 hb; replace BK543 := Bx0 BK543 hb; replace HB := Bs2 HB hb GE542.out GE543.out; (try clear hb); have hnb219 := NB542_543.out; have hnc219 := NB543_542.out; obtain ⟨hcz220_0, hcz220_1, hcz220_2, hcz220_3, hfz220_0, hfz220_1, hfz220_2, hfz220_3⟩ := cl4 BK542) | ((with_reducible refine gate_callee (f := 15) rfl ?_); refine goesL_ (some 26) rfl rfl Try.func15 (by kernel_rfl) rfl #[.agg #[.bool a0_0, .int .u64 a0_1, .int .u64 a0_2, .int .i64 a0_3]] rfl gS ?_; (with_reducible refine (msg_PutPrefix.calls k a0_0 a0_1 a0_2 a0_3 t545 t546 _ A6.out).mono ?_); rintro e w221 ⟨rfl, hb⟩; refine ⟨_, rfl, ?_⟩; replace BK542 := Bx0 BK542 hb; replace BK543 := Bx0 BK543 hb; replace HB := Bs2 HB hb GE542.out GE543.out; (try clear hb)) | ((with_reducible refine gate_callee (f := 17) rfl ?_); refine goesL_ (some 33) rfl rfl Try.func17 (by kernel_rfl) rfl #[.string (t545 ++ a2)] rfl gS ?_; (with_reducible refine (msg_GetPrefix.calls k (t545 ++ a2) t547 t548 t549 t550 t551 t552 _ A8.out).mono ?_); rintro e w222 ⟨rfl, hb⟩; refine ⟨_, rfl, ?_⟩; replace BK542 := Bx0 BK542 hb; replace BK543 := Bx0 BK543 hb; replace HB := Bs2 HB hb GE542.out GE543.out; (try clear hb)) | ((with_reducible refine gate_dst (N := 9) rfl ?_); refine box_event ?hg (N := 9) ?hd (cs := #[.bool false, .int .u64 0, .int .u64 0, .int .i64 0]) (t := 27) ?hr ?_; (case hd => rfl); (case hg => rfl); (case hr => first | (go_simp; done) | (go_simp; rfl)); intro gb553 hg w223 hbox hb; have n0_ := Bx0 BK542 hb; have n1_ := Bx0 BK543 hb; have n2_ := Bs2 HB hb GE542.out GE543.out; have n3_ := Ax (hbox); have n4_ := Gw2 HB hg GE542.out GE543.out; have n5_ := Gw2 HB hg GE542.out GE543.out; have n6_ := Nl0 BK542 hg; have n7_ := Nr0 BK542 hg; have n8_ := Nl0 BK543 hg; have n9_ := Nr0 BK543 hg; clear BK542; clear BK543; clear HB; have BK542 := n0_; have BK543 := n1_; have HB := n2_; have BK553 := n3_; have GW553 := n4_; have GE553 := n5_; have NB542_553 := n6_; have NB553_542 := n7_; have NB543_553 := n8_; have NB553_543 := n9_; clear n0_ n1_ n2_ n3_ n4_ n5_ n6_ n7_ n8_ n9_; clear hb hbox hg; have hnb224 := NB553_542.out; have hnc224 := NB542_553.out; have hnb225 := NB553_543.out; have hnc225 := NB543_553.out; obtain ⟨hcz226_0, hcz226_1, hcz226_2, hcz226_3, hfz226_0, hfz226_1, hfz226_2, hfz226_3⟩ := cl4 BK553; obtain ⟨hcz227_0, hcz227_1, hfz227_0, hfz227_1⟩ := cl2 BK543) | ((with_reducible refine gate_callee (f := 19) rfl ?_); refine goesL_ (some 39) rfl rfl Try.func19 (by kernel_rfl) rfl #[.agg #[.int .u8 a1_0, .int .i64 a1_1]] rfl gS ?_; (with_reducible refine (msg_PutAction.calls k a1_0 a1_1 t554 t555 _ A9.out).mono ?_); rintro e w228 ⟨rfl, hb⟩; refine ⟨_, rfl, ?_⟩; have n0_ := Bx4 BK542 hb NB542_553.out NB542_553.out NB542_553.out NB542_553.out; have n1_ := Bx4 BK543 hb NB543_553.out NB543_553.out NB543_553.out NB543_553.out; have n2_ := Ax (blk_below (g := gb553) (o := .cells #[.bool t547, .int .u64 t548, .int .u64 t549, .int .i64 t550] 27 (0, 0)) (by (with_reducible repeat (first | refine blk_drewN ?_ _ | refine blk_drew ?_ | refine blk_alloc ?_ _)); refine blk_put (cs := #[.bool t547, .int .u64 t548, .int .u64 t549, .int .i64 0]) ?_ 3 _ rfl; (with_reducible repeat (first | refine blk_drewN ?_ _ | refine blk_drew ?_ | refine blk_alloc ?_ _)); refine blk_put (cs := #[.bool t547, .int .u64 t548, .int .u64 0, .int .i64 0]) ?_ 2 _ rfl; (with_reducible repeat (first | refine blk_drewN ?_ _ | refine blk_drew ?_ | refine blk_alloc ?_ _)); refine blk_put (cs := #[.bool t547, .int .u64 0, .int .u64 0, .int .i64 0]) ?_ 1 _ rfl; (with_reducible repeat (first | refine blk_drewN ?_ _ | refine blk_drew ?_ | refine blk_alloc ?_ _)); refine blk_put (cs := #[.bool false, .int .u64 0, .int .u64 0, .int .i64 0]) ?_ 0 _ rfl; (with_reducible repeat (first | refine blk_drewN ?_ _ | refine blk_drew ?_ | refine blk_alloc ?_ _)); exact BK553.out) hb); have n3_ := Bs3 HB hb GE542.out GE543.out GE553.out; clear BK542; clear BK543; clear BK553; clear HB; have BK542 := n0_; have BK543 := n1_; have BK553 := n2_; have HB := n3_; clear n0_ n1_ n2_ n3_; (try clear hb)) | ((with_reducible refine gate_callee (f := 21) rfl ?_); refine goesL_ (some 46) rfl rfl Try.func21 (by kernel_rfl) rfl #[.string (t554 ++ a2)] rfl gS ?_; (with_reducible refine (msg_GetAction.calls k (t554 ++ a2) t556 t557 t558 t559 _ A11.out).mono ?_); rintro e w229 ⟨rfl, hb⟩; refine ⟨_, rfl, ?_⟩; replace BK542 := Bx0 BK542 hb; replace BK543 := Bx0 BK543 hb; replace BK553 := Bx0 BK553 hb; replace HB := Bs3 HB hb GE542.out GE543.out GE553.out; (try clear hb)) | ((with_reducible refine gate_dst (N := 14) rfl ?_); refine box_event ?hg (N := 14) ?hd (cs := #[.int .u8 0, .int .i64 0]) (t := 30) ?hr ?_; (case hd => rfl); (case hg => rfl); (case hr => first | (go_simp; done) | (go_simp; rfl)); intro gb560 hg w230 hbox hb; have n0_ := Bx0 BK542 hb; have n1_ := Bx0 BK543 hb; have n2_ := Bx0 BK553 hb; have n3_ := Bs3 HB hb GE542.out GE543.out GE553.out; have n4_ := Ax (hbox); have n5_ := Gw3 HB hg GE542.out GE543.out GE553.out; have n6_ := Gw3 HB hg GE542.out GE543.out GE553.out; have n7_ := Nl0 BK542 hg; have n8_ := Nr0 BK542 hg; have n9_ := Nl0 BK543 hg; have n10_ := Nr0 BK543 hg; have n11_ := Nl0 BK553 hg; have n12_ := Nr0 BK553 hg; clear BK542; clear BK543; clear BK553; clear HB; have BK542 := n0_; have BK543 := n1_; have BK553 := n2_; have HB := n3_; have BK560 := n4_; have GW560 := n5_; have GE560 := n6_; have NB542_560 := n7_; have NB560_542 := n8_; have NB543_560 := n9_; have NB560_543 := n10_; have NB553_560 := n11_; have NB560_553 := n12_; clear n0_ n1_ n2_ n3_ n4_ n5_ n6_ n7_ n8_ n9_ n10_ n11_ n12_; clear hb hbox hg; have hnb231 := NB560_542.out; have hnc231 := NB542_560.out; have hnb232 := NB560_543.out; have hnc232 := NB543_560.out; have hnb233 := NB560_553.out; have hnc233 := NB553_560.out; obtain ⟨hcz234_0, hcz234_1, hfz234_0, hfz234_1⟩ := cl2 BK560) | ((with_reducible refine gate_callee (f := 17) rfl ?_); refine goesL_ (some 52) rfl rfl Try.func17 (by kernel_rfl) rfl #[.string a2] rfl gS ?_; (with_reducible refine (msg_GetPrefix.calls k a2 t561 t562 t563 t564 t565 t566 _ A12.out).mono ?_); rintro e w235 ⟨rfl, hb⟩; refine ⟨_, rfl, ?_⟩; have n0_ := Bx2 BK542 hb NB542_560.out NB542_560.out; have n1_ := Bx2 BK543 hb NB543_560.out NB543_560.out; have n2_ := Bx2 BK553 hb NB553_560.out NB553_560.out; have n3_ := Ax (blk_below (g := gb560) (o := .cells #[.int .u8 t556, .int .i64 t557] 30 (0, 0)) (by (with_reducible repeat (first | refine blk_drewN ?_ _ | refine blk_drew ?_ | refine blk_alloc ?_ _)); refine blk_put (cs := #[.int .u8 t556, .int .i64 0]) ?_ 1 _ rfl; (with_reducible repeat (first | refine blk_drewN ?_ _ | refine blk_drew ?_ | refine blk_alloc ?_ _)); refine blk_put (cs := #[.int .u8 0, .int .i64 0]) ?_ 0 _ rfl; (with_reducible repeat (first | refine blk_drewN ?_ _ | refine blk_drew ?_ | refine blk_alloc ?_ _)); exact BK560.out) hb); have n4_ := Bs4 HB hb GE542.out GE543.out GE553.out GE560.out; clear BK542; clear BK543; clear BK553; clear BK560; clear HB; have BK542 := n0_; have BK543 := n1_; have BK553 := n2_; have BK560 := n3_; have HB := n4_; clear n0_ n1_ n2_ n3_ n4_; (try clear hb)) | ((with_reducible refine gate_dst (N := 17) rfl ?_); refine box_event ?hg (N := 17) ?hd (cs := #[.bool false, .int .u64 0, .int .u64 0, .int .i64 0]) (t := 27) ?hr ?_; (case hd => rfl); (case hg => rfl); (case hr => first | (go_simp; done) | (go_simp; rfl)); intro gb567 hg w236 hbox hb; have n0_ := Bx0 BK542 hb; have n1_ := Bx0 BK543 hb; have n2_ := Bx0 BK553 hb; have n3_ := Bx0 BK560 hb; have n4_ := Bs4 HB hb GE542.out GE543.out GE553.out GE560.out; have n5_ := Ax (hbox); have n6_ := Gw4 HB hg GE542.out GE543.out GE553.out GE560.out; have n7_ := Gw4 HB hg GE542.out GE543.out GE553.out GE560.out; have n8_ := Nl0 BK542 hg; have n9_ := Nr0 BK542 hg; have n10_ := Nl0 BK543 hg; have n11_ := Nr0 BK543 hg; have n12_ := Nl0 BK553 hg; have n13_ := Nr0 BK553 hg; have n14_ := Nl0 BK560 hg; have n15_ := Nr0 BK560 hg; clear BK542; clear BK543; clear BK553; clear BK560; clear HB; have BK542 := n0_; have BK543 := n1_; have BK553 := n2_; have BK560 := n3_; have HB := n4_; have BK567 := n5_; have GW567 := n6_; have GE567 := n7_; have NB542_567 := n8_; have NB567_542 := n9_; have NB543_567 := n10_; have NB567_543 := n11_; have NB553_567 := n12_; have NB567_553 := n13_; have NB560_567 := n14_; have NB567_560 := n15_; clear n0_ n1_ n2_ n3_ n4_ n5_ n6_ n7_ n8_ n9_ n10_ n11_ n12_ n13_ n14_ n15_; clear hb hbox hg; have hnb237 := NB567_542.out; have hnc237 := NB542_567.out; have hnb238 := NB567_543.out; have hnc238 := NB543_567.out; have hnb239 := NB567_553.out; have hnc239 := NB553_567.out; have hnb240 := NB567_560.out; have hnc240 := NB560_567.out; obtain ⟨hcz241_0, hcz241_1, hcz241_2, hcz241_3, hfz241_0, hfz241_1, hfz241_2, hfz241_3⟩ := cl4 BK567) | ((with_reducible refine gate_callee (f := 15) rfl ?_); refine goesL_ (some 58) rfl rfl Try.func15 (by kernel_rfl) rfl #[.agg #[.bool t561, .int .u64 t562, .int .u64 t563, .int .i64 t564]] rfl gS ?_; (with_reducible refine (msg_PutPrefix.calls k t561 t562 t563 t564 t568 t569 _ A13.out).mono ?_); rintro e w242 ⟨rfl, hb⟩; refine ⟨_, rfl, ?_⟩; have n0_ := Bx4 BK542 hb NB542_567.out NB542_567.out NB542_567.out NB542_567.out; have n1_ := Bx4 BK543 hb NB543_567.out NB543_567.out NB543_567.out NB543_567.out; have n2_ := Bx4 BK553 hb NB553_567.out NB553_567.out NB553_567.out NB553_567.out; have n3_ := Bx4 BK560 hb NB560_567.out NB560_567.out NB560_567.out NB560_567.out; have n4_ := Ax (blk_below (g := gb567) (o := .cells #[.bool t561, .int .u64 t562, .int .u64 t563, .int .i64 t564] 27 (0, 0)) (by (with_reducible repeat (first | refine blk_drewN ?_ _ | refine blk_drew ?_ | refine blk_alloc ?_ _)); refine blk_put (cs := #[.bool t561, .int .u64 t562, .int .u64 t563, .int .i64 0]) ?_ 3 _ rfl; (with_reducible repeat (first | refine blk_drewN ?_ _ | refine blk_drew ?_ | refine blk_alloc ?_ _)); refine blk_put (cs := #[.bool t561, .int .u64 t562, .int .u64 0, .int .i64 0]) ?_ 2 _ rfl; (with_reducible repeat (first | refine blk_drewN ?_ _ | refine blk_drew ?_ | refine blk_alloc ?_ _)); refine blk_put (cs := #[.bool t561, .int .u64 0, .int .u64 0, .int .i64 0]) ?_ 1 _ rfl; (with_reducible repeat (first | refine blk_drewN ?_ _ | refine blk_drew ?_ | refine blk_alloc ?_ _)); refine blk_put (cs := #[.bool false, .int .u64 0, .int .u64 0, .int .i64 0]) ?_ 0 _ rfl; (with_reducible repeat (first | refine blk_drewN ?_ _ | refine blk_drew ?_ | refine blk_alloc ?_ _)); exact BK567.out) hb); have n5_ := Bs5 HB hb GE542.out GE543.out GE553.out GE560.out GE567.out; clear BK542; clear BK543; clear BK553; clear BK560; clear BK567; clear HB; have BK542 := n0_; have BK543 := n1_; have BK553 := n2_; have BK560 := n3_; have BK567 := n4_; have HB := n5_; clear n0_ n1_ n2_ n3_ n4_ n5_; (try clear hb)))
         go_ret
         exact ⟨eS, bw5 HB.out GE542.out GE543.out GE553.out GE560.out GE567.out⟩
        ·rw [if_neg c215] at H
         exact absurd H (by simp)
       ·rw [if_neg c214] at H
        exact absurd H (by simp)
      ·rw [if_neg c213] at H
       have c213b0 : (t566 == 0) = false := beq_eq_false_iff_ne.mpr c213
       have c213b1 : (t566 != 0) = true := bne_iff_ne.mpr c213
       obtain rfl := Option.some.inj H
       go_enter Try.func7, Try.ntmps7
       go_wp2_with (first | ((with_reducible refine gate_dst (N := 3) rfl ?_); refine box_event ?hg (N := 3) ?hd (cs := #[.bool a0_0, .int .u64 a0_1, .int .u64 a0_2, .int .i64 a0_3]) (t := 27) ?hr ?_; (case hd => rfl); (case hg => rfl); (case hr => first | (go_simp; done) | (go_simp; rfl)); intro gb542 hg w243 hbox hb; have n0_ := Bs0 HB hb; have n1_ := Ax (hbox); have n2_ := Gw0 HB hg; have n3_ := Gw0 HB hg; clear HB; have HB := n0_; have BK542 := n1_; have GW542 := n2_; have GE542 := n3_; clear n0_ n1_ n2_ n3_; clear hb hbox hg) | ((with_reducible refine gate_dst (N := 4) rfl ?_); refine box_event ?hg (N := 4) ?hd (cs := #[.int .u8 a1_0, .int .i64 a1_1]) (t := 30) ?hr ?_; (case hd => rfl); (case hg => rfl); (case hr => first | (go_simp; done) | (go_simp; rfl)); intro gb543 hg w244 hbox hb; have n0_ := Bx0 BK542 hb; have n1_ := Bs1 HB hb GE542.out; have n2_ := Ax (hbox); have n3_ := Gw1 HB hg GE542.out; have n4_ := Gw1 HB hg GE542.out; have n5_ := Nl0 BK542 hg; have n6_ := Nr0 BK542 hg; clear BK542; clear HB; have BK542 := n0_; have HB := n1_; have BK543 := n2_; have GW543 := n3_; have GE543 := n4_; have NB542_543 := n5_; have NB543_542 := n6_; clear n0_ n1_ n2_ n3_ n4_ n5_ n6_; clear hb hbox hg) | ((with_reducible refine gate_callee (f := 12) rfl ?_); refine goesL_ (some 22) rfl rfl Try.func12 (by kernel_rfl) rfl #[] rfl gS ?_; (with_reducible refine (spoorlaw11_lives.calls k  true _ A4.out).mono ?_); rintro e w245 ⟨rfl, hb⟩; refine ⟨_, rfl, ?_⟩; replace BK542 := Bx0 BK542 hb; replace BK543 := Bx0 BK543 hb; replace HB := Bs2 HB hb GE542.out GE543.out; (try clear hb); have hnb246 := NB542_543.out; have hnc246 := NB543_542.out; obtain ⟨hcz247_0, hcz247_1, hcz247_2, hcz247_3, hfz247_0, hfz247_1, hfz247_2, hfz247_3⟩ := cl4 BK542) | ((with_reducible refine gate_callee (f := 15) rfl ?_); refine goesL_ (some 26) rfl rfl Try.func15 (by kernel_rfl) rfl #[.agg #[.bool a0_0, .int .u64 a0_1, .int .u64 a0_2, .int .i64 a0_3]] rfl gS ?_; (with_reducible refine (msg_PutPrefix.calls k a0_0 a0_1 a0_2 a0_3 t545 t546 _ A6.out).mono ?_); rintro e w248 ⟨rfl, hb⟩; refine ⟨_, rfl, ?_⟩; replace BK542 := Bx0 BK542 hb; replace BK543 := Bx0 BK543 hb; replace HB := Bs2 HB hb GE542.out GE543.out; (try clear hb)) | ((with_reducible refine gate_callee (f := 17) rfl ?_); refine goesL_ (some 33) rfl rfl Try.func17 (by kernel_rfl) rfl #[.string (t545 ++ a2)] rfl gS ?_; (with_reducible refine (msg_GetPrefix.calls k (t545 ++ a2) t547 t548 t549 t550 t551 t552 _ A8.out).mono ?_); rintro e w249 ⟨rfl, hb⟩; refine ⟨_, rfl, ?_⟩; replace BK542 := Bx0 BK542 hb; replace BK543 := Bx0 BK543 hb; replace HB := Bs2 HB hb GE542.out GE543.out; (try clear hb)) | ((with_reducible refine gate_dst (N := 9) rfl ?_); refine box_event ?hg (N := 9) ?hd (cs := #[.bool false, .int .u64 0, .int .u64 0, .int .i64 0]) (t := 27) ?hr ?_; (case hd => rfl); (case hg => rfl); (case hr => first | (go_simp; done) | (go_simp; rfl)); intro gb553 hg w250 hbox hb; have n0_ := Bx0 BK542 hb; have n1_ := Bx0 BK543 hb; have n2_ := Bs2 HB hb GE542.out GE543.out; have n3_ := Ax (hbox); have n4_ := Gw2 HB hg GE542.out GE543.out; have n5_ := Gw2 HB hg GE542.out GE543.out; have n6_ := Nl0 BK542 hg; have n7_ := Nr0 BK542 hg; have n8_ := Nl0 BK543 hg; have n9_ := Nr0 BK543 hg; clear BK542; clear BK543; clear HB; have BK542 := n0_; have BK543 := n1_; have HB := n2_; have BK553 := n3_; have GW553 := n4_; have GE553 := n5_; have NB542_553 := n6_; have NB553_542 := n7_; have NB543_553 := n8_; have NB553_543 := n9_; clear n0_ n1_ n2_ n3_ n4_ n5_ n6_ n7_ n8_ n9_; clear hb hbox hg; have hnb251 := NB553_542.out; have hnc251 := NB542_553.out; have hnb252 := NB553_543.out; have hnc252 := NB543_553.out; obtain ⟨hcz253_0, hcz253_1, hcz253_2, hcz253_3, hfz253_0, hfz253_1, hfz253_2, hfz253_3⟩ := cl4 BK553; obtain ⟨hcz254_0, hcz254_1, hfz254_0, hfz254_1⟩ := cl2 BK543) | ((with_reducible refine gate_callee (f := 19) rfl ?_); refine goesL_ (some 39) rfl rfl Try.func19 (by kernel_rfl) rfl #[.agg #[.int .u8 a1_0, .int .i64 a1_1]] rfl gS ?_; (with_reducible refine (msg_PutAction.calls k a1_0 a1_1 t554 t555 _ A9.out).mono ?_); rintro e w255 ⟨rfl, hb⟩; refine ⟨_, rfl, ?_⟩; have n0_ := Bx4 BK542 hb NB542_553.out NB542_553.out NB542_553.out NB542_553.out; have n1_ := Bx4 BK543 hb NB543_553.out NB543_553.out NB543_553.out NB543_553.out; have n2_ := Ax (blk_below (g := gb553) (o := .cells #[.bool t547, .int .u64 t548, .int .u64 t549, .int .i64 t550] 27 (0, 0)) (by (with_reducible repeat (first | refine blk_drewN ?_ _ | refine blk_drew ?_ | refine blk_alloc ?_ _)); refine blk_put (cs := #[.bool t547, .int .u64 t548, .int .u64 t549, .int .i64 0]) ?_ 3 _ rfl; (with_reducible repeat (first | refine blk_drewN ?_ _ | refine blk_drew ?_ | refine blk_alloc ?_ _)); refine blk_put (cs := #[.bool t547, .int .u64 t548, .int .u64 0, .int .i64 0]) ?_ 2 _ rfl; (with_reducible repeat (first | refine blk_drewN ?_ _ | refine blk_drew ?_ | refine blk_alloc ?_ _)); refine blk_put (cs := #[.bool t547, .int .u64 0, .int .u64 0, .int .i64 0]) ?_ 1 _ rfl; (with_reducible repeat (first | refine blk_drewN ?_ _ | refine blk_drew ?_ | refine blk_alloc ?_ _)); refine blk_put (cs := #[.bool false, .int .u64 0, .int .u64 0, .int .i64 0]) ?_ 0 _ rfl; (with_reducible repeat (first | refine blk_drewN ?_ _ | refine blk_drew ?_ | refine blk_alloc ?_ _)); exact BK553.out) hb); have n3_ := Bs3 HB hb GE542.out GE543.out GE553.out; clear BK542; clear BK543; clear BK553; clear HB; have BK542 := n0_; have BK543 := n1_; have BK553 := n2_; have HB := n3_; clear n0_ n1_ n2_ n3_; (try clear hb)) | ((with_reducible refine gate_callee (f := 21) rfl ?_); refine goesL_ (some 46) rfl rfl Try.func21 (by kernel_rfl) rfl #[.string (t554 ++ a2)] rfl gS ?_; (with_reducible refine (msg_GetAction.calls k (t554 ++ a2) t556 t557 t558 t559 _ A11.out).mono ?_); rintro e w256 ⟨rfl, hb⟩; refine ⟨_, rfl, ?_⟩; replace BK542 := Bx0 BK542 hb; replace BK543 := Bx0 BK543 hb; replace BK553 := Bx0 BK553 hb; replace HB := Bs3 HB hb GE542.out GE543.out GE553.out; (try clear hb)) | ((with_reducible refine gate_dst (N := 14) rfl ?_); refine box_event ?hg (N := 14) ?hd (cs := #[.int .u8 0, .int .i64 0]) (t := 30) ?hr ?_; (case hd => rfl); (case hg => rfl); (case hr => first | (go_simp; done) | (go_simp; rfl)); intro gb560 hg w257 hbox hb; have n0_ := Bx0 BK542 hb; have n1_ := Bx0 BK543 hb; have n2_ := Bx0 BK553 hb; have n3_ := Bs3 HB hb GE542.out GE543.out GE553.out; have n4_ := Ax (hbox); have n5_ := Gw3 HB hg GE542.out GE543.out GE553.out; have n6_ := Gw3 HB hg GE542.out GE543.out GE553.out; have n7_ := Nl0 BK542 hg; have n8_ := Nr0 BK542 hg; have n9_ := Nl0 BK543 hg; have n10_ := Nr0 BK543 hg; have n11_ := Nl0 BK553 hg; have n12_ := Nr0 BK553 hg; clear BK542; clear BK543; clear BK553; clear HB; have BK542 := n0_; have BK543 := n1_; have BK553 := n2_; have HB := n3_; have BK560 := n4_; have GW560 := n5_; have GE560 := n6_; have NB542_560 := n7_; have NB560_542 := n8_; have NB543_560 := n9_; have NB560_543 := n10_; have NB553_560 := n11_; have NB560_553 := n12_; clear n0_ n1_ n2_ n3_ n4_ n5_ n6_ n7_ n8_ n9_ n10_ n11_ n12_; clear hb hbox hg; have hnb258 := NB560_542.out; have hnc258 := NB542_560.out; have hnb259 := NB560_543.out; have hnc259 := NB543_560.out; have hnb260 := NB560_553.out; have hnc260 := NB553_560.out; obtain ⟨hcz261_0, hcz261_1, hfz261_0, hfz261_1⟩ := cl2 BK560) | ((with_reducible refine gate_callee (f := 17) rfl ?_); refine goesL_ (some 52) rfl rfl Try.func17 (by kernel_rfl) rfl #[.string a2] rfl gS ?_; (with_reducible refine (msg_GetPrefix.calls k a2 t561 t562 t563 t564 t565 t566 _ A12.out).mono ?_); rintro e w262 ⟨rfl, hb⟩; refine ⟨_, rfl, ?_⟩; have n0_ := Bx2 BK542 hb NB542_560.out NB542_560.out; have n1_ := Bx2 BK543 hb NB543_560.out NB543_560.out; have n2_ := Bx2 BK553 hb NB553_560.out NB553_560.out; have n3_ := Ax (blk_below (g := gb560) (o := .cells #[.int .u8 t556, .int .i64 t557] 30 (0, 0)) (by (with_reducible repeat (first | refine blk_drewN ?_ _ | refine blk_drew ?_ | refine blk_alloc ?_ _)); refine blk_put (cs := #[.int .u8 t556, .int .i64 0]) ?_ 1 _ rfl; (with_reducible repeat (first | refine blk_drewN ?_ _ | refine blk_drew ?_ | refine blk_alloc ?_ _)); refine blk_put (cs := #[.int .u8 0, .int .i64 0]) ?_ 0 _ rfl; (with_reducible repeat (first | refine blk_drewN ?_ _ | refine blk_drew ?_ | refine blk_alloc ?_ _)); exact BK560.out) hb); have n4_ := Bs4 HB hb GE542.out GE543.out GE553.out GE560.out; clear BK542; clear BK543; clear BK553; clear BK560; clear HB; have BK542 := n0_; have BK543 := n1_; have BK553 := n2_; have BK560 := n3_; have HB := n4_; clear n0_ n1_ n2_ n3_ n4_; (try clear hb)) | ((with_reducible refine gate_dst (N := 17) rfl ?_); refine box_event ?hg (N := 17) ?hd (cs := #[.bool false, .int .u64 0, .int .u64 0, .int .i64 0]) (t := 27) ?hr ?_; (case hd => rfl); (case hg => rfl); (case hr => first | (go_simp; done) | (go_simp; rfl)); intro gb567 hg w263 hbox hb; have n0_ := Bx0 BK542 hb; have n1_ := Bx0 BK543 hb; have n2_ := Bx0 BK553 hb; have n3_ := Bx0 BK560 hb; have n4_ := Bs4 HB hb GE542.out GE543.out GE553.out GE560.out; have n5_ := Ax (hbox); have n6_ := Gw4 HB hg GE542.out GE543.out GE553.out GE560.out; have n7_ := Gw4 HB hg GE542.out GE543.out GE553.out GE560.out; have n8_ := Nl0 BK542 hg; have n9_ := Nr0 BK542 hg; have n10_ := Nl0 BK543 hg; have n11_ := Nr0 BK543 hg; have n12_ := Nl0 BK553 hg; have n13_ := Nr0 BK553 hg; have n14_ := Nl0 BK560 hg; have n15_ := Nr0 BK560 hg; clear BK542; clear BK543; clear BK553; clear BK560; clear HB; have BK542 := n0_; have BK543 := n1_; have BK553 := n2_; have BK560 := n3_; have HB := n4_; have BK567 := n5_; have GW567 := n6_; have GE567 := n7_; have NB542_567 := n8_; have NB567_542 := n9_; have NB543_567 := n10_; have NB567_543 := n11_; have NB553_567 := n12_; have NB567_553 := n13_; have NB560_567 := n14_; have NB567_560 := n15_; clear n0_ n1_ n2_ n3_ n4_ n5_ n6_ n7_ n8_ n9_ n10_ n11_ n12_ n13_ n14_ n15_; clear hb hbox hg; have hnb264 := NB567_542.out; have hnc264 := NB542_567.out; have hnb265 := NB567_543.out; have hnc265 := NB543_567.out; have hnb266 := NB567_553.out; have hnc266 := NB553_567.out; have hnb267 := NB567_560.out; have hnc267 := NB560_567.out; obtain ⟨hcz268_0, hcz268_1, hcz268_2, hcz268_3, hfz268_0, hfz268_1, hfz268_2, hfz268_3⟩ := cl4 BK567) | ((with_reducible refine gate_callee (f := 15) rfl ?_); refine goesL_ (some 58) rfl rfl Try.func15 (by kernel_rfl) rfl #[.agg #[.bool t561, .int .u64 t562, .int .u64 t563, .int .i64 t564]] rfl gS ?_; (with_reducible refine (msg_PutPrefix.calls k t561 t562 t563 t564 t568 t569 _ A13.out).mono ?_); rintro e w269 ⟨rfl, hb⟩; refine ⟨_, rfl, ?_⟩; have n0_ := Bx4 BK542 hb NB542_567.out NB542_567.out NB542_567.out NB542_567.out; have n1_ := Bx4 BK543 hb NB543_567.out NB543_567.out NB543_567.out NB543_567.out; have n2_ := Bx4 BK553 hb NB553_567.out NB553_567.out NB553_567.out NB553_567.out; have n3_ := Bx4 BK560 hb NB560_567.out NB560_567.out NB560_567.out NB560_567.out; have n4_ := Ax (blk_below (g := gb567) (o := .cells #[.bool t561, .int .u64 t562, .int .u64 t563, .int .i64 t564] 27 (0, 0)) (by (with_reducible repeat (first | refine blk_drewN ?_ _ | refine blk_drew ?_ | refine blk_alloc ?_ _)); refine blk_put (cs := #[.bool t561, .int .u64 t562, .int .u64 t563, .int .i64 0]) ?_ 3 _ rfl; (with_reducible repeat (first | refine blk_drewN ?_ _ | refine blk_drew ?_ | refine blk_alloc ?_ _)); refine blk_put (cs := #[.bool t561, .int .u64 t562, .int .u64 0, .int .i64 0]) ?_ 2 _ rfl; (with_reducible repeat (first | refine blk_drewN ?_ _ | refine blk_drew ?_ | refine blk_alloc ?_ _)); refine blk_put (cs := #[.bool t561, .int .u64 0, .int .u64 0, .int .i64 0]) ?_ 1 _ rfl; (with_reducible repeat (first | refine blk_drewN ?_ _ | refine blk_drew ?_ | refine blk_alloc ?_ _)); refine blk_put (cs := #[.bool false, .int .u64 0, .int .u64 0, .int .i64 0]) ?_ 0 _ rfl; (with_reducible repeat (first | refine blk_drewN ?_ _ | refine blk_drew ?_ | refine blk_alloc ?_ _)); exact BK567.out) hb); have n5_ := Bs5 HB hb GE542.out GE543.out GE553.out GE560.out GE567.out; clear BK542; clear BK543; clear BK553; clear BK560; clear BK567; clear HB; have BK542 := n0_; have BK543 := n1_; have BK553 := n2_; have BK560 := n3_; have BK567 := n4_; have HB := n5_; clear n0_ n1_ n2_ n3_ n4_ n5_; (try clear hb)))
       go_ret
       exact ⟨eS, bw5 HB.out GE542.out GE543.out GE553.out GE560.out GE567.out⟩
   ·rw [if_neg c10] at H
    exact absurd H (by simp)
  ·rw [if_neg c7] at H
   exact absurd H (by simp)
 ·replace c5 := Bool.eq_false_iff.mpr c5
  subst c5
  have H1 : (none) = some r := by rw [if_neg (show ¬ (false = true) by decide)] at H; exact H
  clear H
  have H := H1
  clear H1
  exact absurd H (by simp)
end Go.Proofs.Ytodgadhegcjbhaa.Q
end
section
namespace Go.Proofs.Ytodgadhegcjbhaa.Open
set_option linter.unusedVariables false
open Go.RowKit Go.WideShapes Go.Proofs.YtodgadhegcjbhaaW.PrintWords Go.Proofs.YtodgadhegcjbhaaW.PrintLast Go.Proofs.YtodgadhegcjbhaaW.PrintMore
open Go.Proofs.Ytodgadhegcjbhaa.Rows (uptoBulk uptoBulkAll)
def Opens {α : Type} (P : Program) (t : TypeId) (K : Kd α) (wf : α → Prop) (mu : α → Nat) : Prop :=
  ∀ {H : Type} (enc : TypeId × Value → H) (W : World) (spare : Nat → Bool) (held : Bool) (n : Nat) (cs : List Value) (x : DataW H × List MemPlace),
    DataW.trod enc P W 0 spare held n t cs = some x → ∃ a, K.K W a cs ∧ wf a ∧ mu a ≤ uptoBulk x.1
def wfInt (k : IntKind) (n : Int) : Prop := (Lit.int k n).wf = true
def wfStr (s : ByteArray) : Prop := s.size ≤ maxLen
def wfAny {α : Type} (_ : α) : Prop := True
def mu1 {α : Type} (_ : α) : Nat := 1
def muStr (s : ByteArray) : Nat := s.size + 1
theorem opens_int {P : Program} {t : TypeId} {k : IntKind} (hu : P.underlying t = some (.int k)) : Opens P t (Kd.int k) (wfInt k) mu1 := by
  intro H enc W spare held n cs x h
  obtain ⟨a, rfl, rfl, hw⟩ := DataW.trod_int hu h
  exact ⟨a, rfl, hw, by simp [mu1, uptoBulk]⟩
theorem opens_bool {P : Program} {t : TypeId} (hu : P.underlying t = some .bool) : Opens P t Kd.bool wfAny mu1 := by
  intro H enc W spare held n cs x h
  obtain ⟨a, rfl, rfl⟩ := DataW.trod_bool hu h
  exact ⟨a, rfl, trivial, by simp [mu1, uptoBulk]⟩
theorem opens_string {P : Program} {t : TypeId} (hu : P.underlying t = some .string) : Opens P t Kd.string wfStr muStr := by
  intro H enc W spare held n cs x h
  obtain ⟨s, rfl, rfl, hs⟩ := DataW.trod_string hu h
  exact ⟨s, rfl, hs, by simp [muStr, uptoBulk]⟩
theorem sized_text {H : Type} {enc : TypeId × Value → H} {P : Program} {W : World} {base : Nat} {spare : Nat → Bool} {held : Bool} {t : TypeId} {s : ByteArray} {d : DataW H} {ps : List MemPlace} {ts : List TypeId} {ds : List (DataW H)} {j : Nat}
    (hsz : (DataW.weightsEach P ts ds).all (· ≤ reachBytes) = true) (ht : ts[j]? = some t) (hd : ds[j]? = some d) (hu : P.underlying t = some .string)
    (h : DataW.Trod enc P W base spare held t (.string s) d ps) : s.size ≤ 140737488351232 := by
  obtain ⟨fuel, hf⟩ := h
  obtain ⟨s', hcs, hx, hs⟩ := DataW.trod_string hu hf
  simp [Value.cells] at hcs
  subst hcs
  obtain ⟨hx, _⟩ := Prod.mk.inj hx
  subst hx
  have z := sized_string hsz ht hd
  rw [Array.length_toList] at z
  exact z
end Go.Proofs.Ytodgadhegcjbhaa.Open
end
section
namespace Go.Proofs.Ytodgadhegcjbhaa.Q
set_option linter.unusedVariables false
set_option linter.unusedSimpArgs false
open Go.RowKit Go.Proofs.YtodgadhegcjbhaaW.PrintWords Go.Proofs.YtodgadhegcjbhaaW.PrintLast Go.Proofs.YtodgadhegcjbhaaW.PrintMore Go.Proofs.Ytodgadhegcjbhaa.Open
open Go.Proofs.Ytodgadhegcjbhaa.Rows (uptoBulk uptoBulkAll)
def wf25 (x : S25) : Prop := (wfInt .u64) x.f0 ∧ (wfInt .u64) x.f1
def mu25 (x : S25) : Nat := mu1 x.f0 + mu1 x.f1 + 1
theorem opn25 : Opens Try.prog 25 k25 wf25 mu25 := by
  intro H enc W spare held n cs x h
  obtain ⟨xs, m, rfl, rfl, hl, hs, hf⟩ := DataW.trod_struct Try.underlying25 h
  have hc : cs.length = 2 := hl.trans (by kernel_rfl)
  have hx : xs.length = 2 := hs
  clear hl hs h
  match cs, hc, xs, hx, hf with
  | [c0, c1], _, [y0, y1], _, hf =>
    have e0 : Try.prog.cellsOf 23 = 1 := by kernel_rfl
    have e1 : Try.prog.cellsOf 23 = 1 := by kernel_rfl
    have g0 := hf 0 _ rfl
    simp only [List.getElem_toArray, List.getElem_cons_zero, List.getElem_cons_succ, e0] at g0
    obtain ⟨a0, K0, w0, m0⟩ := (opens_int Try.underlying23) enc W spare held m [c0] y0 g0
    have g1 := hf 1 _ rfl
    simp only [List.getElem_toArray, List.getElem_cons_zero, List.getElem_cons_succ, e1] at g1
    obtain ⟨a1, K1, w1, m1⟩ := (opens_int Try.underlying23) enc W spare held m [c1] y1 g1
    exact ⟨⟨a0, a1⟩, ⟨[c0], [c1], rfl, K0, K1⟩, ⟨w0, w1⟩, by simp only [mu25, List.map_cons, List.map_nil, uptoBulk, uptoBulkAll]; omega⟩
def wf27 (x : S27) : Prop := wfAny x.f0 ∧ wf25 x.f1 ∧ (wfInt .i64) x.f2
def mu27 (x : S27) : Nat := mu1 x.f0 + mu25 x.f1 + mu1 x.f2 + 1
theorem opn27 : Opens Try.prog 27 k27 wf27 mu27 := by
  intro H enc W spare held n cs x h
  obtain ⟨xs, m, rfl, rfl, hl, hs, hf⟩ := DataW.trod_struct Try.underlying27 h
  have hc : cs.length = 4 := hl.trans (by kernel_rfl)
  have hx : xs.length = 3 := hs
  clear hl hs h
  match cs, hc, xs, hx, hf with
  | [c0, c1, c2, c3], _, [y0, y1, y2], _, hf =>
    have e0 : Try.prog.cellsOf 4 = 1 := by kernel_rfl
    have e1 : Try.prog.cellsOf 25 = 2 := by kernel_rfl
    have e2 : Try.prog.cellsOf 3 = 1 := by kernel_rfl
    have g0 := hf 0 _ rfl
    simp only [List.getElem_toArray, List.getElem_cons_zero, List.getElem_cons_succ, e0] at g0
    obtain ⟨a0, K0, w0, m0⟩ := (opens_bool Try.underlying4) enc W spare held m [c0] y0 g0
    have g1 := hf 1 _ rfl
    simp only [List.getElem_toArray, List.getElem_cons_zero, List.getElem_cons_succ, e1] at g1
    obtain ⟨a1, K1, w1, m1⟩ := opn25 enc W spare held m [c1, c2] y1 g1
    have g2 := hf 2 _ rfl
    simp only [List.getElem_toArray, List.getElem_cons_zero, List.getElem_cons_succ, e2] at g2
    obtain ⟨a2, K2, w2, m2⟩ := (opens_int Try.underlying3) enc W spare held m [c3] y2 g2
    exact ⟨⟨a0, a1, a2⟩, ⟨[c0], [c1, c2, c3], rfl, K0, ⟨[c1, c2], [c3], rfl, K1, K2⟩⟩, ⟨w0, w1, w2⟩, by simp only [mu27, List.map_cons, List.map_nil, uptoBulk, uptoBulkAll]; omega⟩
def wf30 (x : S30) : Prop := (wfInt .u8) x.f0 ∧ (wfInt .i64) x.f1
def mu30 (x : S30) : Nat := mu1 x.f0 + mu1 x.f1 + 1
theorem opn30 : Opens Try.prog 30 k30 wf30 mu30 := by
  intro H enc W spare held n cs x h
  obtain ⟨xs, m, rfl, rfl, hl, hs, hf⟩ := DataW.trod_struct Try.underlying30 h
  have hc : cs.length = 2 := hl.trans (by kernel_rfl)
  have hx : xs.length = 2 := hs
  clear hl hs h
  match cs, hc, xs, hx, hf with
  | [c0, c1], _, [y0, y1], _, hf =>
    have e0 : Try.prog.cellsOf 28 = 1 := by kernel_rfl
    have e1 : Try.prog.cellsOf 3 = 1 := by kernel_rfl
    have g0 := hf 0 _ rfl
    simp only [List.getElem_toArray, List.getElem_cons_zero, List.getElem_cons_succ, e0] at g0
    obtain ⟨a0, K0, w0, m0⟩ := (opens_int Try.underlying28) enc W spare held m [c0] y0 g0
    have g1 := hf 1 _ rfl
    simp only [List.getElem_toArray, List.getElem_cons_zero, List.getElem_cons_succ, e1] at g1
    obtain ⟨a1, K1, w1, m1⟩ := (opens_int Try.underlying3) enc W spare held m [c1] y1 g1
    exact ⟨⟨a0, a1⟩, ⟨[c0], [c1], rfl, K0, K1⟩, ⟨w0, w1⟩, by simp only [mu30, List.map_cons, List.map_nil, uptoBulk, uptoBulkAll]; omega⟩
end Go.Proofs.Ytodgadhegcjbhaa.Q
end
section
namespace Go.Proofs.Ytodgadhegcjbhaa.Q
set_option linter.unusedVariables false
open Go.RowKit Go.Proofs.YtodgadhegcjbhaaW.PrintWords Go.Proofs.YtodgadhegcjbhaaW.PrintLast Go.Proofs.YtodgadhegcjbhaaW.PrintMore Go.Proofs.Ytodgadhegcjbhaa.Open
def spoorlaw11_MsgPrefixes.Pure : Prop := ∀ (a0_0 : Bool) (a0_1 : Int) (a0_2 : Int) (a0_3 : Int) (a1_0 : Int) (a1_1 : Int) (a2 : ByteArray), wf27 (⟨a0_0, (⟨a0_1, a0_2⟩ : S25), a0_3⟩ : S27) → wf30 (⟨a1_0, a1_1⟩ : S30) → wfStr a2 → a2.size ≤ 140737488351232 → ∃ k, spoorlaw11_MsgPrefixes.f k a0_0 a0_1 a0_2 a0_3 a1_0 a1_1 a2 = some true
end Go.Proofs.Ytodgadhegcjbhaa.Q
end
section
namespace Go.Proofs.Ytodgadhegcjbhaa.Base
set_option linter.unusedVariables false
open Go.RowKit Go.Proofs.YtodgadhegcjbhaaW.PrintWords Go.Proofs.YtodgadhegcjbhaaW.PrintLast Go.Proofs.YtodgadhegcjbhaaW.PrintMore
theorem Ev.pos {α : Type} {c : Prop} [Decidable c] {f g : Nat → Option α} {r : α} (h : c) (k : Ev f r) : Ev (fun n => if c then f n else g n) r := Ev.congr (fun _ => if_pos h) k
theorem Ev.neg {α : Type} {c : Prop} [Decidable c] {f g : Nat → Option α} {r : α} (h : ¬ c) (k : Ev g r) : Ev (fun n => if c then f n else g n) r := Ev.congr (fun _ => if_neg h) k
theorem Ev.const {α : Type} {o : Option α} {r : α} (h : o = some r) : Ev (fun _ => o) r := ⟨0, fun _ _ => h⟩
theorem Ev.succ {α : Type} {g : Nat → Option α} {r : α} (h : Ev (fun k => g (k + 1)) r) : Ev g r := Ev.step (fun _ => rfl) h
theorem Ev.to {α : Type} {g : Nat → Option α} {r q : α} (h : Ev g r) (e : r = q) : Ev g q := e ▸ h
theorem w64 {n : Int} (h0 : -9223372036854775808 ≤ n) (h1 : n ≤ 9223372036854775807) : wrap64 n = n := by unfold wrap64; omega
theorem u64w {n : Int} (h0 : 0 ≤ n) (h1 : n < 18446744073709551616) : IntKind.u64.wrap n = n := by
  simp [IntKind.wrap, IntKind.bits, IntKind.signed]
  omega
theorem u64m (n : Int) : IntKind.u64.wrap n = n % 18446744073709551616 := by simp [IntKind.wrap, IntKind.bits, IntKind.signed]
theorem wf_u64 {n : Int} (h : (Lit.int .u64 n).wf = true) : 0 ≤ n ∧ n < 18446744073709551616 := by
  have h1 : IntKind.u64.min ≤ n ∧ n ≤ IntKind.u64.max := by simpa [Lit.wf] using h
  have a : IntKind.u64.min = 0 := by decide
  have b : IntKind.u64.max = 18446744073709551615 := by decide
  omega
def Bytes (l : List Int) : Prop := ∀ x ∈ l, 0 ≤ x ∧ x < 256
theorem Bytes.nil : Bytes [] := fun _ h => by cases h
theorem Bytes.cons {x : Int} {l : List Int} (h0 : 0 ≤ x) (h1 : x < 256) (h : Bytes l) : Bytes (x :: l) := fun y hy => by
  rcases List.mem_cons.1 hy with rfl | hy
  · exact ⟨h0, h1⟩
  · exact h y hy
theorem Bytes.head {x : Int} {l : List Int} (h : Bytes (x :: l)) : 0 ≤ x ∧ x < 256 := h x (by simp)
theorem Bytes.tail {x : Int} {l : List Int} (h : Bytes (x :: l)) : Bytes l := fun y hy => h y (by simp [hy])
theorem Bytes.append {a b : List Int} (ha : Bytes a) (hb : Bytes b) : Bytes (a ++ b) := fun x hx => (List.mem_append.1 hx).elim (ha x) (hb x)
theorem Bytes.left {a b : List Int} (h : Bytes (a ++ b)) : Bytes a := fun x hx => h x (by simp [hx])
theorem Bytes.right {a b : List Int} (h : Bytes (a ++ b)) : Bytes b := fun x hx => h x (by simp [hx])
theorem Bytes.drop {l : List Int} (h : Bytes l) (n : Nat) : Bytes (l.drop n) := fun x hx => h x (List.mem_of_mem_drop hx)
theorem Bytes.take {l : List Int} (h : Bytes l) (n : Nat) : Bytes (l.take n) := fun x hx => h x (List.mem_of_mem_take hx)
theorem bytesOf_bytes (s : ByteArray) : Bytes (bytesOf s) := by
  intro x hx
  obtain ⟨b, _, rfl⟩ := List.mem_map.1 hx
  have := b.toNat_lt
  omega
theorem str_ext {a b : ByteArray} (h : a.data.toList = b.data.toList) : a = b := by
  cases a with | mk a => cases b with | mk b =>
  have : a = b := Array.toList_inj.mp h
  rw [this]
theorem str_bytes (s : ByteArray) : strOfNums (bytesOf s) = s := by
  refine str_ext ?_
  rw [strOfNums_data, bytesOf, List.map_map]
  conv => rhs; rw [← List.map_id s.data.toList]
  refine List.map_congr_left fun b _ => ?_
  simp
theorem bytes_str {l : List Int} (h : Bytes l) : bytesOf (strOfNums l) = l := by
  rw [bytesOf, strOfNums_data, List.map_map]
  conv => rhs; rw [← List.map_id l]
  refine List.map_congr_left fun x hx => ?_
  obtain ⟨h0, h1⟩ := h x hx
  simp
  omega
theorem str_append (a b : List Int) : strOfNums (a ++ b) = strOfNums a ++ strOfNums b := by
  refine str_ext ?_
  rw [ByteArray.data_append, Array.toList_append, strOfNums_data, strOfNums_data, strOfNums_data, List.map_append]
theorem bytes_append (a b : ByteArray) : bytesOf (a ++ b) = bytesOf a ++ bytesOf b := by
  unfold bytesOf
  rw [ByteArray.data_append, Array.toList_append, List.map_append]
theorem bytes_extract (s : ByteArray) (i j : Nat) : bytesOf (s.extract i j) = ((bytesOf s).take j).drop i := by
  unfold bytesOf
  rw [ByteArray.data_extract, Array.toList_extract, List.extract_eq_take_drop, List.map_take, List.map_drop, List.drop_take]
theorem bytes_from (s : ByteArray) (i : Nat) : bytesOf (s.extract i s.size) = (bytesOf s).drop i := by
  rw [bytes_extract, List.take_of_length_le (by rw [bytesOf_length]; exact Nat.le_refl _)]
theorem str_from (s : ByteArray) (i : Nat) : s.extract i s.size = strOfNums ((bytesOf s).drop i) := by rw [← bytes_from, str_bytes]
theorem bt_of {s : ByteArray} {l : List Int} (h : bytesOf s = l) (i : Int) : bt s i = rd l i := by rw [← rd_bytesOf, h]
theorem rd_drop {l : List Int} {i : Nat} {x : Int} {r : List Int} (h : l.drop i = x :: r) : rd l (i : Int) = x := by
  have h1 : l[i]? = some x := by
    have := List.getElem?_drop (xs := l) (i := i) (j := 0)
    rw [h] at this
    simpa using this.symm
  simp [rd, List.getD_eq_getElem?_getD, h1]
theorem drop_lt {l : List Int} {i : Nat} {x : Int} {r : List Int} (h : l.drop i = x :: r) : i < l.length := by
  rcases Nat.lt_or_ge i l.length with g | g
  · exact g
  · rw [List.drop_eq_nil_of_le g] at h; cases h
theorem drop_next {α : Type} {l : List α} {i : Nat} {x : α} {r : List α} (h : l.drop i = x :: r) : l.drop (i + 1) = r := by
  rw [← List.drop_drop, h]; rfl
theorem drop_nil_le {α : Type} {l : List α} {i : Nat} (h : l.drop i = []) : l.length ≤ i := List.drop_eq_nil_iff.1 h
theorem or128 {x : Int} (h0 : 0 ≤ x) (h1 : x < 256) : Go.bits .or .u8 x 128 = x % 128 + 128 := by
  have h : ∀ n : Fin 256, Go.bits .or .u8 ((n.val : Nat) : Int) 128 = ((n.val : Nat) : Int) % 128 + 128 := by decide +kernel
  have := h ⟨x.toNat, by omega⟩
  simpa [Int.toNat_of_nonneg h0] using this
theorem andNot128 {x : Int} (h0 : 0 ≤ x) (h1 : x < 256) : Go.bits .andNot .u8 x 128 = x % 128 := by
  have h : ∀ n : Fin 256, Go.bits .andNot .u8 ((n.val : Nat) : Int) 128 = ((n.val : Nat) : Int) % 128 := by decide +kernel
  have := h ⟨x.toNat, by omega⟩
  simpa [Int.toNat_of_nonneg h0] using this
theorem bits_or_comm (k : IntKind) (x y : Int) : Go.bits .or k x y = Go.bits .or k y x := by
  unfold Go.bits
  simp only [BitVec.or_comm]
theorem wraps_u64 (n : Int) (h₀ : 0 ≤ n) (h₁ : n < 2 ^ 64) : IntKind.u64.wrap n = n := u64w h₀ (by omega)
theorem or_join {x y : Int} (i : Nat) (hx : 0 ≤ x) (hm : x % 2 ^ i = 0) (hx1 : x < 18446744073709551616) (hy : 0 ≤ y) (hy1 : y < 2 ^ i) (hy2 : y < 18446744073709551616) : Go.bits .or .u64 x y = x + y :=
  bits_join .u64 64 (by decide) wraps_u64 i x y hx hm (by omega) hy hy1 (by omega)
end Go.Proofs.Ytodgadhegcjbhaa.Base
end
section
namespace Go.Proofs.Ytodgadhegcjbhaa.Num
set_option linter.unusedVariables false
open Go.RowKit Go.Proofs.YtodgadhegcjbhaaW.PrintWords Go.Proofs.YtodgadhegcjbhaaW.PrintLast Go.Proofs.YtodgadhegcjbhaaW.PrintMore Go.Proofs.Ytodgadhegcjbhaa.Base
def putL (n : Nat) : List Int := if n < 128 then [(n : Int)] else ((n : Int) % 128 + 128) :: putL (n / 128)
termination_by n
theorem putL_small {n : Nat} (h : n < 128) : putL n = [(n : Int)] := by rw [putL, if_pos h]
theorem putL_great {n : Nat} (h : ¬ n < 128) : putL n = ((n : Int) % 128 + 128) :: putL (n / 128) := by rw [putL, if_neg h]
theorem putL_ne (n : Nat) : putL n ≠ [] := by
  rw [putL]
  split <;> simp
theorem putL_pos (n : Nat) : 0 < (putL n).length := List.length_pos_iff.2 (putL_ne n)
theorem putL_bytes (n : Nat) : Bytes (putL n) := by
  induction n using Nat.strongRecOn with
  | _ n ih =>
    by_cases h : n < 128
    · rw [putL_small h]
      exact Bytes.cons (by omega) (by omega) Bytes.nil
    · rw [putL_great h]
      exact Bytes.cons (by omega) (by omega) (ih _ (by omega))
theorem putL_len_aux : ∀ (j n : Nat), n < 128 ^ (j + 1) → (putL n).length ≤ j + 1
  | 0, n, h => by rw [putL_small (by simpa using h)]; simp
  | j + 1, n, h => by
    by_cases g : n < 128
    · rw [putL_small g]; simp
    · rw [putL_great g, List.length_cons]
      have := putL_len_aux j (n / 128) (by
        rw [Nat.div_lt_iff_lt_mul (by decide)]
        rwa [Nat.pow_succ] at h)
      omega
theorem putL_len {n : Nat} (h : n < 18446744073709551616) : (putL n).length ≤ 10 := putL_len_aux 9 n (Nat.lt_of_lt_of_le h (by decide))
def getL : Nat → Int → List Int → Int × List Int × Int
  | _, _, [] => (0, [], 5)
  | i, n, b :: r => if i = 9 ∧ b > 1 then (0, [], 7) else if b ≥ 128 then getL (i + 1) (n + b % 128 * 128 ^ i) r else if b = 0 ∧ 0 < i then (0, [], 7) else (n + b * 128 ^ i, r, 0)
theorem getL_put (more : List Int) : ∀ (m i : Nat) (n : Int), i ≤ 9 → m * 128 ^ i < 18446744073709551616 → (0 < i → 0 < m) → getL i n (putL m ++ more) = (n + m * 128 ^ i, more, 0) := by
  intro m
  induction m using Nat.strongRecOn with
  | _ m ih =>
    intro i n hi hm h0
    have h9 : i = 9 → m ≤ 1 := by
      rintro rfl
      have : m * 9223372036854775808 < 18446744073709551616 := by simpa using hm
      omega
    by_cases h : m < 128
    · rw [putL_small h]
      simp only [List.cons_append, List.nil_append, getL]
      rw [if_neg (by omega), if_neg (by omega), if_neg (by omega)]
    · rw [putL_great h]
      simp only [List.cons_append, getL]
      have hd : m / 128 * 128 ^ (i + 1) ≤ m * 128 ^ i := by
        rw [Nat.pow_succ, Nat.mul_comm (128 ^ i), ← Nat.mul_assoc]
        exact Nat.mul_le_mul_right _ (Nat.div_mul_le_self _ _)
      rw [if_neg (by omega), if_pos (by omega), ih (m / 128) (by omega) (i + 1) _ (by omega) (by omega) (by omega)]
      refine Prod.ext ?_ rfl
      show n + ((m : Int) % 128 + 128) % 128 * 128 ^ i + ((m / 128 : Nat) : Int) * 128 ^ (i + 1) = n + (m : Int) * 128 ^ i
      rw [Int.pow_succ]
      have e : ((m : Int) % 128 + 128) % 128 = (m : Int) % 128 := by omega
      have e2 : ((m / 128 : Nat) : Int) = (m : Int) / 128 := by omega
      rw [e, e2, Int.add_assoc, Int.mul_comm (128 ^ i) 128, ← Int.mul_assoc, ← Int.add_mul]
      congr 2
      omega
theorem getL_put0 {m : Nat} (more : List Int) (h : m < 18446744073709551616) : getL 0 0 (putL m ++ more) = ((m : Int), more, 0) := by
  rw [getL_put more m 0 0 (by omega) (by simpa using h) (by omega)]
  simp
theorem getL_back : ∀ (l : List Int) (i : Nat) (n v : Int) (r : List Int), Bytes l → i ≤ 9 → getL i n l = (v, r, 0) → ∃ m : Nat, v = n + m * 128 ^ i ∧ l = putL m ++ r ∧ (0 < i → 0 < m) ∧ m * 128 ^ i < 18446744073709551616
  | [], i, n, v, r, _, _, h => by simp [getL] at h
  | b :: l, i, n, v, r, hb, hi, h => by
    obtain ⟨b0, b1⟩ := hb.head
    simp only [getL] at h
    by_cases h1 : i = 9 ∧ b > 1
    · rw [if_pos h1] at h; simp at h
    rw [if_neg h1] at h
    by_cases h2 : b ≥ 128
    · rw [if_pos h2] at h
      obtain ⟨m, hv, hl, hm, hs⟩ := getL_back l (i + 1) _ v r hb.tail (by omega) h
      have hm := hm (by omega)
      have e : (((b % 128).toNat + m * 128 : Nat) : Int) = b % 128 + m * 128 := by omega
      refine ⟨(b % 128).toNat + m * 128, ?_, ?_, by omega, ?_⟩
      · rw [hv, e, Int.pow_succ, Int.add_mul, Int.add_assoc, Int.mul_comm (128 ^ i) 128, Int.mul_assoc]
      · rw [putL_great (by omega), hl]
        have e1 : ((b % 128).toNat + m * 128) / 128 = m := by omega
        have e2 : ((((b % 128).toNat + m * 128 : Nat) : Int) % 128 + 128) = b := by omega
        rw [e1, e2]
        rfl
      · have hp : 0 < 128 ^ i := Nat.pow_pos (by decide)
        have hlt : ((b % 128).toNat + m * 128) * 128 ^ i < (m + 1) * 128 ^ (i + 1) := by
          rw [Nat.pow_succ, Nat.mul_comm (128 ^ i), ← Nat.mul_assoc]
          exact Nat.mul_lt_mul_of_pos_right (by omega) hp
        have hi8 : i ≤ 8 := by omega
        have hmm : m * 128 ^ (i + 1) < 18446744073709551616 := hs
        have key : ∀ j : Nat, j ≤ 8 → m * 128 ^ (j + 1) < 18446744073709551616 → 18446744073709551616 = 128 ^ (j + 1) * (18446744073709551616 / 128 ^ (j + 1)) := by
          intro j hj _
          have : j = 0 ∨ j = 1 ∨ j = 2 ∨ j = 3 ∨ j = 4 ∨ j = 5 ∨ j = 6 ∨ j = 7 ∨ j = 8 := by omega
          rcases this with rfl | rfl | rfl | rfl | rfl | rfl | rfl | rfl | rfl <;> decide
        have hq := key i hi8 hmm
        have hm1 : m + 1 ≤ 18446744073709551616 / 128 ^ (i + 1) := by
          have : m * 128 ^ (i + 1) < 18446744073709551616 / 128 ^ (i + 1) * 128 ^ (i + 1) := by rw [Nat.mul_comm (18446744073709551616 / _)]; omega
          exact Nat.lt_of_mul_lt_mul_right this
        have : (m + 1) * 128 ^ (i + 1) ≤ 18446744073709551616 := by
          rw [hq, Nat.mul_comm (128 ^ (i + 1))]
          exact Nat.mul_le_mul_right _ hm1
        omega
    rw [if_neg h2] at h
    by_cases h3 : b = 0 ∧ 0 < i
    · rw [if_pos h3] at h; simp at h
    rw [if_neg h3] at h
    simp only [Prod.mk.injEq, and_true] at h
    obtain ⟨rfl, rfl⟩ := h
    refine ⟨b.toNat, by rw [Int.toNat_of_nonneg b0], ?_, by omega, ?_⟩
    · rw [putL_small (by omega), Int.toNat_of_nonneg b0]; rfl
    · have : i = 0 ∨ i = 1 ∨ i = 2 ∨ i = 3 ∨ i = 4 ∨ i = 5 ∨ i = 6 ∨ i = 7 ∨ i = 8 ∨ i = 9 := by omega
      rcases this with rfl | rfl | rfl | rfl | rfl | rfl | rfl | rfl | rfl | rfl <;> simp only [Nat.reducePow] <;> omega
theorem getL_back0 {l r : List Int} {v : Int} (hb : Bytes l) (h : getL 0 0 l = (v, r, 0)) : ∃ m : Nat, v = m ∧ l = putL m ++ r ∧ m < 18446744073709551616 := by
  obtain ⟨m, hv, hl, _, hs⟩ := getL_back l 0 0 v r hb (by omega) h
  exact ⟨m, by simpa using hv, hl, by simpa using hs⟩
theorem getL_err : ∀ (l : List Int) (i : Nat) (n : Int), (getL i n l).2.2 = 0 ∨ ((getL i n l).2.2 ≠ 0 ∧ (getL i n l).1 = 0 ∧ (getL i n l).2.1 = [])
  | [], _, _ => by simp [getL]
  | b :: l, i, n => by
    simp only [getL]
    split
    · exact .inr (by simp)
    split
    · exact getL_err l _ _
    split
    · exact .inr (by simp)
    · exact .inl rfl
theorem getL_len : ∀ (l : List Int) (i : Nat) (n : Int), (getL i n l).2.1.length ≤ l.length
  | [], _, _ => by simp [getL]
  | b :: l, i, n => by
    simp only [getL]
    split
    · simp
    split
    · have := getL_len l (i + 1) (n + b % 128 * 128 ^ i); simp; omega
    split
    · simp
    · simp
end Go.Proofs.Ytodgadhegcjbhaa.Num
end
section
namespace Go.Proofs.Ytodgadhegcjbhaa.Addr
set_option linter.unusedVariables false
open Go.RowKit Go.Proofs.YtodgadhegcjbhaaW.PrintWords Go.Proofs.YtodgadhegcjbhaaW.PrintLast Go.Proofs.YtodgadhegcjbhaaW.PrintMore Go.Proofs.Ytodgadhegcjbhaa.Base
def Wn (six : Bool) : Nat := if six then 128 else 32
theorem Wn_le (six : Bool) : Wn six ≤ 128 := by cases six <;> simp [Wn]
def hi (n : Nat) : Int := ((n / 18446744073709551616 : Nat) : Int)
def lo (n : Nat) : Int := ((n % 18446744073709551616 : Nat) : Int)
theorem lo_range (n : Nat) : 0 ≤ lo n ∧ lo n < 18446744073709551616 := by unfold lo; omega
theorem hi_range {n : Nat} (h : n < 340282366920938463463374607431768211456) : 0 ≤ hi n ∧ hi n < 18446744073709551616 := by unfold hi; omega
theorem of_parts {h l : Int} (h0 : 0 ≤ h) (h1 : h < 18446744073709551616) (l0 : 0 ≤ l) (l1 : l < 18446744073709551616) : ∃ n, n < 340282366920938463463374607431768211456 ∧ h = hi n ∧ l = lo n :=
  ⟨h.toNat * 18446744073709551616 + l.toNat, by omega, by unfold hi; omega, by unfold lo; omega⟩
theorem p2pos (n : Nat) : 0 < 2 ^ n := Nat.two_pow_pos n
theorem p2le {n : Nat} (h : n ≤ 128) : 2 ^ n ≤ 340282366920938463463374607431768211456 := Nat.le_trans (Nat.pow_le_pow_right (by decide) h) (by decide)
theorem p2le64 {n : Nat} (h : n ≤ 64) : 2 ^ n ≤ 18446744073709551616 := Nat.le_trans (Nat.pow_le_pow_right (by decide) h) (by decide)
theorem p2lt64 {n : Nat} (h : n < 64) : 2 ^ n ≤ 9223372036854775808 := Nat.le_trans (Nat.pow_le_pow_right (show 0 < 2 by decide) (show n ≤ 63 by omega)) (by decide)
theorem p2split {n : Nat} (h : 64 ≤ n) : 2 ^ n = 18446744073709551616 * 2 ^ (n - 64) := by
  have : 2 ^ n = 2 ^ 64 * 2 ^ (n - 64) := by rw [← Nat.pow_add]; congr 1; omega
  rw [this]
theorem p2split' {n : Nat} (h : n ≤ 64) : 18446744073709551616 = 2 ^ n * 2 ^ (64 - n) := by
  have : 2 ^ 64 = 2 ^ n * 2 ^ (64 - n) := by rw [← Nat.pow_add]; congr 1; omega
  rw [← this]
theorem wn_pow (six : Bool) : 2 ^ Wn six ≤ 340282366920938463463374607431768211456 := p2le (Wn_le six)
theorem wn_six {n : Nat} : (n < 2 ^ Wn true) ↔ n < 340282366920938463463374607431768211456 := Iff.rfl
theorem wn_four {n : Nat} : (n < 2 ^ Wn false) ↔ n < 4294967296 := Iff.rfl
theorem mod_parts {n N : Nat} (h : 64 ≤ n) : N % 2 ^ n = 0 ↔ (N / 18446744073709551616) % 2 ^ (n - 64) = 0 ∧ N % 18446744073709551616 = 0 := by
  rw [p2split h, Nat.mod_mul]
  constructor
  · intro e
    constructor
    · rcases Nat.eq_zero_or_pos (N / 18446744073709551616 % 2 ^ (n - 64)) with z | z
      · exact z
      · omega
    · omega
  · rintro ⟨a, b⟩
    rw [a, b]
theorem mod_low {n N : Nat} (h : n ≤ 64) : (N % 18446744073709551616) % 2 ^ n = N % 2 ^ n := by
  refine Nat.mod_mod_of_dvd N ⟨2 ^ (64 - n), ?_⟩
  exact p2split' h
theorem or_zero {x y : Int} (hx : 0 ≤ x) (hx1 : x < 18446744073709551616) (hy : 0 ≤ y) (hy1 : y < 18446744073709551616) : Go.bits .or .u64 x y = 0 ↔ x = 0 ∧ y = 0 := by
  obtain ⟨a, rfl⟩ := Int.eq_ofNat_of_zero_le hx
  obtain ⟨b, rfl⟩ := Int.eq_ofNat_of_zero_le hy
  rw [(bits_nat .u64 64 (by decide) wraps_u64 a b (by omega) (by omega)).2]
  constructor
  · intro h
    have h0 : a ||| b = 0 := by exact_mod_cast h
    have := Nat.or_eq_zero_iff.1 h0
    omega
  · rintro ⟨h1, h2⟩
    have e1 : a = 0 := by omega
    have e2 : b = 0 := by omega
    subst e1; subst e2
    rfl
theorem and_mask {x : Int} {j : Nat} (hx : 0 ≤ x) (hx1 : x < 18446744073709551616) (hj : j ≤ 64) : Go.bits .and .u64 x ((2 ^ j - 1 : Nat) : Int) = x % ((2 ^ j : Nat) : Int) := by
  have := bits_mask .u64 64 (by decide) wraps_u64 j hj x hx (by omega)
  have e : ((2 ^ j - 1 : Nat) : Int) = (2 : Int) ^ j - 1 := by
    rw [Int.natCast_sub (p2pos j)]; simp
  rw [e, this]
  simp
theorem shl1 {m : Nat} (h : m < 64) : shl .u64 1 (m : Int) = ((2 ^ m : Nat) : Int) := by
  have := p2lt64 h
  unfold shl
  rw [Int.toNat_natCast, Nat.min_eq_left (by simp [IntKind.bits]; omega), Int.one_mul]
  have e : (2 : Int) ^ m = ((2 ^ m : Nat) : Int) := by simp
  rw [e]
  generalize 2 ^ m = q at *
  exact u64w (by omega) (by omega)
def okP (six : Bool) (n : Nat) (len : Int) : Prop := 0 ≤ len ∧ len ≤ Wn six ∧ n < 2 ^ Wn six ∧ n % 2 ^ (Wn six - len.toNat) = 0
instance (six : Bool) (n : Nat) (len : Int) : Decidable (okP six n len) := by unfold okP; exact inferInstance
def hostN (six : Bool) (len : Int) : Nat := 2 ^ (Wn six - len.toNat) - 1
def hasP (six : Bool) (n : Nat) (len : Int) (six' : Bool) (m : Nat) : Prop := okP six n len ∧ six = six' ∧ m < 2 ^ Wn six' ∧ n ≤ m ∧ m ≤ n + hostN six len
instance (six : Bool) (n : Nat) (len : Int) (six' : Bool) (m : Nat) : Decidable (hasP six n len six' m) := by unfold hasP; exact inferInstance
end Go.Proofs.Ytodgadhegcjbhaa.Addr
end
section
namespace Go.Proofs.Ytodgadhegcjbhaa.Be
set_option linter.unusedVariables false
open Go.RowKit Go.Proofs.YtodgadhegcjbhaaW.PrintWords Go.Proofs.YtodgadhegcjbhaaW.PrintLast Go.Proofs.YtodgadhegcjbhaaW.PrintMore Go.Proofs.Ytodgadhegcjbhaa.Base
def be : Nat → Nat → List Int
  | 0, _ => []
  | j + 1, n => be j (n / 256) ++ [((n % 256 : Nat) : Int)]
def nb (l : List Int) : Nat := l.foldl (fun a b => 256 * a + b.toNat) 0
theorem snoc_ind {P : List Int → Prop} (h0 : P []) (h1 : ∀ l x, P l → P (l ++ [x])) (l : List Int) : P l := by
  have h : ∀ r : List Int, P r.reverse := by
    intro r
    induction r with
    | nil => exact h0
    | cons a r ih => rw [List.reverse_cons]; exact h1 _ _ ih
  have := h l.reverse
  rwa [List.reverse_reverse] at this
theorem nb_snoc (l : List Int) (b : Int) : nb (l ++ [b]) = 256 * nb l + b.toNat := by simp [nb, List.foldl_append]
theorem be_len : ∀ j n, (be j n).length = j
  | 0, _ => rfl
  | j + 1, n => by rw [be, List.length_append, be_len j]; rfl
theorem be_bytes : ∀ j n, Bytes (be j n)
  | 0, _ => Bytes.nil
  | j + 1, n => by
    rw [be]
    exact (be_bytes j _).append (Bytes.cons (by omega) (by omega) Bytes.nil)
theorem nb_be : ∀ j n, nb (be j n) = n % 256 ^ j
  | 0, n => by simp [be, nb, Nat.mod_one]
  | j + 1, n => by
    rw [be, nb_snoc, nb_be j, Int.toNat_natCast, Nat.pow_succ, Nat.mul_comm (256 ^ j) 256, Nat.mod_mul]
    omega
theorem be_nb (l : List Int) : Bytes l → be l.length (nb l) = l := by
  induction l using snoc_ind with
  | h0 => intro _; rfl
  | h1 l x ih =>
    intro hb
    have hx := hb.right.head
    have e : (l ++ [x]).length = l.length + 1 := by simp
    rw [e, be, nb_snoc]
    have e1 : (256 * nb l + x.toNat) / 256 = nb l := by omega
    have e2 : (((256 * nb l + x.toNat) % 256 : Nat) : Int) = x := by omega
    rw [e1, e2, ih hb.left]
theorem be_split : ∀ (b a n : Nat), be (a + b) n = be a (n / 256 ^ b) ++ be b n
  | 0, a, n => by simp [be]
  | b + 1, a, n => by
    rw [show a + (b + 1) = a + b + 1 by omega, be, be_split b a, be, Nat.div_div_eq_div_mul, Nat.pow_succ, Nat.mul_comm 256, List.append_assoc]
theorem nb_append (a b : List Int) : nb (a ++ b) = nb a * 256 ^ b.length + nb b := by
  induction b using snoc_ind with
  | h0 => simp [nb]
  | h1 l x ih =>
    rw [← List.append_assoc, nb_snoc, nb_snoc, ih, List.length_append, List.length_singleton, Nat.pow_succ, Nat.mul_add, ← Nat.add_assoc, ← Nat.mul_assoc (nb a), Nat.mul_comm 256 (nb a * _)]
theorem nb_lt (l : List Int) : Bytes l → nb l < 256 ^ l.length := by
  induction l using snoc_ind with
  | h0 => intro _; simp [nb]
  | h1 l x ih =>
    intro hb
    have hx := hb.right.head
    have := ih hb.left
    rw [nb_snoc, List.length_append, List.length_singleton, Nat.pow_succ]
    omega
theorem be_zero (j : Nat) : be j 0 = List.replicate j 0 := by
  induction j with
  | zero => rfl
  | succ j ih => rw [be, Nat.zero_div, ih, List.replicate_succ']; rfl
theorem be_mod (j n m : Nat) (h : n % 256 ^ j = m % 256 ^ j) : be j n = be j m := by
  have e : ∀ x, be j (nb (be j x)) = be j x := fun x => by
    have := be_nb (be j x) (be_bytes j x)
    rwa [be_len] at this
  rw [← e n, ← e m, nb_be, nb_be, h]
theorem be_zeros {j n : Nat} (h : n % 256 ^ j = 0) : be j n = List.replicate j 0 := by rw [be_mod j n 0 (by rw [h]; simp), be_zero]
theorem nb_zeros (j : Nat) : nb (List.replicate j 0) = 0 := by rw [← be_zero, nb_be, Nat.zero_mod]
theorem bytes_zeros (n : Nat) : Bytes (List.replicate n 0) := fun x hx => by
  rw [List.eq_of_mem_replicate hx]
  omega
end Go.Proofs.Ytodgadhegcjbhaa.Be
end
section
namespace Go.Proofs.Ytodgadhegcjbhaa.Msg
set_option linter.unusedVariables false
open Go.RowKit Go.Proofs.YtodgadhegcjbhaaW.PrintWords Go.Proofs.YtodgadhegcjbhaaW.PrintLast Go.Proofs.YtodgadhegcjbhaaW.PrintMore Go.Proofs.Ytodgadhegcjbhaa.Base Go.Proofs.Ytodgadhegcjbhaa.Num Go.Proofs.Ytodgadhegcjbhaa.Addr Go.Proofs.Ytodgadhegcjbhaa.Be
def Bn (six : Bool) : Nat := if six then 16 else 4
theorem bn_wn (six : Bool) : Wn six = 8 * Bn six := by cases six <;> rfl
theorem p256 (j : Nat) : 256 ^ j = 2 ^ (8 * j) := by rw [Nat.pow_mul]
def Kn (len : Int) : Nat := (len.toNat + 7) / 8
def sixB (six : Bool) : Int := if six then 6 else 4
def preL (six : Bool) (n : Nat) (len : Int) : List Int := sixB six :: len :: (be (Bn six) n).take (Kn len)
theorem kn_le {six : Bool} {len : Int} (h : len ≤ Wn six) : Kn len ≤ Bn six := by rw [bn_wn] at h; unfold Kn; omega
theorem pre_tail {six : Bool} {n : Nat} {len : Int} (h : okP six n len) : be (Bn six) n = (be (Bn six) n).take (Kn len) ++ List.replicate (Bn six - Kn len) 0 := by
  obtain ⟨h0, h1, h2, h3⟩ := h
  have hk := kn_le h1
  have hw := bn_wn six
  obtain ⟨b, hb⟩ : ∃ b, Bn six = Kn len + b := ⟨Bn six - Kn len, by omega⟩
  rw [hb, be_split, List.take_left' (be_len _ _), Nat.add_sub_cancel_left]
  congr 1
  apply be_zeros
  rw [p256]
  apply Nat.mod_eq_zero_of_dvd
  refine Nat.dvd_trans (Nat.pow_dvd_pow 2 ?_) (Nat.dvd_of_mod_eq_zero h3)
  unfold Kn at hb
  omega
theorem preL_bytes {six : Bool} {n : Nat} {len : Int} (h : okP six n len) : Bytes (preL six n len) := by
  obtain ⟨h0, h1, _⟩ := h
  have := Wn_le six
  refine Bytes.cons (by cases six <;> simp [sixB]) (by cases six <;> simp [sixB]) (Bytes.cons h0 (by omega) ((be_bytes _ _).take _))
theorem preL_len {six : Bool} {n : Nat} {len : Int} (h : okP six n len) : (preL six n len).length ≤ 18 := by
  simp only [preL, List.length_cons, List.length_take, be_len]
  have : Bn six ≤ 16 := by cases six <;> simp [Bn]
  omega
def preN (six : Bool) (len : Int) (l : List Int) : Nat := nb (l.take (Kn len) ++ List.replicate (Bn six - Kn len) 0)
abbrev Pfx := Bool × Nat × Int
def getP : List Int → Option (Pfx × List Int)
  | b :: len :: l => if (b = 4 ∨ b = 6) ∧ len ≤ Wn (b == 6) ∧ Kn len ≤ l.length ∧ okP (b == 6) (preN (b == 6) len l) len then some ((b == 6, preN (b == 6) len l, len), l.drop (Kn len)) else none
  | _ => none
theorem preN_put {six : Bool} {n : Nat} {len : Int} (r : List Int) (h : okP six n len) : preN six len ((be (Bn six) n).take (Kn len) ++ r) = n := by
  unfold preN
  rw [List.take_left' (by rw [List.length_take, be_len]; exact Nat.min_eq_left (kn_le h.2.1)), ← pre_tail h, nb_be]
  have hw : 256 ^ Bn six = 2 ^ Wn six := by rw [p256, bn_wn]
  rw [hw, Nat.mod_eq_of_lt h.2.2.1]
theorem getP_put {six : Bool} {n : Nat} {len : Int} (r : List Int) (h : okP six n len) : getP (preL six n len ++ r) = some ((six, n, len), r) := by
  simp only [preL, List.cons_append, getP]
  have e6 : (sixB six == 6) = six := by cases six <;> rfl
  have e4 : sixB six = 4 ∨ sixB six = 6 := by cases six <;> simp [sixB]
  have hk := kn_le h.2.1
  rw [e6, preN_put r h, if_pos ⟨e4, h.2.1, by simp [be_len]; omega, h⟩, List.drop_left' (by rw [List.length_take, be_len]; exact Nat.min_eq_left hk)]
theorem getP_back {l r : List Int} {six : Bool} {n : Nat} {len : Int} (hb : Bytes l) (h : getP l = some ((six, n, len), r)) : okP six n len ∧ l = preL six n len ++ r := by
  match l, h with
  | b :: ln :: l, h =>
    simp only [getP] at h
    split at h
    · rename_i c
      obtain ⟨c1, c2, c3, c4⟩ := c
      simp only [Option.some.injEq, Prod.mk.injEq] at h
      obtain ⟨⟨rfl, rfl, rfl⟩, rfl⟩ := h
      refine ⟨c4, ?_⟩
      have e6 : sixB (b == 6) = b := by rcases c1 with rfl | rfl <;> rfl
      have hk := kn_le c2
      have hl : (l.take (Kn ln) ++ List.replicate (Bn (b == 6) - Kn ln) 0).length = Bn (b == 6) := by rw [List.length_append, List.length_take, List.length_replicate]; omega
      have e := be_nb (l.take (Kn ln) ++ List.replicate (Bn (b == 6) - Kn ln) 0) ((hb.tail.tail.take _).append (bytes_zeros _))
      rw [hl] at e
      simp only [preL, e6, List.cons_append]
      congr 2
      unfold preN
      rw [e, List.take_left' (by rw [List.length_take]; exact Nat.min_eq_left c3), List.take_append_drop]
    · cases h
  | [], h => simp [getP] at h
  | [_], h => simp [getP] at h
def okA (k i : Int) : Prop := k = 1 ∧ 0 ≤ i ∧ i ≤ 65536 ∨ (k = 2 ∨ k = 3) ∧ i = 0
instance (k i : Int) : Decidable (okA k i) := by unfold okA; exact inferInstance
def actL (k i : Int) : List Int := k :: (if k = 1 then putL i.toNat else [])
def rdN (most : Int) (l : List Int) : Option (Int × List Int) := if (getL 0 0 l).2.2 = 0 ∧ (getL 0 0 l).1 ≤ most then some ((getL 0 0 l).1, (getL 0 0 l).2.1) else none
theorem rdN_put {most m : Int} (r : List Int) (h0 : 0 ≤ m) (h : m ≤ most) (h1 : m < 18446744073709551616) : rdN most (putL m.toNat ++ r) = some (m, r) := by
  unfold rdN
  rw [getL_put0 r (by omega), if_pos ⟨rfl, by show ((m.toNat : Nat) : Int) ≤ _; omega⟩]
  rw [show ((m.toNat : Nat) : Int) = m by omega]
theorem rdN_back {most v : Int} {l r : List Int} (hb : Bytes l) (h : rdN most l = some (v, r)) : 0 ≤ v ∧ v ≤ most ∧ v < 18446744073709551616 ∧ l = putL v.toNat ++ r := by
  unfold rdN at h
  split at h
  · rename_i c
    simp only [Option.some.injEq, Prod.mk.injEq] at h
    obtain ⟨m, hv, hl, hm⟩ := getL_back0 (l := l) (v := (getL 0 0 l).1) (r := (getL 0 0 l).2.1) hb (Prod.ext rfl (Prod.ext rfl c.1))
    have e : v.toNat = m := by omega
    exact ⟨by omega, by omega, by omega, by rw [e, ← h.2]; exact hl⟩
  · cases h
def getA : List Int → Option ((Int × Int) × List Int)
  | k :: l => if k = 1 then (rdN 65536 l).bind fun x => some ((1, x.1), x.2) else if k = 2 ∨ k = 3 then some ((k, 0), l) else none
  | [] => none
theorem okA_act {k i : Int} (h : okA k i) : k = 1 ∧ 0 ≤ i ∧ i ≤ 65536 ∨ k ≠ 1 ∧ (k = 2 ∨ k = 3) ∧ i = 0 := by unfold okA at h; omega
theorem getA_put {k i : Int} (r : List Int) (h : okA k i) : getA (actL k i ++ r) = some ((k, i), r) := by
  rcases okA_act h with ⟨rfl, h0, h1⟩ | ⟨h1, h2, rfl⟩
  · simp only [actL, if_pos, List.cons_append, getA]
    rw [rdN_put r h0 h1 (by omega)]; rfl
  · simp only [actL, if_neg h1, List.cons_append, List.nil_append, getA]
    rw [if_pos h2]
theorem actL_bytes {k i : Int} (h : okA k i) : Bytes (actL k i) := by
  rcases okA_act h with ⟨rfl, h0, h1⟩ | ⟨h1, h2, rfl⟩
  · simp only [actL, if_pos]; exact Bytes.cons (by omega) (by omega) (putL_bytes _)
  · simp only [actL, if_neg h1]; exact Bytes.cons (by omega) (by omega) Bytes.nil
theorem actL_len {k i : Int} (h : okA k i) : (actL k i).length ≤ 11 := by
  rcases okA_act h with ⟨rfl, h0, h1⟩ | ⟨h1, h2, rfl⟩
  · simp only [actL, if_pos, List.length_cons]
    have := putL_len (n := i.toNat) (by omega)
    omega
  · simp [actL, h1]
structure E11 where
  kd : Int
  ro : Int
  sq : Int
  ti : Int
  six : Bool
  n : Nat
  ln : Int
  ak : Int
  ai : Int
  ifc : Int
  pe : Int
  deriving DecidableEq
def noP (e : E11) : Prop := e.six = false ∧ e.n = 0 ∧ e.ln = 0
def noA (e : E11) : Prop := e.ak = 0 ∧ e.ai = 0
def okE (e : E11) : Prop := (0 ≤ e.ro ∧ e.ro ≤ 1048576 ∧ 1 ≤ e.sq ∧ e.sq ≤ 1099511627776 ∧ 0 ≤ e.ti ∧ e.ti ≤ 1099511627776) ∧
  ((e.kd = 1 ∨ e.kd = 2) ∧ noP e ∧ noA e ∧ e.ifc = 0 ∧ e.pe = 0 ∨ e.kd = 3 ∧ okP e.six e.n e.ln ∧ okA e.ak e.ai ∧ e.ifc = 0 ∧ e.pe = 0 ∨ e.kd = 4 ∧ okP e.six e.n e.ln ∧ noA e ∧ e.ifc = 0 ∧ e.pe = 0 ∨
   e.kd = 5 ∧ noP e ∧ noA e ∧ (0 ≤ e.ifc ∧ e.ifc ≤ 65536) ∧ (0 ≤ e.pe ∧ e.pe ≤ 1048576) ∨ e.kd = 6 ∧ noP e ∧ noA e ∧ (0 ≤ e.ifc ∧ e.ifc ≤ 65536) ∧ e.pe = 0)
instance (e : E11) : Decidable (noP e) := by unfold noP; exact inferInstance
instance (e : E11) : Decidable (noA e) := by unfold noA; exact inferInstance
instance (e : E11) : Decidable (okE e) := by unfold okE; exact inferInstance
end Go.Proofs.Ytodgadhegcjbhaa.Msg
end
section
namespace Go.Proofs.Ytodgadhegcjbhaa.Addr
set_option linter.unusedVariables false
open Go.RowKit Go.Proofs.YtodgadhegcjbhaaW.PrintWords Go.Proofs.YtodgadhegcjbhaaW.PrintLast Go.Proofs.YtodgadhegcjbhaaW.PrintMore Go.Proofs.Ytodgadhegcjbhaa.Base Go.Proofs.Ytodgadhegcjbhaa.Q
theorem right_is (six : Bool) {n : Nat} (hn : n < 340282366920938463463374607431768211456) : addr_Right.f six (hi n) (lo n) = some (decide (n < 2 ^ Wn six)) := by
  obtain ⟨h1, h2⟩ := hi_range hn
  obtain ⟨h3, h4⟩ := lo_range n
  unfold addr_Right.f
  cases six with
  | true => rw [if_pos rfl, decide_eq_true (wn_six.2 hn)]
  | false =>
    rw [if_neg (by simp)]
    by_cases h : n < 4294967296
    · rw [decide_eq_true (wn_four.2 h), if_pos (by unfold hi; omega)]
      have : lo n / 4294967296 = 0 := by unfold lo; omega
      rw [this]; rfl
    · rw [decide_eq_false (fun q => h (wn_four.1 q))]
      by_cases hz : hi n = 0
      · rw [if_pos hz]
        have : lo n / 4294967296 ≠ 0 := by unfold lo; unfold hi at hz; omega
        simp [this]
      · rw [if_neg hz]
theorem wide_is (six : Bool) : addr_Wide.f six = some ((Wn six : Nat) : Int) := by cases six <;> rfl
theorem below_is {n : Nat} (hn : n ≤ 128) : addr_below.f (n : Int) = some (hi (2 ^ n - 1), lo (2 ^ n - 1)) := by
  unfold addr_below.f
  by_cases h : n = 128
  · subst h
    rw [if_pos (by omega)]
    decide +kernel
  rw [if_neg (by omega)]
  by_cases h2 : 64 ≤ n
  · have e : wrap64 ((n : Int) - 64) = ((n - 64 : Nat) : Int) := by rw [w64 (by omega) (by omega)]; omega
    rw [if_pos (by omega), e, if_pos (by omega), shl1 (by omega)]
    have hp := p2lt64 (show n - 64 < 64 by omega)
    have hq := p2pos (n - 64)
    rw [p2split h2]
    generalize 2 ^ (n - 64) = q at *
    rw [u64w (by omega) (by omega)]
    unfold hi lo
    congr 2 <;> omega
  · rw [if_neg (by omega), if_pos (by omega), shl1 (by omega)]
    have hp := p2lt64 (show n < 64 by omega)
    have hq := p2pos n
    generalize 2 ^ n = q at *
    rw [u64w (by omega) (by omega)]
    unfold hi lo
    congr 2 <;> omega
theorem host_is (six : Bool) (a b : Int) {len : Int} (h0 : 0 ≤ len) (h1 : len ≤ Wn six) : addr_host.f six a b len = some (hi (hostN six len), lo (hostN six len)) := by
  have hw := Wn_le six
  simp only [addr_host.f, wide_is, Option.bind_some]
  have e : wrap64 (((Wn six : Nat) : Int) - len) = ((Wn six - len.toNat : Nat) : Int) := by rw [w64 (by omega) (by omega)]; omega
  rw [e, below_is (by omega)]
  rfl
theorem check_ev (six : Bool) {n : Nat} (hn : n < 340282366920938463463374607431768211456) (len : Int) : Ev (fun k => addr_Check.f k six (hi n) (lo n) len) (if okP six n len then 0 else 2) := by
  have hw := Wn_le six
  have bad : ¬ okP six n len → Ev (fun k => addr_Check.j0 k true six (hi n) (lo n) len) (if okP six n len then 0 else 2) := by
    intro h
    rw [if_neg h]
    refine Ev.succ ?_
    simp only [addr_Check.j0]
    exact Ev.pos trivial (Ev.now _)
  simp only [addr_Check.f, wide_is, right_is six hn, Option.bind_some]
  by_cases h0 : len < 0
  · exact Ev.pos h0 (bad (fun h => by have := h.1; omega))
  refine Ev.neg h0 ?_
  by_cases h1 : len > ((Wn six : Nat) : Int)
  · exact Ev.pos h1 (bad (fun h => by have := h.2.1; omega))
  refine Ev.neg h1 ?_
  by_cases h2 : n < 2 ^ Wn six
  · rw [decide_eq_true h2]
    refine Ev.succ ?_
    simp only [addr_Check.j0, host_is six _ _ (show 0 ≤ len by omega) (show len ≤ ((Wn six : Nat) : Int) by omega), Option.bind_some]
    refine Ev.neg (by simp) ?_
    obtain ⟨a0, a1⟩ := hi_range hn
    obtain ⟨b0, b1⟩ := lo_range n
    have hk : Wn six - len.toNat ≤ 128 := by omega
    have key : Go.bits .or .u64 (Go.bits .and .u64 (hi n) (hi (hostN six len))) (Go.bits .and .u64 (lo n) (lo (hostN six len))) = 0 ↔ n % 2 ^ (Wn six - len.toNat) = 0 := by
      unfold hostN
      generalize Wn six - len.toNat = k at *
      have hp := p2pos k
      by_cases g : 64 ≤ k
      · have e1 : hi (2 ^ k - 1) = ((2 ^ (k - 64) - 1 : Nat) : Int) := by
          rw [p2split g]
          have := p2pos (k - 64)
          generalize 2 ^ (k - 64) = q at *
          unfold hi; omega
        have e2 : lo (2 ^ k - 1) = ((2 ^ 64 - 1 : Nat) : Int) := by
          rw [p2split g]
          have := p2pos (k - 64)
          generalize 2 ^ (k - 64) = q at *
          unfold lo; omega
        have p64 := p2le64 (show k - 64 ≤ 64 by omega)
        have q64 := p2pos (k - 64)
        rw [e1, e2, and_mask a0 a1 (by omega), and_mask b0 b1 (by omega), mod_parts g]
        have hm := Int.emod_nonneg (hi n) (show ((2 ^ (k - 64) : Nat) : Int) ≠ 0 by omega)
        have hl := Int.emod_lt_of_pos (hi n) (show (0 : Int) < ((2 ^ (k - 64) : Nat) : Int) by omega)
        rw [or_zero hm (by omega) (by omega) (by omega)]
        have c1 : hi n % ((2 ^ (k - 64) : Nat) : Int) = ((n / 18446744073709551616 % 2 ^ (k - 64) : Nat) : Int) := by unfold hi; simp
        have c2 : lo n % ((2 ^ 64 : Nat) : Int) = ((n % 18446744073709551616 : Nat) : Int) := by unfold lo; omega
        rw [c1, c2]
        omega
      · have g' : k ≤ 64 := by omega
        have p64 := p2lt64 (show k < 64 by omega)
        have e1 : hi (2 ^ k - 1) = ((2 ^ 0 - 1 : Nat) : Int) := by
          generalize 2 ^ k = q at *
          unfold hi; omega
        have e2 : lo (2 ^ k - 1) = ((2 ^ k - 1 : Nat) : Int) := by
          generalize 2 ^ k = q at *
          unfold lo; omega
        rw [e1, e2, and_mask a0 a1 (by omega), and_mask b0 b1 g', ← mod_low g']
        have hm := Int.emod_nonneg (lo n) (show ((2 ^ k : Nat) : Int) ≠ 0 by omega)
        have hl := Int.emod_lt_of_pos (lo n) (show (0 : Int) < ((2 ^ k : Nat) : Int) by omega)
        rw [or_zero (by omega) (by omega) hm (by omega)]
        have c2 : lo n % ((2 ^ k : Nat) : Int) = ((n % 18446744073709551616 % 2 ^ k : Nat) : Int) := by unfold lo; simp
        rw [c2]
        omega
    by_cases z : n % 2 ^ (Wn six - len.toNat) = 0
    · rw [if_pos (show okP six n len from ⟨by omega, by omega, h2, z⟩)]
      exact Ev.pos (key.2 z) (Ev.now _)
    · rw [if_neg (fun h : okP six n len => z h.2.2.2)]
      exact Ev.neg (fun h => z (key.1 h)) (Ev.now _)
  · rw [decide_eq_false h2]
    exact bad (fun h => h2 h.2.2.1)
end Go.Proofs.Ytodgadhegcjbhaa.Addr
end
section
namespace Go.Proofs.Ytodgadhegcjbhaa.Num
set_option linter.unusedVariables false
open Go.RowKit Go.Proofs.YtodgadhegcjbhaaW.PrintWords Go.Proofs.YtodgadhegcjbhaaW.PrintLast Go.Proofs.YtodgadhegcjbhaaW.PrintMore Go.Proofs.Ytodgadhegcjbhaa.Base Go.Proofs.Ytodgadhegcjbhaa.Q
theorem add_ev : ∀ (n : Nat) (xs : List Int), xs.length + (putL n).length ≤ 140737488355328 → Ev (fun k => num_Add.l0 k xs (n : Int)) (xs ++ putL n) := by
  intro n
  induction n using Nat.strongRecOn with
  | _ n ih =>
    intro xs hl
    have hp := putL_pos n
    by_cases h : n < 128
    · refine Ev.step (f := fun _ => some (xs ++ [(n : Int) % 256])) (fun k => ?_) ?_
      · simp only [num_Add.l0]
        rw [if_neg (by omega), if_pos (by omega)]
      · rw [putL_small h]
        exact Ev.const (by rw [Int.emod_eq_of_lt (by omega) (by omega)])
    · have e := putL_great h
      rw [e, List.length_cons] at hl
      have := ih (n / 128) (by omega) (xs ++ [(n : Int) % 128 + 128]) (by simp; omega)
      refine Ev.step (f := fun k => num_Add.l0 k (xs ++ [(n : Int) % 128 + 128]) ((n / 128 : Nat) : Int)) (fun k => ?_) ?_
      · simp only [num_Add.l0]
        rw [if_pos (by omega), if_pos (by omega), or128 (by omega) (by omega)]
        have e1 : (n : Int) % 256 % 128 = (n : Int) % 128 := by omega
        have e2 : ((n / 128 : Nat) : Int) = (n : Int) / 128 := by omega
        rw [e1, e2]
      · rw [e]
        simpa using this
def getR (x : Int × List Int × Int) : Int × ByteArray × Int := (x.1, strOfNums x.2.1, x.2.2)
theorem p128 {i : Nat} (h : i ≤ 9) : (0 : Int) < 128 ^ i ∧ (128 : Int) ^ i ≤ 9223372036854775808 ∧ (2 : Int) ^ (7 * i) = 128 ^ i ∧ (i ≤ 8 → (128 : Int) ^ i ≤ 72057594037927936) := by
  have : i = 0 ∨ i = 1 ∨ i = 2 ∨ i = 3 ∨ i = 4 ∨ i = 5 ∨ i = 6 ∨ i = 7 ∨ i = 8 ∨ i = 9 := by omega
  rcases this with rfl | rfl | rfl | rfl | rfl | rfl | rfl | rfl | rfl | rfl <;> decide
theorem shl7 {c : Int} {i : Nat} (h0 : 0 ≤ c) (h1 : c < 128) (hi : i ≤ 9) (h9 : i = 9 → c ≤ 1) : shl .u64 (IntKind.u64.wrap c) (wrap64 (7 * (i : Int))) = c * 128 ^ i ∧ c * 128 ^ i + 128 ^ i ≤ 18446744073709551616 := by
  have : i = 0 ∨ i = 1 ∨ i = 2 ∨ i = 3 ∨ i = 4 ∨ i = 5 ∨ i = 6 ∨ i = 7 ∨ i = 8 ∨ i = 9 := by omega
  rw [u64w h0 (by omega)]
  rcases this with rfl | rfl | rfl | rfl | rfl | rfl | rfl | rfl | rfl | rfl <;> simp [shl, wrap64, u64m, IntKind.bits] <;> omega
theorem get_ev (s : ByteArray) (hs : s.size ≤ 281474976710656) : ∀ (l : List Int) (i : Nat) (n : Int), (bytesOf s).drop i = l → i ≤ 9 → 0 ≤ n → n < 128 ^ i → Ev (fun k => num_Get.l0 k s n (mn (s.size : Int) 10) (i : Int)) (getR (getL i n l)) := by
  intro l
  induction l with
  | nil =>
    intro i n hd hi h0 h1
    have hle := drop_nil_le hd
    rw [bytesOf_length] at hle
    refine Ev.step (f := fun _ => some (0, (⟨#[]⟩ : ByteArray), 5)) (fun k => ?_) (Ev.now _)
    simp only [num_Get.l0]
    rw [if_neg (by unfold mn; split <;> omega)]
  | cons b l ih =>
    intro i n hd hi h0 h1
    have hlt := drop_lt hd
    rw [bytesOf_length] at hlt
    have hb : bt s (i : Int) = b := by rw [← rd_bytesOf]; exact rd_drop hd
    have hbb : Bytes (b :: l) := by rw [← hd]; exact (bytesOf_bytes s).drop i
    obtain ⟨b0, b1⟩ := hbb.head
    have hnext := drop_next hd
    have hrest : s.extract (i + 1) s.size = strOfNums l := by rw [str_from, hnext]
    obtain ⟨p0, p1, p2, p3⟩ := p128 hi
    have hmn : (i : Int) < mn (s.size : Int) 10 := by unfold mn; split <;> omega
    have hw : 0 ≤ wrap64 (7 * (i : Int)) := by rw [w64 (by omega) (by omega)]; omega
    have hw1 : wrap64 ((i : Int) + 1) = ((i + 1 : Nat) : Int) := by rw [w64 (by omega) (by omega)]; omega
    simp only [getL]
    -- the head of the loop
    have head : ∀ (q : Bool) (x : Int), (i = 9 → q = decide (b > 1)) → (i ≠ 9 → q = false) → Go.bits .or .u64 n (shl .u64 (IntKind.u64.wrap (Go.bits .andNot .u8 b 128)) (wrap64 (7 * (i : Int)))) = x → ∀ k, num_Get.l0 (k + 1) s n (mn (s.size : Int) 10) (i : Int) = num_Get.j1 k s x (i : Int) b (mn (s.size : Int) 10) (i : Int) q := by
      intro q x q1 q2 hx k
      simp only [num_Get.l0]
      rw [if_pos hmn, if_pos (by omega), if_pos (by omega), if_pos hw, hb, hx]
      by_cases h9 : i = 9
      · rw [if_pos (by omega), q1 h9]
      · rw [if_neg (by omega), q2 h9]
    rw [andNot128 b0 b1] at head
    by_cases h1' : i = 9 ∧ b > 1
    · rw [if_pos h1']
      refine Ev.step (fun k => head true _ (fun _ => by simp [h1'.2]) (fun h => absurd h1'.1 h) rfl k) ?_
      refine Ev.step (f := fun k => num_Get.j2 k s _ (i : Int) b (mn (s.size : Int) 10) (i : Int) true) (fun k => by simp only [num_Get.j1]; rw [if_pos trivial]) ?_
      exact Ev.step (f := fun _ => some (0, (⟨#[]⟩ : ByteArray), 7)) (fun k => by simp only [num_Get.j2]; rw [if_pos trivial]) (Ev.now _)
    rw [if_neg h1']
    have hc := shl7 (c := b % 128) (i := i) (by omega) (by omega) hi (fun h => by omega)
    have hor : Go.bits .or .u64 n (shl .u64 (IntKind.u64.wrap (b % 128)) (wrap64 (7 * (i : Int)))) = n + b % 128 * 128 ^ i := by
      have hn : 0 ≤ b % 128 * 128 ^ i := Int.mul_nonneg (by omega) (by omega)
      rw [hc.1, bits_or_comm, or_join (7 * i) hn (by rw [p2]; exact Int.mul_emod_left _ _) (by omega) h0 (by rw [p2]; exact h1) (by omega), Int.add_comm]
    have hd1 := head false _ (fun h => by symm; simp; omega) (fun _ => rfl) hor
    by_cases h2 : b ≥ 128
    · rw [if_pos h2]
      have hi8 : i ≤ 8 := by omega
      refine Ev.step hd1 ?_
      refine Ev.step (f := fun k => num_Get.j2 k s (n + b % 128 * 128 ^ i) (i : Int) b (mn (s.size : Int) 10) (i : Int) false) (fun k => by simp only [num_Get.j1]; rw [if_neg (by simp), if_neg (by omega)]) ?_
      refine Ev.step (f := fun k => num_Get.l0 k s (n + b % 128 * 128 ^ i) (mn (s.size : Int) 10) ((i + 1 : Nat) : Int)) (fun k => by simp only [num_Get.j2]; rw [if_neg (by simp), if_neg (by omega), hw1]) ?_
      have hn : 0 ≤ b % 128 * 128 ^ i := Int.mul_nonneg (by omega) (by omega)
      refine ih (i + 1) _ hnext (by omega) (by omega) ?_
      rw [Int.pow_succ]
      have : b % 128 * 128 ^ i ≤ 127 * 128 ^ i := Int.mul_le_mul_of_nonneg_right (by omega) (by omega)
      omega
    rw [if_neg h2]
    refine Ev.step hd1 ?_
    have hm : b % 128 = b := by omega
    rw [hm]
    by_cases h3 : b = 0 ∧ 0 < i
    · rw [if_pos h3]
      refine Ev.step (f := fun k => num_Get.j2 k s (n + b * 128 ^ i) (i : Int) b (mn (s.size : Int) 10) (i : Int) true) (fun k => by simp only [num_Get.j1]; rw [if_neg (by simp), if_pos h3.1, decide_eq_true (by omega)]) ?_
      exact Ev.step (f := fun _ => some (0, (⟨#[]⟩ : ByteArray), 7)) (fun k => by simp only [num_Get.j2]; rw [if_pos trivial]) (Ev.now _)
    · rw [if_neg h3]
      refine Ev.step (f := fun k => num_Get.j2 k s (n + b * 128 ^ i) (i : Int) b (mn (s.size : Int) 10) (i : Int) false) (fun k => by
        simp only [num_Get.j1]
        rw [if_neg (by simp)]
        by_cases hb0 : b = 0
        · rw [if_pos hb0, decide_eq_false (by omega)]
        · rw [if_neg hb0]) ?_
      refine Ev.step (f := fun _ => some (n + b * 128 ^ i, strOfNums l, 0)) (fun k => ?_) (Ev.now _)
      simp only [num_Get.j2]
      rw [if_neg (by simp), if_pos (by omega), hw1, if_pos (by omega), if_pos (by omega), Int.toNat_natCast, hrest]
theorem get_ev0 (s : ByteArray) (hs : s.size ≤ 281474976710656) : Ev (fun k => num_Get.f k s) (getR (getL 0 0 (bytesOf s))) := by
  have := get_ev s hs (bytesOf s) 0 0 rfl (by omega) (by omega) (by simp)
  simpa [num_Get.f] using this
theorem getL_val {l : List Int} (hb : Bytes l) : 0 ≤ (getL 0 0 l).1 ∧ (getL 0 0 l).1 < 18446744073709551616 := by
  rcases getL_err l 0 0 with h | ⟨_, h, _⟩
  · obtain ⟨m, hv, _, hm⟩ := getL_back0 (l := l) (v := (getL 0 0 l).1) (r := (getL 0 0 l).2.1) hb (Prod.ext rfl (Prod.ext rfl h))
    omega
  · rw [h]; omega
theorem reader_ev (s : ByteArray) (hs : s.size ≤ 281474976710656) : Ev (fun k => num_Reader_Num.f k s 0) (getR (getL 0 0 (bytesOf s))) := by
  simp only [num_Reader_Num.f]
  exact Ev.pos trivial (Ev.bind (get_ev0 s hs) (Ev.now _))
end Go.Proofs.Ytodgadhegcjbhaa.Num
end
section
namespace Go.Proofs.Ytodgadhegcjbhaa.Msg
set_option linter.unusedVariables false
open Go.RowKit Go.Proofs.YtodgadhegcjbhaaW.PrintWords Go.Proofs.YtodgadhegcjbhaaW.PrintLast Go.Proofs.YtodgadhegcjbhaaW.PrintMore Go.Proofs.Ytodgadhegcjbhaa.Base Go.Proofs.Ytodgadhegcjbhaa.Num Go.Proofs.Ytodgadhegcjbhaa.Addr Go.Proofs.Ytodgadhegcjbhaa.Be Go.Proofs.Ytodgadhegcjbhaa.Q
theorem iface_is (a : Int) : msg_iface.f a = some (decide (0 ≤ a ∧ a ≤ 65536)) := by
  unfold msg_iface.f
  by_cases h : a ≥ 0
  · rw [if_pos h]; congr 1; simp [h]
  · rw [if_neg h]; congr 1; simp; omega
theorem acts_is (k i : Int) : msg_acts.f k i = some (decide (okA k i)) := by
  unfold msg_acts.f
  rw [iface_is]
  by_cases h1 : k = 1
  · rw [if_pos h1]
    simp only [Option.bind_some]
    congr 1
    apply decide_eq_decide.2
    unfold okA
    omega
  rw [if_neg h1]
  by_cases h2 : k = 2
  · rw [if_pos h2]
    congr 1
    rw [Bool.eq_iff_iff]
    simp only [beq_iff_eq, decide_eq_true_eq]
    unfold okA
    omega
  rw [if_neg h2]
  by_cases h3 : k = 3
  · rw [if_pos h3]
    congr 1
    rw [Bool.eq_iff_iff]
    simp only [beq_iff_eq, decide_eq_true_eq]
    unfold okA
    omega
  rw [if_neg h3]
  congr 1
  rw [Bool.eq_iff_iff]
  simp only [decide_eq_true_eq]
  unfold okA
  constructor
  · intro h; cases h
  · omega
def okN (e : E11) : Prop := 0 ≤ e.ro ∧ e.ro ≤ 1048576 ∧ 1 ≤ e.sq ∧ e.sq ≤ 1099511627776 ∧ 0 ≤ e.ti ∧ e.ti ≤ 1099511627776
instance (e : E11) : Decidable (okN e) := by unfold okN; exact inferInstance
theorem byt8_be (n : Nat) : byt8 (n : Int) = be 8 n := by
  simp only [byt8, be, List.nil_append, List.cons_append]
  simp only [List.cons.injEq, and_true]
  omega
theorem word_six {n : Nat} (h : n < 340282366920938463463374607431768211456) : byt8 (hi n) ++ byt8 (lo n) = be 16 n := by
  unfold hi lo
  rw [byt8_be, byt8_be, show 16 = 8 + 8 from rfl, be_split 8 8 n]
  congr 1
  exact be_mod 8 _ _ (Nat.mod_mod _ _)
theorem word_four {n : Nat} (h : n < 4294967296) {k : Nat} (hk : k ≤ 4) : (byt8 (lo n * 4294967296 % 18446744073709551616) ++ byt8 0).take k = (be 4 n).take k := by
  have e : lo n * 4294967296 % 18446744073709551616 = ((n * 4294967296 : Nat) : Int) := by unfold lo; omega
  rw [e, byt8_be, show 8 = 4 + 4 from rfl, be_split 4 4, List.append_assoc, List.take_append_of_le_length (by rw [be_len]; omega)]
  congr 2
  omega
theorem prefix_is {six : Bool} {n : Nat} {len : Int} (xs : List Int) (h : okP six n len) (hx : xs.length < 140737488355000) : msg_prefix.f xs six (hi n) (lo n) len = some (xs ++ preL six n len) := by
  obtain ⟨h0, h1, h2, h3⟩ := h
  have hw := Wn_le six
  have hl := lo_range n
  have hn := Nat.lt_of_lt_of_le h2 (wn_pow six)
  have hh := hi_range hn
  unfold msg_prefix.f
  rw [if_pos ⟨h0, by omega, hh.1, by omega, hl.1, by omega, hx⟩]
  congr 2
  unfold preL pre_word
  have hk := kn_le h1
  cases six with
  | true =>
    rw [if_pos rfl, if_pos rfl, word_six hn]
    rfl
  | false =>
    rw [if_neg (by decide), if_neg (by decide), word_four (wn_four.1 h2) (show (len.toNat + 7) / 8 ≤ 4 from hk)]
    rfl
theorem add_is {n : Int} (xs : List Int) (h0 : 0 ≤ n) (h1 : n < 18446744073709551616) (hx : xs.length ≤ 140737488355000) : Ev (fun k => num_Add.f k xs (IntKind.u64.wrap n)) (xs ++ putL n.toNat) := by
  rw [u64w h0 h1, show n = ((n.toNat : Nat) : Int) by omega]
  simp only [num_Add.f, Int.toNat_natCast]
  have := putL_len (n := n.toNat) (by omega)
  exact add_ev _ _ (by omega)
theorem action_ev {k i : Int} (xs : List Int) (h : okA k i) (hx : xs.length ≤ 140737488354000) : Ev (fun q => msg_action.f q xs k i) (xs ++ actL k i) := by
  simp only [msg_action.f]
  refine Ev.pos (by omega) (Ev.bind (Ev.now _) ?_)
  unfold actL
  rcases okA_act h with ⟨rfl, h0, h1⟩ | ⟨h1, h2, rfl⟩
  · refine Ev.pos rfl (Ev.bind (add_is _ h0 (by omega) (by simp; omega)) ?_)
    rw [if_pos rfl, List.append_assoc]
    exact Ev.now _
  · refine Ev.neg h1 ?_
    rw [if_neg h1]
    exact Ev.now _
theorem putprefix_ev (six : Bool) {n : Nat} (hn : n < 340282366920938463463374607431768211456) (len : Int) : Ev (fun k => msg_PutPrefix.f k six (hi n) (lo n) len) (if okP six n len then (strOfNums (preL six n len), 0) else ((⟨#[]⟩ : ByteArray), 2)) := by
  simp only [msg_PutPrefix.f]
  refine Ev.bind (check_ev six hn len) ?_
  by_cases h : okP six n len
  · rw [if_pos h, if_pos h]
    refine Ev.pos rfl ?_
    rw [prefix_is [] h (by decide)]
    exact Ev.now _
  · rw [if_neg h, if_neg h]
    exact Ev.neg (by decide) (Ev.now _)
theorem putaction_ev (k i : Int) : Ev (fun q => msg_PutAction.f q k i) (if okA k i then (strOfNums (actL k i), 0) else ((⟨#[]⟩ : ByteArray), 2)) := by
  simp only [msg_PutAction.f]
  rw [acts_is]
  simp only [Option.bind_some]
  by_cases h : okA k i
  · rw [if_pos h]
    exact Ev.pos (decide_eq_true h) (Ev.bind (action_ev [] h (by decide)) (Ev.now _))
  · rw [if_neg h]
    exact Ev.neg (by simpa using h) (Ev.now _)
end Go.Proofs.Ytodgadhegcjbhaa.Msg
end
