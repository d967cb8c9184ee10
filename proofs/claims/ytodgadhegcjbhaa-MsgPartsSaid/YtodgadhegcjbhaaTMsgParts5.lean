-- Merged and trimmed by this session's program wip/tools/trim.py.
import Derived.Test.YtodgadhegcjbhaaTMsgParts4
section
namespace Go.Proofs.Ytodgadhegcjbhaa.Q
open Go.RowKit Go.Proofs.YtodgadhegcjbhaaW.PrintWords Go.Proofs.YtodgadhegcjbhaaW.PrintLast Go.Proofs.YtodgadhegcjbhaaW.PrintMore
attribute [local go_sem] max2_int min2_int max_two min_two max_three min_three max_four min_four   -- for this text's walks alone
set_option linter.unusedVariables false
set_option linter.unusedSimpArgs false
set_option maxHeartbeats 8000000 in
set_option maxRecDepth 100000 in
theorem msg_Get.calls (k : Nat) (a0 : ByteArray) (r1 : Int) (r2 : Int) (r3 : Int) (r4 : Int) (r5 : Bool) (r6 : Int) (r7 : Int) (r8 : Int) (r9 : Int) (r10 : Int) (r11 : Int) (r12 : Int) (r13 : Int) (w : World) (h : msg_Get.f k a0 = some (r1, r2, r3, r4, r5, r6, r7, r8, r9, r10, r11, r12, r13)) :
  Calls Try.prog 10 #[.string a0] w fun e w' => e = .returned (.tuple #[.agg #[.int .u8 r1, .int .i64 r2, .int .u64 r3, .int .i64 r4, .bool r5, .int .u64 r6, .int .u64 r7, .int .i64 r8, .int .u8 r9, .int .i64 r10, .int .i64 r11, .int .i64 r12], .int .i64 r13]) ∧ Below w.heap.size w w' := by
 have hu32 := Try.underlying32
 have hu56 := Try.underlying56
 have hu58 := Try.underlying58
 have hu27 := Try.underlying27
 have hu30 := Try.underlying30
 have HB := Ax (Below.refl w.heap.size w)
 have H : (if a0.toList = ([] : List UInt8) then (some (0, 0, 0, 0, false, 0, 0, 0, 0, 0, 0, 0, 7)) else (if 1 ≤ (a0.size : Int) then (if 0 < (a0.size : Int) then ((num_Reader_Many.f k (a0.extract 1 a0.size) 0 1048576).bind fun bt260 => ((num_Reader_Num.f k bt260.2.1 bt260.2.2).bind fun bt263 => ((num_Reader_Num.f k bt263.2.1 bt263.2.2).bind fun bt266 => (if (bt a0 0) = 3 then ((api_Prefix.f k bt266.2.1 bt266.2.2).bind fun bt270 => ((api_Action.f k bt270.2.2.2.2.1 bt270.2.2.2.2.2).bind fun bt276 => (msg_Get.j0 k bt276.2.2.1 bt276.2.2.2 (bt a0 0) bt260.1 bt263.1 (wrap64 (bt266.1)) bt270.1 bt270.2.1 bt270.2.2.1 bt270.2.2.2.1 bt276.1 bt276.2.1 0 0))) else (if (bt a0 0) = 4 then ((api_Prefix.f k bt266.2.1 bt266.2.2).bind fun bt280 => (msg_Get.j0 k bt280.2.2.2.2.1 bt280.2.2.2.2.2 (bt a0 0) bt260.1 bt263.1 (wrap64 (bt266.1)) bt280.1 bt280.2.1 bt280.2.2.1 bt280.2.2.2.1 0 0 0 0)) else (if (bt a0 0) = 5 then ((num_Reader_Many.f k bt266.2.1 bt266.2.2 65536).bind fun bt286 => ((num_Reader_Many.f k bt286.2.1 bt286.2.2 1048576).bind fun bt289 => (msg_Get.j0 k bt289.2.1 bt289.2.2 (bt a0 0) bt260.1 bt263.1 (wrap64 (bt266.1)) false 0 0 0 0 0 bt286.1 bt289.1))) else (if (bt a0 0) = 6 then ((num_Reader_Many.f k bt266.2.1 bt266.2.2 65536).bind fun bt292 => (msg_Get.j0 k bt292.2.1 bt292.2.2 (bt a0 0) bt260.1 bt263.1 (wrap64 (bt266.1)) false 0 0 0 0 0 bt292.1 0)) else (msg_Get.j0 k bt266.2.1 bt266.2.2 (bt a0 0) bt260.1 bt263.1 (wrap64 (bt266.1)) false 0 0 0 0 0 0 0)))))))) else (none)) else (none))) = some (r1, r2, r3, r4, r5, r6, r7, r8, r9, r10, r11, r12, r13) := h
 clear h
 by_cases c2 : a0.toList = ([] : List UInt8)
 ·rw [if_pos c2] at H
  have c2b0 : (a0.toList == ([] : List UInt8)) = true := beq_iff_eq.mpr c2
  have c2b1 : (a0.toList != ([] : List UInt8)) = false := bne_eq_false_iff_eq.mpr c2
  clear c2
  simp only [Option.some.injEq, Prod.mk.injEq] at H
  obtain ⟨rfl, rfl, rfl, rfl, rfl, rfl, rfl, rfl, rfl, rfl, rfl, rfl, rfl⟩ := H
  go_enter Try.func10, Try.ntmps10
  go_wp2_with (first | ((with_reducible refine gate_dst (N := 2) rfl ?_); refine box_event ?hg (N := 2) ?hd (cs := #[.int .u8 0, .int .i64 0, .int .u64 0, .int .i64 0, .bool false, .int .u64 0, .int .u64 0, .int .i64 0, .int .u8 0, .int .i64 0, .int .i64 0, .int .i64 0]) (t := 32) ?hr ?_; (case hd => rfl); (case hg => rfl); (case hr => first | (go_simp; done) | (go_simp; rfl)); intro gb258 hg w3 hbox hb; have n0_ := Bs0 HB hb; have n1_ := Ax (hbox); have n2_ := Gw0 HB hg; have n3_ := Gw0 HB hg; clear HB; have HB := n0_; have BK258 := n1_; have GW258 := n2_; have GE258 := n3_; clear n0_ n1_ n2_ n3_; clear hb hbox hg; obtain ⟨hcz4_0, hcz4_1, hcz4_2, hcz4_3, hcz4_4, hcz4_5, hcz4_6, hcz4_7, hcz4_8, hcz4_9, hcz4_10, hcz4_11, hfz4_0, hfz4_1, hfz4_2, hfz4_3, hfz4_4, hfz4_5, hfz4_6, hfz4_7, hfz4_8, hfz4_9, hfz4_10, hfz4_11⟩ := cl12 BK258))
  refine bodyPost_ret (results_ct rfl _ _ gb258 32 #[.int .u8 0, .int .i64 0, .int .u64 0, .int .i64 0, .bool false, .int .u64 0, .int .u64 0, .int .i64 0, .int .u8 0, .int .i64 0, .int .i64 0, .int .i64 0] (0, 0) _ rfl (by (with_reducible repeat (first | refine blk_drewN ?_ _ | refine blk_drew ?_ | refine blk_alloc ?_ _)); refine blk_put (cs := #[.int .u8 0, .int .i64 0, .int .u64 0, .int .i64 0, .bool false, .int .u64 0, .int .u64 0, .int .i64 0, .int .u8 0, .int .i64 0, .int .i64 0, .int .i64 0]) ?_ 11 _ rfl; (with_reducible repeat (first | refine blk_drewN ?_ _ | refine blk_drew ?_ | refine blk_alloc ?_ _)); refine blk_put (cs := #[.int .u8 0, .int .i64 0, .int .u64 0, .int .i64 0, .bool false, .int .u64 0, .int .u64 0, .int .i64 0, .int .u8 0, .int .i64 0, .int .i64 0, .int .i64 0]) ?_ 10 _ rfl; (with_reducible repeat (first | refine blk_drewN ?_ _ | refine blk_drew ?_ | refine blk_alloc ?_ _)); refine blk_put (cs := #[.int .u8 0, .int .i64 0, .int .u64 0, .int .i64 0, .bool false, .int .u64 0, .int .u64 0, .int .i64 0, .int .u8 0, .int .i64 0, .int .i64 0, .int .i64 0]) ?_ 9 _ rfl; (with_reducible repeat (first | refine blk_drewN ?_ _ | refine blk_drew ?_ | refine blk_alloc ?_ _)); refine blk_put (cs := #[.int .u8 0, .int .i64 0, .int .u64 0, .int .i64 0, .bool false, .int .u64 0, .int .u64 0, .int .i64 0, .int .u8 0, .int .i64 0, .int .i64 0, .int .i64 0]) ?_ 8 _ rfl; (with_reducible repeat (first | refine blk_drewN ?_ _ | refine blk_drew ?_ | refine blk_alloc ?_ _)); refine blk_put (cs := #[.int .u8 0, .int .i64 0, .int .u64 0, .int .i64 0, .bool false, .int .u64 0, .int .u64 0, .int .i64 0, .int .u8 0, .int .i64 0, .int .i64 0, .int .i64 0]) ?_ 7 _ rfl; (with_reducible repeat (first | refine blk_drewN ?_ _ | refine blk_drew ?_ | refine blk_alloc ?_ _)); refine blk_put (cs := #[.int .u8 0, .int .i64 0, .int .u64 0, .int .i64 0, .bool false, .int .u64 0, .int .u64 0, .int .i64 0, .int .u8 0, .int .i64 0, .int .i64 0, .int .i64 0]) ?_ 6 _ rfl; (with_reducible repeat (first | refine blk_drewN ?_ _ | refine blk_drew ?_ | refine blk_alloc ?_ _)); refine blk_put (cs := #[.int .u8 0, .int .i64 0, .int .u64 0, .int .i64 0, .bool false, .int .u64 0, .int .u64 0, .int .i64 0, .int .u8 0, .int .i64 0, .int .i64 0, .int .i64 0]) ?_ 5 _ rfl; (with_reducible repeat (first | refine blk_drewN ?_ _ | refine blk_drew ?_ | refine blk_alloc ?_ _)); refine blk_put (cs := #[.int .u8 0, .int .i64 0, .int .u64 0, .int .i64 0, .bool false, .int .u64 0, .int .u64 0, .int .i64 0, .int .u8 0, .int .i64 0, .int .i64 0, .int .i64 0]) ?_ 4 _ rfl; (with_reducible repeat (first | refine blk_drewN ?_ _ | refine blk_drew ?_ | refine blk_alloc ?_ _)); refine blk_put (cs := #[.int .u8 0, .int .i64 0, .int .u64 0, .int .i64 0, .bool false, .int .u64 0, .int .u64 0, .int .i64 0, .int .u8 0, .int .i64 0, .int .i64 0, .int .i64 0]) ?_ 3 _ rfl; (with_reducible repeat (first | refine blk_drewN ?_ _ | refine blk_drew ?_ | refine blk_alloc ?_ _)); refine blk_put (cs := #[.int .u8 0, .int .i64 0, .int .u64 0, .int .i64 0, .bool false, .int .u64 0, .int .u64 0, .int .i64 0, .int .u8 0, .int .i64 0, .int .i64 0, .int .i64 0]) ?_ 2 _ rfl; (with_reducible repeat (first | refine blk_drewN ?_ _ | refine blk_drew ?_ | refine blk_alloc ?_ _)); refine blk_put (cs := #[.int .u8 0, .int .i64 0, .int .u64 0, .int .i64 0, .bool false, .int .u64 0, .int .u64 0, .int .i64 0, .int .u8 0, .int .i64 0, .int .i64 0, .int .i64 0]) ?_ 1 _ rfl; (with_reducible repeat (first | refine blk_drewN ?_ _ | refine blk_drew ?_ | refine blk_alloc ?_ _)); refine blk_put (cs := #[.int .u8 0, .int .i64 0, .int .u64 0, .int .i64 0, .bool false, .int .u64 0, .int .u64 0, .int .i64 0, .int .u8 0, .int .i64 0, .int .i64 0, .int .i64 0]) ?_ 0 _ rfl; (with_reducible repeat (first | refine blk_drewN ?_ _ | refine blk_drew ?_ | refine blk_alloc ?_ _)); exact BK258.out) Try.underlying32 rfl (by kernel_rfl)) rfl ?_
  exact ⟨eS, bw1 HB.out GE258.out⟩
 ·rw [if_neg c2] at H
  have c2b0 : (a0.toList == ([] : List UInt8)) = false := beq_eq_false_iff_ne.mpr c2
  have c2b1 : (a0.toList != ([] : List UInt8)) = true := bne_iff_ne.mpr c2
  by_cases c5 : 1 ≤ (a0.size : Int)
  ·rw [if_pos c5] at H
   have c5b0 := eq_true c5
   have c5b1 : decide (1 ≤ (a0.size : Int)) = true := decide_eq_true c5
   clear c5
   by_cases c6 : 0 < (a0.size : Int)
   ·rw [if_pos c6] at H
    have c6b0 : decide (0 < (a0.size : Int)) = true := decide_eq_true c6
    have c6b1 : decide (0 < a0.size) = true := decide_eq_true (by omega)
    clear c6
    replace H := Option.bind_eq_some_iff.mp H
    obtain ⟨⟨t260, t261, t262⟩, A80, H⟩ := H
    replace H : ((num_Reader_Num.f k t261 t262).bind fun bt263 => ((num_Reader_Num.f k bt263.2.1 bt263.2.2).bind fun bt266 => (if (bt a0 0) = 3 then ((api_Prefix.f k bt266.2.1 bt266.2.2).bind fun bt270 => ((api_Action.f k bt270.2.2.2.2.1 bt270.2.2.2.2.2).bind fun bt276 => (msg_Get.j0 k bt276.2.2.1 bt276.2.2.2 (bt a0 0) t260 bt263.1 (wrap64 (bt266.1)) bt270.1 bt270.2.1 bt270.2.2.1 bt270.2.2.2.1 bt276.1 bt276.2.1 0 0))) else (if (bt a0 0) = 4 then ((api_Prefix.f k bt266.2.1 bt266.2.2).bind fun bt280 => (msg_Get.j0 k bt280.2.2.2.2.1 bt280.2.2.2.2.2 (bt a0 0) t260 bt263.1 (wrap64 (bt266.1)) bt280.1 bt280.2.1 bt280.2.2.1 bt280.2.2.2.1 0 0 0 0)) else (if (bt a0 0) = 5 then ((num_Reader_Many.f k bt266.2.1 bt266.2.2 65536).bind fun bt286 => ((num_Reader_Many.f k bt286.2.1 bt286.2.2 1048576).bind fun bt289 => (msg_Get.j0 k bt289.2.1 bt289.2.2 (bt a0 0) t260 bt263.1 (wrap64 (bt266.1)) false 0 0 0 0 0 bt286.1 bt289.1))) else (if (bt a0 0) = 6 then ((num_Reader_Many.f k bt266.2.1 bt266.2.2 65536).bind fun bt292 => (msg_Get.j0 k bt292.2.1 bt292.2.2 (bt a0 0) t260 bt263.1 (wrap64 (bt266.1)) false 0 0 0 0 0 bt292.1 0)) else (msg_Get.j0 k bt266.2.1 bt266.2.2 (bt a0 0) t260 bt263.1 (wrap64 (bt266.1)) false 0 0 0 0 0 0 0))))))) = some (r1, r2, r3, r4, r5, r6, r7, r8, r9, r10, r11, r12, r13) := H
    have A8 := Ax A80
    clear A80
    replace H := Option.bind_eq_some_iff.mp H
    obtain ⟨⟨t263, t264, t265⟩, A90, H⟩ := H
    replace H : ((num_Reader_Num.f k t264 t265).bind fun bt266 => (if (bt a0 0) = 3 then ((api_Prefix.f k bt266.2.1 bt266.2.2).bind fun bt270 => ((api_Action.f k bt270.2.2.2.2.1 bt270.2.2.2.2.2).bind fun bt276 => (msg_Get.j0 k bt276.2.2.1 bt276.2.2.2 (bt a0 0) t260 t263 (wrap64 (bt266.1)) bt270.1 bt270.2.1 bt270.2.2.1 bt270.2.2.2.1 bt276.1 bt276.2.1 0 0))) else (if (bt a0 0) = 4 then ((api_Prefix.f k bt266.2.1 bt266.2.2).bind fun bt280 => (msg_Get.j0 k bt280.2.2.2.2.1 bt280.2.2.2.2.2 (bt a0 0) t260 t263 (wrap64 (bt266.1)) bt280.1 bt280.2.1 bt280.2.2.1 bt280.2.2.2.1 0 0 0 0)) else (if (bt a0 0) = 5 then ((num_Reader_Many.f k bt266.2.1 bt266.2.2 65536).bind fun bt286 => ((num_Reader_Many.f k bt286.2.1 bt286.2.2 1048576).bind fun bt289 => (msg_Get.j0 k bt289.2.1 bt289.2.2 (bt a0 0) t260 t263 (wrap64 (bt266.1)) false 0 0 0 0 0 bt286.1 bt289.1))) else (if (bt a0 0) = 6 then ((num_Reader_Many.f k bt266.2.1 bt266.2.2 65536).bind fun bt292 => (msg_Get.j0 k bt292.2.1 bt292.2.2 (bt a0 0) t260 t263 (wrap64 (bt266.1)) false 0 0 0 0 0 bt292.1 0)) else (msg_Get.j0 k bt266.2.1 bt266.2.2 (bt a0 0) t260 t263 (wrap64 (bt266.1)) false 0 0 0 0 0 0 0)))))) = some (r1, r2, r3, r4, r5, r6, r7, r8, r9, r10, r11, r12, r13) := H
    have A9 := Ax A90
    clear A90
    replace H := Option.bind_eq_some_iff.mp H
    obtain ⟨⟨t266, t267, t268⟩, A100, H⟩ := H
    replace H : (if (bt a0 0) = 3 then ((api_Prefix.f k t267 t268).bind fun bt270 => ((api_Action.f k bt270.2.2.2.2.1 bt270.2.2.2.2.2).bind fun bt276 => (msg_Get.j0 k bt276.2.2.1 bt276.2.2.2 (bt a0 0) t260 t263 (wrap64 (t266)) bt270.1 bt270.2.1 bt270.2.2.1 bt270.2.2.2.1 bt276.1 bt276.2.1 0 0))) else (if (bt a0 0) = 4 then ((api_Prefix.f k t267 t268).bind fun bt280 => (msg_Get.j0 k bt280.2.2.2.2.1 bt280.2.2.2.2.2 (bt a0 0) t260 t263 (wrap64 (t266)) bt280.1 bt280.2.1 bt280.2.2.1 bt280.2.2.2.1 0 0 0 0)) else (if (bt a0 0) = 5 then ((num_Reader_Many.f k t267 t268 65536).bind fun bt286 => ((num_Reader_Many.f k bt286.2.1 bt286.2.2 1048576).bind fun bt289 => (msg_Get.j0 k bt289.2.1 bt289.2.2 (bt a0 0) t260 t263 (wrap64 (t266)) false 0 0 0 0 0 bt286.1 bt289.1))) else (if (bt a0 0) = 6 then ((num_Reader_Many.f k t267 t268 65536).bind fun bt292 => (msg_Get.j0 k bt292.2.1 bt292.2.2 (bt a0 0) t260 t263 (wrap64 (t266)) false 0 0 0 0 0 bt292.1 0)) else (msg_Get.j0 k t267 t268 (bt a0 0) t260 t263 (wrap64 (t266)) false 0 0 0 0 0 0 0))))) = some (r1, r2, r3, r4, r5, r6, r7, r8, r9, r10, r11, r12, r13) := H
    have A10 := Ax A100
    clear A100
    have HC11 := Ax H
    clear H
    go_enter Try.func10, Try.ntmps10
    try go_wp2_with (first | ((with_reducible refine gate_dst (N := 2) rfl ?_); refine box_event ?hg (N := 2) ?hd (cs := #[.int .u8 0, .int .i64 0, .int .u64 0, .int .i64 0, .bool false, .int .u64 0, .int .u64 0, .int .i64 0, .int .u8 0, .int .i64 0, .int .i64 0, .int .i64 0]) (t := 32) ?hr ?_; (case hd => rfl); (case hg => rfl); (case hr => first | (go_simp; done) | (go_simp; rfl)); intro gb258 hg w12 hbox hb; have n0_ := Bs0 HB hb; have n1_ := Ax (hbox); have n2_ := Gw0 HB hg; have n3_ := Gw0 HB hg; clear HB; have HB := n0_; have BK258 := n1_; have GW258 := n2_; have GE258 := n3_; clear n0_ n1_ n2_ n3_; clear hb hbox hg) | ((with_reducible refine gate_dst (N := 13) rfl ?_); refine box_event ?hg (N := 13) ?hd (cs := #[.string (a0.extract 1 a0.size), .int .i64 0]) (t := 58) ?hr ?_; (case hd => rfl); (case hg => rfl); (case hr => first | (go_simp; done) | (go_simp; rfl)); intro gb259 hg w13 hbox hb; have n0_ := Bx0 BK258 hb; have n1_ := Bs1 HB hb GE258.out; have n2_ := Ax (hbox); have n3_ := Gw1 HB hg GE258.out; have n4_ := Gw1 HB hg GE258.out; have n5_ := Nl0 BK258 hg; have n6_ := Nr0 BK258 hg; clear BK258; clear HB; have BK258 := n0_; have HB := n1_; have BK259 := n2_; have GW259 := n3_; have GE259 := n4_; have NB258_259 := n5_; have NB259_258 := n6_; clear n0_ n1_ n2_ n3_ n4_ n5_ n6_; clear hb hbox hg))
    have HIB259 := Ax (show IsS58 w w13 gb259 (a0.extract 1 a0.size) 0 from ⟨by first | exact BK259.out | simpa using BK259.out, GE259.out⟩)
    clear BK259
    replace BK258 := Ax (blk_drew BK258.out)
    replace HIB259 := Ax (IsS58.drew HIB259.out)
    replace HB := Ax (below_drew1 HB.out)
    have p7 : 0 ≤ (0 : Int) := (by omega)
    have q7 : 0 < a0.size := (by have : (0 : Int) < (a0.size : Int) := of_decide_eq_true (by first | (with_reducible assumption) | assumption); first | omega | (simp only [ByteArray.size_append]; omega))
    have hx7 : ∀ h : 0 < a0.size, ((a0[0]'h).toNat : Int) = bt a0 0 := bt_at a0 0
    clear p7
    have qi7 : (0 < (a0.size : Int)) = True := eq_true (of_decide_eq_true (by first | (with_reducible assumption) | assumption))
    replace q7 := eq_true q7
    refine start_ (n := 18) (S := fun w' => True) (ds := []) #[fa,fa,fa,fa,fa,fa,fa,fa,fa,fa,fa,fa,fa,fa,fa,fa,fa,fa] (by kernel_rfl) rfl rfl trivial (fun hHeld => ?_); refine with_tabW msg_Get.tab4 msg_Get.bits4 (fun HT_ HW_ => ?_)
    generalize w13.drew = w14 at BK258 HIB259 HB hHeld ⊢
    refine pure_ (i := 0) (N := some 14) (v := ?_) (a' := ?_) #[tr,fa,fa,fa,fa,fa,fa,fa,fa,fa,fa,fa,fa,fa,fa,fa,fa,fa] rfl rfl (any_of HT_.out (by kernel_rfl)) (fun _ _ _ h => h) (Or.inl ⟨by rfl, ?_⟩) ?_ ?_
    rotate_left
    ·intro w'
     go_simp
     with_reducible rfl
    rotate_left
    ·simp only [sP]
     rfl
    refine pure_ (i := 2) (N := some 16) (v := ?_) (a' := ?_) #[tr,fa,tr,fa,fa,fa,fa,fa,fa,fa,fa,fa,fa,fa,fa,fa,fa,fa] rfl rfl (any_of HT_.out (by kernel_rfl)) (fun _ _ _ h => h) (Or.inl ⟨by rfl, ?_⟩) ?_ ?_
    rotate_left
    ·intro w'
     go_simp
     with_reducible rfl
    rotate_left
    ·simp only [sP]
     rfl
    refine pure_ (i := 3) (N := some 17) (v := ?_) (a' := ?_) #[tr,fa,tr,tr,fa,fa,fa,fa,fa,fa,fa,fa,fa,fa,fa,fa,fa,fa] rfl rfl (any_of HT_.out (by kernel_rfl)) (fun _ _ _ h => h) (Or.inl ⟨by rfl, ?_⟩) ?_ ?_
    rotate_left
    ·intro w'
     go_simp
     with_reducible rfl
    rotate_left
    ·simp only [sP]
     rfl
    refine pure_ (i := 4) (N := some 18) (v := ?_) (a' := ?_) #[tr,fa,tr,tr,tr,fa,fa,fa,fa,fa,fa,fa,fa,fa,fa,fa,fa,fa] rfl rfl (any_of HT_.out (by kernel_rfl)) (fun _ _ _ h => h) (Or.inl ⟨by rfl, ?_⟩) ?_ ?_
    rotate_left
    ·intro w'
     go_simp
     with_reducible rfl
    rotate_left
    ·simp only [sP]
     rfl
    refine pure_ (i := 6) (N := some 20) (v := ?_) (a' := ?_) #[tr,fa,tr,tr,tr,fa,tr,fa,fa,fa,fa,fa,fa,fa,fa,fa,fa,fa] rfl rfl (any_of HT_.out (by kernel_rfl)) (fun _ _ _ h => h) (Or.inl ⟨by rfl, ?_⟩) ?_ ?_
    rotate_left
    ·intro w'
     go_simp
     with_reducible rfl
    rotate_left
    ·simp only [sP]
     rfl
    refine pure_ (i := 7) (N := some 21) (v := ?_) (a' := ?_) #[tr,fa,tr,tr,tr,fa,tr,tr,fa,fa,fa,fa,fa,fa,fa,fa,fa,fa] rfl rfl (any_of HT_.out (by kernel_rfl)) (fun _ _ _ h => h) (Or.inl ⟨by rfl, ?_⟩) ?_ ?_
    rotate_left
    ·intro w'
     go_simp
     with_reducible rfl
    rotate_left
    ·simp only [sP]
     rfl
    refine pure_ (i := 8) (N := some 22) (v := ?_) (a' := ?_) #[tr,fa,tr,tr,tr,fa,tr,tr,tr,fa,fa,fa,fa,fa,fa,fa,fa,fa] rfl rfl (any_of HT_.out (by kernel_rfl)) (fun _ _ _ h => h) (Or.inl ⟨by rfl, ?_⟩) ?_ ?_
    rotate_left
    ·intro w'
     go_simp
     with_reducible rfl
    rotate_left
    ·simp only [sP]
     rfl
    refine pure_ (i := 10) (N := some 24) (v := ?_) (a' := ?_) #[tr,fa,tr,tr,tr,fa,tr,tr,tr,fa,tr,fa,fa,fa,fa,fa,fa,fa] rfl rfl (any_of HT_.out (by kernel_rfl)) (fun _ _ _ h => h) (Or.inl ⟨by rfl, ?_⟩) ?_ ?_
    rotate_left
    ·intro w'
     go_simp
     with_reducible rfl
    rotate_left
    ·simp only [sP]
     rfl
    refine pure_ (i := 11) (N := some 25) (v := ?_) (a' := ?_) #[tr,fa,tr,tr,tr,fa,tr,tr,tr,fa,tr,tr,fa,fa,fa,fa,fa,fa] rfl rfl (any_of HT_.out (by kernel_rfl)) (fun _ _ _ h => h) (Or.inl ⟨by rfl, ?_⟩) ?_ ?_
    rotate_left
    ·intro w'
     go_simp
     with_reducible rfl
    rotate_left
    ·simp only [sP]
     rfl
    refine pure_ (i := 12) (N := some 26) (v := ?_) (a' := ?_) #[tr,fa,tr,tr,tr,fa,tr,tr,tr,fa,tr,tr,tr,fa,fa,fa,fa,fa] rfl rfl (any_of HT_.out (by kernel_rfl)) (fun _ _ _ h => h) (Or.inl ⟨by rfl, ?_⟩) ?_ ?_
    rotate_left
    ·intro w'
     go_simp
     with_reducible rfl
    rotate_left
    ·simp only [sP]
     rfl
    refine take_ (i := 1) (N := some 15) (v := ?_) (a' := ?_) #[tr,tr,tr,tr,tr,fa,tr,tr,tr,fa,tr,tr,tr,fa,fa,fa,fa,fa] rfl rfl (take_ofW HT_.out HW_.out (by kernel_rfl)) (fun _ _ _ h => h) (Or.inl ⟨by rfl, ?_⟩) hHeld ?_ ?_
    rotate_left
    ·intro w' _
     go_simp
     with_reducible rfl
    rotate_left
    ·simp only [sP]
     rfl
    refine join_ (σ := Nat) 1 #[tr,tr,tr,tr,tr,tr,tr,tr,tr,tr,tr,tr,tr,tr,tr,tr,tr,fa] (fun s_ => [(19, .int .i64 t260), (23, .int .u64 t263), (27, .int .u64 t266), (5, .pointer (some ⟨s_, 0, none⟩)), (28, .int .i64 (wrap64 (t266))), (29, .agg #[.int .u8 (bt a0 0), .int .i64 t260, .int .u64 t263, .int .i64 (wrap64 (t266)), .bool false, .int .u64 0, .int .u64 0, .int .i64 0, .int .u8 0, .int .i64 0, .int .i64 0, .int .i64 0])]) (fun s_ w' => (w'.heap[gb258]? = some (.cells #[.int .u8 0, .int .i64 0, .int .u64 0, .int .i64 0, .bool false, .int .u64 0, .int .u64 0, .int .i64 0, .int .u8 0, .int .i64 0, .int .i64 0, .int .i64 0] 32 (0, 0))) ∧ (w'.heap[s_]? = some (.cells #[.int .u8 0, .int .i64 0, .int .u64 0, .int .i64 0, .bool false, .int .u64 0, .int .u64 0, .int .i64 0, .int .u8 0, .int .i64 0, .int .i64 0, .int .i64 0] 32 (0, 0))) ∧ (w.heap.size ≤ s_) ∧ (w.heap.size ≤ s_) ∧ (gb259 ≠ s_) ∧ (s_ ≠ gb259) ∧ (gb258 ≠ s_) ∧ (s_ ≠ gb258) ∧ (IsS58 w w' gb259 t267 t268) ∧ (Below w.heap.size w w')) ?_ ?_
    rotate_left
    ·intro hCont
     refine two_ (i := 5) (j := 16) (Ni := some 19) (Nj := some 5) #[tr,tr,tr,tr,tr,tr,tr,tr,tr,fa,tr,tr,tr,fa,fa,fa,fa,fa] #[tr,tr,tr,tr,tr,fa,tr,tr,tr,fa,tr,tr,tr,fa,fa,fa,tr,fa] rfl rfl rfl rfl (two_of HT_.out (by kernel_rfl)) (by decide) (by decide) (fun K hK => ?_) (fun K hK => ?_)
     ·skip
      refine goes_ Try.func27 (by kernel_rfl) rfl #[.pointer (some ⟨gb259, 0, none⟩), .int .i64 1048576] (by rfl) rfl rfl gS ?_
      with_reducible refine (num_Reader_Many.calls58 k gb259 (a0.extract 1 a0.size) 0 1048576 t260 t261 t262 w _ ?side1 ?side2 A8.out).mono ?_
      (case side1 => repeat (first | (with_reducible first | exact HIB259.out | apply IsS58.alloc | apply IsS58.drewN | apply IsS58.drew | apply IsS58.set_0 | apply IsS58.set_1 | refine IsS58.far ?_ NB259_258.out _) | exact HIB259.out))
      (case side2 => repeat (first | (with_reducible first | exact HB.out | apply below_alloc | apply pw_below_drewN | apply below_drew1 | refine below_set ?_ (IsS58.ge HIB259.out) | refine below_set ?_ GE258.out) | exact HB.out))
      rintro e w15 ⟨rfl, hi, hb, hk⟩
      refine ⟨_, rfl, ?_⟩
      replace BK258 := Ax (KeepBut.blk hk (g' := gb258) (o := .cells #[.int .u8 0, .int .i64 0, .int .u64 0, .int .i64 0, .bool false, .int .u64 0, .int .u64 0, .int .i64 0, .int .u8 0, .int .i64 0, .int .i64 0, .int .i64 0] 32 (0, 0)) (bf0 BK258.out) NB258_259.out (by simp))
      replace HB := Ax (hb)
      replace HIB259 := Ax (hi)
      (try clear hb)
      (try clear hb2)
      (try clear hk)
      (try clear hi)
      refine hK.out _ _ trivial (fun hHeld => ?_)
      clear hK K
      refine norm_ (a' := ?_) ?_ ?_
      rotate_left
      ·show Act.put _ (some 19) _ = _
       simp only [sP]
       rfl
      refine two_ (i := 9) (j := 16) (Ni := some 23) (Nj := some 5) #[tr,tr,tr,tr,tr,tr,tr,tr,tr,tr,tr,tr,tr,fa,fa,fa,fa,fa] #[tr,tr,tr,tr,tr,tr,tr,tr,tr,fa,tr,tr,tr,fa,fa,fa,tr,fa] rfl rfl rfl rfl (two_of HT_.out (by kernel_rfl)) (by decide) (by decide) (fun K hK => ?_) (fun K hK => ?_)
      ·skip
       refine goes_ Try.func28 (by kernel_rfl) rfl #[.pointer (some ⟨gb259, 0, none⟩)] (by rfl) rfl rfl gS ?_
       with_reducible refine (num_Reader_Num.calls58 k gb259 t261 t262 t263 t264 t265 w _ ?side1 ?side2 A9.out).mono ?_
       (case side1 => repeat (first | (with_reducible first | exact HIB259.out | apply IsS58.alloc | apply IsS58.drewN | apply IsS58.drew | apply IsS58.set_0 | apply IsS58.set_1 | refine IsS58.far ?_ NB259_258.out _) | exact HIB259.out))
       (case side2 => repeat (first | (with_reducible first | exact HB.out | apply below_alloc | apply pw_below_drewN | apply below_drew1 | refine below_set ?_ (IsS58.ge HIB259.out) | refine below_set ?_ GE258.out) | exact HB.out))
       rintro e w16 ⟨rfl, hi, hb, hk⟩
       refine ⟨_, rfl, ?_⟩
       replace BK258 := Ax (KeepBut.blk hk (g' := gb258) (o := .cells #[.int .u8 0, .int .i64 0, .int .u64 0, .int .i64 0, .bool false, .int .u64 0, .int .u64 0, .int .i64 0, .int .u8 0, .int .i64 0, .int .i64 0, .int .i64 0] 32 (0, 0)) (bf0 BK258.out) NB258_259.out (by simp))
       replace HB := Ax (hb)
       replace HIB259 := Ax (hi)
       (try clear hb)
       (try clear hb2)
       (try clear hk)
       (try clear hi)
       refine hK.out _ _ trivial (fun hHeld => ?_)
       clear hK K
       refine norm_ (a' := ?_) ?_ ?_
       rotate_left
       ·show Act.put _ (some 23) _ = _
        simp only [sP]
        rfl
       refine two_ (i := 13) (j := 16) (Ni := some 27) (Nj := some 5) #[tr,tr,tr,tr,tr,tr,tr,tr,tr,tr,tr,tr,tr,tr,fa,fa,fa,fa] #[tr,tr,tr,tr,tr,tr,tr,tr,tr,tr,tr,tr,tr,fa,fa,fa,tr,fa] rfl rfl rfl rfl (two_of HT_.out (by kernel_rfl)) (by decide) (by decide) (fun K hK => ?_) (fun K hK => ?_)
       ·skip
        refine goes_ Try.func28 (by kernel_rfl) rfl #[.pointer (some ⟨gb259, 0, none⟩)] (by rfl) rfl rfl gS ?_
        with_reducible refine (num_Reader_Num.calls58 k gb259 t264 t265 t266 t267 t268 w _ ?side1 ?side2 A10.out).mono ?_
        (case side1 => repeat (first | (with_reducible first | exact HIB259.out | apply IsS58.alloc | apply IsS58.drewN | apply IsS58.drew | apply IsS58.set_0 | apply IsS58.set_1 | refine IsS58.far ?_ NB259_258.out _) | exact HIB259.out))
        (case side2 => repeat (first | (with_reducible first | exact HB.out | apply below_alloc | apply pw_below_drewN | apply below_drew1 | refine below_set ?_ (IsS58.ge HIB259.out) | refine below_set ?_ GE258.out) | exact HB.out))
        rintro e w17 ⟨rfl, hi, hb, hk⟩
        refine ⟨_, rfl, ?_⟩
        replace BK258 := Ax (KeepBut.blk hk (g' := gb258) (o := .cells #[.int .u8 0, .int .i64 0, .int .u64 0, .int .i64 0, .bool false, .int .u64 0, .int .u64 0, .int .i64 0, .int .u8 0, .int .i64 0, .int .i64 0, .int .i64 0] 32 (0, 0)) (bf0 BK258.out) NB258_259.out (by simp))
        replace HB := Ax (hb)
        replace HIB259 := Ax (hi)
        (try clear hb)
        (try clear hb2)
        (try clear hk)
        (try clear hi)
        refine hK.out _ _ trivial (fun hHeld => ?_)
        clear hK K
        refine norm_ (a' := ?_) ?_ ?_
        rotate_left
        ·show Act.put _ (some 27) _ = _
         simp only [sP]
         rfl
        refine pure_ (i := 14) (N := some 28) (v := ?_) (a' := ?_) #[tr,tr,tr,tr,tr,tr,tr,tr,tr,tr,tr,tr,tr,tr,tr,fa,fa,fa] rfl rfl (any_of HT_.out (by kernel_rfl)) (fun _ _ _ h => h) (Or.inl ⟨by rfl, ?_⟩) ?_ ?_
        rotate_left
        ·intro w'
         go_simp
         with_reducible rfl
        rotate_left
        ·simp only [sP]
         rfl
        refine pure_ (i := 15) (N := some 29) (v := ?_) (a' := ?_) #[tr,tr,tr,tr,tr,tr,tr,tr,tr,tr,tr,tr,tr,tr,tr,tr,fa,fa] rfl rfl (any_of HT_.out (by kernel_rfl)) (fun _ _ _ h => h) (Or.inl ⟨by rfl, ?_⟩) ?_ ?_
        rotate_left
        ·intro w'
         go_simp
         with_reducible rfl
        rotate_left
        ·simp only [sP]
         rfl
        refine one_ (i := 16) (N := some 5) #[tr,tr,tr,tr,tr,tr,tr,tr,tr,tr,tr,tr,tr,tr,tr,tr,tr,fa] rfl rfl (one_of HT_.out (by kernel_rfl)) (by decide) (fun K hK => ?_)
        refine box_step ?hg (N := 5) ?hd (cs := #[.int .u8 0, .int .i64 0, .int .u64 0, .int .i64 0, .bool false, .int .u64 0, .int .u64 0, .int .i64 0, .int .u8 0, .int .i64 0, .int .i64 0, .int .i64 0]) (t := 32) ?hr ?_; (case hd => rfl); (case hg => rfl); (case hr => first | (go_simp; done) | (go_simp; rfl))
        intro gb269 hg w18 hbox hb
        have n0_ := Bx0 BK258 hb
        have n1_ := Ax (IsS58.below (by repeat (first | (with_reducible first | exact HIB259.out | apply IsS58.alloc | apply IsS58.drewN | apply IsS58.drew | apply IsS58.set_0 | apply IsS58.set_1 | refine IsS58.far ?_ NB259_258.out _) | exact HIB259.out)) hb)
        have n2_ := Bs2 HB hb (IsS58.ge HIB259.out) GE258.out
        have n3_ := Ax (hbox)
        have n4_ := Gw2 HB hg (IsS58.ge HIB259.out) GE258.out
        have n5_ := Gw2 HB hg (IsS58.ge HIB259.out) GE258.out
        have n6_ := Nl0 BK258 hg
        have n7_ := Nr0 BK258 hg
        have n8_ := Ax ((by rw [hg]; exact Nat.ne_of_lt (IsS58.lt (show IsS58 w _ gb259 t267 t268 from by repeat (first | (with_reducible first | exact HIB259.out | apply IsS58.alloc | apply IsS58.drewN | apply IsS58.drew | apply IsS58.set_0 | apply IsS58.set_1 | refine IsS58.far ?_ NB259_258.out _) | exact HIB259.out))) : gb259 ≠ gb269))
        have n9_ := Ax ((by rw [hg]; exact Nat.ne_of_gt (IsS58.lt (show IsS58 w _ gb259 t267 t268 from by repeat (first | (with_reducible first | exact HIB259.out | apply IsS58.alloc | apply IsS58.drewN | apply IsS58.drew | apply IsS58.set_0 | apply IsS58.set_1 | refine IsS58.far ?_ NB259_258.out _) | exact HIB259.out))) : gb269 ≠ gb259))
        clear BK258
        clear HIB259
        clear HB
        have BK258 := n0_
        have HIB259 := n1_
        have HB := n2_
        have BK269 := n3_
        have GW269 := n4_
        have GE269 := n5_
        have NB258_269 := n6_
        have NB269_258 := n7_
        have NB259_269 := n8_
        have NB269_259 := n9_
        clear n0_ n1_ n2_ n3_ n4_ n5_ n6_ n7_ n8_ n9_
        clear hb hbox hg
        refine hK.out _ _ trivial (fun hHeld => ?_)
        clear hK K
        refine norm_ (a' := ?_) ?_ ?_
        rotate_left
        ·show Act.put _ (some 5) _ = _
         simp only [sP]
         rfl
        exact norm_ (by simp only [putAll, Act.put, List.setIfInBounds_toArray, List.set_cons_zero, List.set_cons_succ]) (hCont (gb269) _ ⟨(bf0 BK258.out), (bf0 BK269.out), GW269.out, GE269.out, NB259_269.out, NB269_259.out, NB258_269.out, NB269_258.out, (by repeat (first | (with_reducible first | exact HIB259.out | apply IsS58.alloc | apply IsS58.drewN | apply IsS58.drew | apply IsS58.set_0 | apply IsS58.set_1 | refine IsS58.far ?_ NB259_258.out _ | refine IsS58.far ?_ NB259_269.out _) | exact HIB259.out)), (bw3 HB.out (IsS58.ge HIB259.out) GE258.out GE269.out)⟩)
       ·skip
        refine box_step ?hg (N := 5) ?hd (cs := #[.int .u8 0, .int .i64 0, .int .u64 0, .int .i64 0, .bool false, .int .u64 0, .int .u64 0, .int .i64 0, .int .u8 0, .int .i64 0, .int .i64 0, .int .i64 0]) (t := 32) ?hr ?_; (case hd => rfl); (case hg => rfl); (case hr => first | (go_simp; done) | (go_simp; rfl))
        intro gb269 hg w17 hbox hb
        have n0_ := Bx0 BK258 hb
        have n1_ := Ax (IsS58.below (by repeat (first | (with_reducible first | exact HIB259.out | apply IsS58.alloc | apply IsS58.drewN | apply IsS58.drew | apply IsS58.set_0 | apply IsS58.set_1 | refine IsS58.far ?_ NB259_258.out _) | exact HIB259.out)) hb)
        have n2_ := Bs2 HB hb (IsS58.ge HIB259.out) GE258.out
        have n3_ := Ax (hbox)
        have n4_ := Gw2 HB hg (IsS58.ge HIB259.out) GE258.out
        have n5_ := Gw2 HB hg (IsS58.ge HIB259.out) GE258.out
        have n6_ := Nl0 BK258 hg
        have n7_ := Nr0 BK258 hg
        have n8_ := Ax ((by rw [hg]; exact Nat.ne_of_lt (IsS58.lt (show IsS58 w _ gb259 t264 t265 from by repeat (first | (with_reducible first | exact HIB259.out | apply IsS58.alloc | apply IsS58.drewN | apply IsS58.drew | apply IsS58.set_0 | apply IsS58.set_1 | refine IsS58.far ?_ NB259_258.out _) | exact HIB259.out))) : gb259 ≠ gb269))
        have n9_ := Ax ((by rw [hg]; exact Nat.ne_of_gt (IsS58.lt (show IsS58 w _ gb259 t264 t265 from by repeat (first | (with_reducible first | exact HIB259.out | apply IsS58.alloc | apply IsS58.drewN | apply IsS58.drew | apply IsS58.set_0 | apply IsS58.set_1 | refine IsS58.far ?_ NB259_258.out _) | exact HIB259.out))) : gb269 ≠ gb259))
        clear BK258
        clear HIB259
        clear HB
        have BK258 := n0_
        have HIB259 := n1_
        have HB := n2_
        have BK269 := n3_
        have GW269 := n4_
        have GE269 := n5_
        have NB258_269 := n6_
        have NB269_258 := n7_
        have NB259_269 := n8_
        have NB269_259 := n9_
        clear n0_ n1_ n2_ n3_ n4_ n5_ n6_ n7_ n8_ n9_
        clear hb hbox hg
        refine hK.out _ _ trivial (fun hHeld => ?_)
        clear hK K
        refine norm_ (a' := ?_) ?_ ?_
        rotate_left
        ·show Act.put _ (some 5) _ = _
         simp only [sP]
         rfl
        refine one_ (i := 13) (N := some 27) #[tr,tr,tr,tr,tr,tr,tr,tr,tr,tr,tr,tr,tr,tr,fa,fa,tr,fa] rfl rfl (one_of HT_.out (by kernel_rfl)) (by decide) (fun K hK => ?_)
        refine goes_ Try.func28 (by kernel_rfl) rfl #[.pointer (some ⟨gb259, 0, none⟩)] (by rfl) rfl rfl gS ?_
        with_reducible refine (num_Reader_Num.calls58 k gb259 t264 t265 t266 t267 t268 w _ ?side1 ?side2 A10.out).mono ?_
        (case side1 => repeat (first | (with_reducible first | exact HIB259.out | apply IsS58.alloc | apply IsS58.drewN | apply IsS58.drew | apply IsS58.set_0 | apply IsS58.set_1 | refine IsS58.far ?_ NB259_258.out _ | refine IsS58.far ?_ NB259_269.out _) | exact HIB259.out))
        (case side2 => repeat (first | (with_reducible first | exact HB.out | apply below_alloc | apply pw_below_drewN | apply below_drew1 | refine below_set ?_ (IsS58.ge HIB259.out) | refine below_set ?_ GE258.out | refine below_set ?_ GE269.out) | exact HB.out))
        rintro e w18 ⟨rfl, hi, hb, hk⟩
        refine ⟨_, rfl, ?_⟩
        replace BK258 := Ax (KeepBut.blk hk (g' := gb258) (o := .cells #[.int .u8 0, .int .i64 0, .int .u64 0, .int .i64 0, .bool false, .int .u64 0, .int .u64 0, .int .i64 0, .int .u8 0, .int .i64 0, .int .i64 0, .int .i64 0] 32 (0, 0)) (bf0 BK258.out) NB258_259.out (by simp))
        replace BK269 := Ax (KeepBut.blk hk (g' := gb269) (o := .cells #[.int .u8 0, .int .i64 0, .int .u64 0, .int .i64 0, .bool false, .int .u64 0, .int .u64 0, .int .i64 0, .int .u8 0, .int .i64 0, .int .i64 0, .int .i64 0] 32 (0, 0)) (bf0 BK269.out) NB269_259.out (by simp))
        replace HB := Ax (hb)
        replace HIB259 := Ax (hi)
        (try clear hb)
        (try clear hb2)
        (try clear hk)
        (try clear hi)
        refine hK.out _ _ trivial (fun hHeld => ?_)
        clear hK K
        refine norm_ (a' := ?_) ?_ ?_
        rotate_left
        ·show Act.put _ (some 27) _ = _
         simp only [sP]
         rfl
        refine pure_ (i := 14) (N := some 28) (v := ?_) (a' := ?_) #[tr,tr,tr,tr,tr,tr,tr,tr,tr,tr,tr,tr,tr,tr,tr,fa,tr,fa] rfl rfl (any_of HT_.out (by kernel_rfl)) (fun _ _ _ h => h) (Or.inl ⟨by rfl, ?_⟩) ?_ ?_
        rotate_left
        ·intro w'
         go_simp
         with_reducible rfl
        rotate_left
        ·simp only [sP]
         rfl
        refine pure_ (i := 15) (N := some 29) (v := ?_) (a' := ?_) #[tr,tr,tr,tr,tr,tr,tr,tr,tr,tr,tr,tr,tr,tr,tr,tr,tr,fa] rfl rfl (any_of HT_.out (by kernel_rfl)) (fun _ _ _ h => h) (Or.inl ⟨by rfl, ?_⟩) ?_ ?_
        rotate_left
        ·intro w'
         go_simp
         with_reducible rfl
        rotate_left
        ·simp only [sP]
         rfl
        exact norm_ (by simp only [putAll, Act.put, List.setIfInBounds_toArray, List.set_cons_zero, List.set_cons_succ]) (hCont (gb269) _ ⟨(bf0 BK258.out), (bf0 BK269.out), GW269.out, GE269.out, NB259_269.out, NB269_259.out, NB258_269.out, NB269_258.out, (by repeat (first | (with_reducible first | exact HIB259.out | apply IsS58.alloc | apply IsS58.drewN | apply IsS58.drew | apply IsS58.set_0 | apply IsS58.set_1 | refine IsS58.far ?_ NB259_258.out _ | refine IsS58.far ?_ NB259_269.out _) | exact HIB259.out)), (bw3 HB.out (IsS58.ge HIB259.out) GE258.out GE269.out)⟩)
      ·skip
       refine box_step ?hg (N := 5) ?hd (cs := #[.int .u8 0, .int .i64 0, .int .u64 0, .int .i64 0, .bool false, .int .u64 0, .int .u64 0, .int .i64 0, .int .u8 0, .int .i64 0, .int .i64 0, .int .i64 0]) (t := 32) ?hr ?_; (case hd => rfl); (case hg => rfl); (case hr => first | (go_simp; done) | (go_simp; rfl))
       intro gb269 hg w16 hbox hb
       have n0_ := Bx0 BK258 hb
       have n1_ := Ax (IsS58.below (by repeat (first | (with_reducible first | exact HIB259.out | apply IsS58.alloc | apply IsS58.drewN | apply IsS58.drew | apply IsS58.set_0 | apply IsS58.set_1 | refine IsS58.far ?_ NB259_258.out _) | exact HIB259.out)) hb)
       have n2_ := Bs2 HB hb (IsS58.ge HIB259.out) GE258.out
       have n3_ := Ax (hbox)
       have n4_ := Gw2 HB hg (IsS58.ge HIB259.out) GE258.out
       have n5_ := Gw2 HB hg (IsS58.ge HIB259.out) GE258.out
       have n6_ := Nl0 BK258 hg
       have n7_ := Nr0 BK258 hg
       have n8_ := Ax ((by rw [hg]; exact Nat.ne_of_lt (IsS58.lt (show IsS58 w _ gb259 t261 t262 from by repeat (first | (with_reducible first | exact HIB259.out | apply IsS58.alloc | apply IsS58.drewN | apply IsS58.drew | apply IsS58.set_0 | apply IsS58.set_1 | refine IsS58.far ?_ NB259_258.out _) | exact HIB259.out))) : gb259 ≠ gb269))
       have n9_ := Ax ((by rw [hg]; exact Nat.ne_of_gt (IsS58.lt (show IsS58 w _ gb259 t261 t262 from by repeat (first | (with_reducible first | exact HIB259.out | apply IsS58.alloc | apply IsS58.drewN | apply IsS58.drew | apply IsS58.set_0 | apply IsS58.set_1 | refine IsS58.far ?_ NB259_258.out _) | exact HIB259.out))) : gb269 ≠ gb259))
       clear BK258
       clear HIB259
       clear HB
       have BK258 := n0_
       have HIB259 := n1_
       have HB := n2_
       have BK269 := n3_
       have GW269 := n4_
       have GE269 := n5_
       have NB258_269 := n6_
       have NB269_258 := n7_
       have NB259_269 := n8_
       have NB269_259 := n9_
       clear n0_ n1_ n2_ n3_ n4_ n5_ n6_ n7_ n8_ n9_
       clear hb hbox hg
       refine hK.out _ _ trivial (fun hHeld => ?_)
       clear hK K
       refine norm_ (a' := ?_) ?_ ?_
       rotate_left
       ·show Act.put _ (some 5) _ = _
        simp only [sP]
        rfl
       refine one_ (i := 9) (N := some 23) #[tr,tr,tr,tr,tr,tr,tr,tr,tr,tr,tr,tr,tr,fa,fa,fa,tr,fa] rfl rfl (one_of HT_.out (by kernel_rfl)) (by decide) (fun K hK => ?_)
       refine goes_ Try.func28 (by kernel_rfl) rfl #[.pointer (some ⟨gb259, 0, none⟩)] (by rfl) rfl rfl gS ?_
       with_reducible refine (num_Reader_Num.calls58 k gb259 t261 t262 t263 t264 t265 w _ ?side1 ?side2 A9.out).mono ?_
       (case side1 => repeat (first | (with_reducible first | exact HIB259.out | apply IsS58.alloc | apply IsS58.drewN | apply IsS58.drew | apply IsS58.set_0 | apply IsS58.set_1 | refine IsS58.far ?_ NB259_258.out _ | refine IsS58.far ?_ NB259_269.out _) | exact HIB259.out))
       (case side2 => repeat (first | (with_reducible first | exact HB.out | apply below_alloc | apply pw_below_drewN | apply below_drew1 | refine below_set ?_ (IsS58.ge HIB259.out) | refine below_set ?_ GE258.out | refine below_set ?_ GE269.out) | exact HB.out))
       rintro e w17 ⟨rfl, hi, hb, hk⟩
       refine ⟨_, rfl, ?_⟩
       replace BK258 := Ax (KeepBut.blk hk (g' := gb258) (o := .cells #[.int .u8 0, .int .i64 0, .int .u64 0, .int .i64 0, .bool false, .int .u64 0, .int .u64 0, .int .i64 0, .int .u8 0, .int .i64 0, .int .i64 0, .int .i64 0] 32 (0, 0)) (bf0 BK258.out) NB258_259.out (by simp))
       replace BK269 := Ax (KeepBut.blk hk (g' := gb269) (o := .cells #[.int .u8 0, .int .i64 0, .int .u64 0, .int .i64 0, .bool false, .int .u64 0, .int .u64 0, .int .i64 0, .int .u8 0, .int .i64 0, .int .i64 0, .int .i64 0] 32 (0, 0)) (bf0 BK269.out) NB269_259.out (by simp))
       replace HB := Ax (hb)
       replace HIB259 := Ax (hi)
       (try clear hb)
       (try clear hb2)
       (try clear hk)
       (try clear hi)
       refine hK.out _ _ trivial (fun hHeld => ?_)
       clear hK K
       refine norm_ (a' := ?_) ?_ ?_
       rotate_left
       ·show Act.put _ (some 23) _ = _
        simp only [sP]
        rfl
       refine one_ (i := 13) (N := some 27) #[tr,tr,tr,tr,tr,tr,tr,tr,tr,tr,tr,tr,tr,tr,fa,fa,tr,fa] rfl rfl (one_of HT_.out (by kernel_rfl)) (by decide) (fun K hK => ?_)
       refine goes_ Try.func28 (by kernel_rfl) rfl #[.pointer (some ⟨gb259, 0, none⟩)] (by rfl) rfl rfl gS ?_
       with_reducible refine (num_Reader_Num.calls58 k gb259 t264 t265 t266 t267 t268 w _ ?side1 ?side2 A10.out).mono ?_
       (case side1 => repeat (first | (with_reducible first | exact HIB259.out | apply IsS58.alloc | apply IsS58.drewN | apply IsS58.drew | apply IsS58.set_0 | apply IsS58.set_1 | refine IsS58.far ?_ NB259_258.out _ | refine IsS58.far ?_ NB259_269.out _) | exact HIB259.out))
       (case side2 => repeat (first | (with_reducible first | exact HB.out | apply below_alloc | apply pw_below_drewN | apply below_drew1 | refine below_set ?_ (IsS58.ge HIB259.out) | refine below_set ?_ GE258.out | refine below_set ?_ GE269.out) | exact HB.out))
       rintro e w18 ⟨rfl, hi, hb, hk⟩
       refine ⟨_, rfl, ?_⟩
       replace BK258 := Ax (KeepBut.blk hk (g' := gb258) (o := .cells #[.int .u8 0, .int .i64 0, .int .u64 0, .int .i64 0, .bool false, .int .u64 0, .int .u64 0, .int .i64 0, .int .u8 0, .int .i64 0, .int .i64 0, .int .i64 0] 32 (0, 0)) (bf0 BK258.out) NB258_259.out (by simp))
       replace BK269 := Ax (KeepBut.blk hk (g' := gb269) (o := .cells #[.int .u8 0, .int .i64 0, .int .u64 0, .int .i64 0, .bool false, .int .u64 0, .int .u64 0, .int .i64 0, .int .u8 0, .int .i64 0, .int .i64 0, .int .i64 0] 32 (0, 0)) (bf0 BK269.out) NB269_259.out (by simp))
       replace HB := Ax (hb)
       replace HIB259 := Ax (hi)
       (try clear hb)
       (try clear hb2)
       (try clear hk)
       (try clear hi)
       refine hK.out _ _ trivial (fun hHeld => ?_)
       clear hK K
       refine norm_ (a' := ?_) ?_ ?_
       rotate_left
       ·show Act.put _ (some 27) _ = _
        simp only [sP]
        rfl
       refine pure_ (i := 14) (N := some 28) (v := ?_) (a' := ?_) #[tr,tr,tr,tr,tr,tr,tr,tr,tr,tr,tr,tr,tr,tr,tr,fa,tr,fa] rfl rfl (any_of HT_.out (by kernel_rfl)) (fun _ _ _ h => h) (Or.inl ⟨by rfl, ?_⟩) ?_ ?_
       rotate_left
       ·intro w'
        go_simp
        with_reducible rfl
       rotate_left
       ·simp only [sP]
        rfl
       refine pure_ (i := 15) (N := some 29) (v := ?_) (a' := ?_) #[tr,tr,tr,tr,tr,tr,tr,tr,tr,tr,tr,tr,tr,tr,tr,tr,tr,fa] rfl rfl (any_of HT_.out (by kernel_rfl)) (fun _ _ _ h => h) (Or.inl ⟨by rfl, ?_⟩) ?_ ?_
       rotate_left
       ·intro w'
        go_simp
        with_reducible rfl
       rotate_left
       ·simp only [sP]
        rfl
       exact norm_ (by simp only [putAll, Act.put, List.setIfInBounds_toArray, List.set_cons_zero, List.set_cons_succ]) (hCont (gb269) _ ⟨(bf0 BK258.out), (bf0 BK269.out), GW269.out, GE269.out, NB259_269.out, NB269_259.out, NB258_269.out, NB269_258.out, (by repeat (first | (with_reducible first | exact HIB259.out | apply IsS58.alloc | apply IsS58.drewN | apply IsS58.drew | apply IsS58.set_0 | apply IsS58.set_1 | refine IsS58.far ?_ NB259_258.out _ | refine IsS58.far ?_ NB259_269.out _) | exact HIB259.out)), (bw3 HB.out (IsS58.ge HIB259.out) GE258.out GE269.out)⟩)
     ·skip
      refine box_step ?hg (N := 5) ?hd (cs := #[.int .u8 0, .int .i64 0, .int .u64 0, .int .i64 0, .bool false, .int .u64 0, .int .u64 0, .int .i64 0, .int .u8 0, .int .i64 0, .int .i64 0, .int .i64 0]) (t := 32) ?hr ?_; (case hd => rfl); (case hg => rfl); (case hr => first | (go_simp; done) | (go_simp; rfl))
      intro gb269 hg w15 hbox hb
      have n0_ := Bx0 BK258 hb
      have n1_ := Ax (IsS58.below (by repeat (first | (with_reducible first | exact HIB259.out | apply IsS58.alloc | apply IsS58.drewN | apply IsS58.drew | apply IsS58.set_0 | apply IsS58.set_1 | refine IsS58.far ?_ NB259_258.out _) | exact HIB259.out)) hb)
      have n2_ := Bs2 HB hb (IsS58.ge HIB259.out) GE258.out
      have n3_ := Ax (hbox)
      have n4_ := Gw2 HB hg (IsS58.ge HIB259.out) GE258.out
      have n5_ := Gw2 HB hg (IsS58.ge HIB259.out) GE258.out
      have n6_ := Nl0 BK258 hg
      have n7_ := Nr0 BK258 hg
      have n8_ := Ax ((by rw [hg]; exact Nat.ne_of_lt (IsS58.lt (show IsS58 w _ gb259 (a0.extract 1 a0.size) 0 from by repeat (first | (with_reducible first | exact HIB259.out | apply IsS58.alloc | apply IsS58.drewN | apply IsS58.drew | apply IsS58.set_0 | apply IsS58.set_1 | refine IsS58.far ?_ NB259_258.out _) | exact HIB259.out))) : gb259 ≠ gb269))
      have n9_ := Ax ((by rw [hg]; exact Nat.ne_of_gt (IsS58.lt (show IsS58 w _ gb259 (a0.extract 1 a0.size) 0 from by repeat (first | (with_reducible first | exact HIB259.out | apply IsS58.alloc | apply IsS58.drewN | apply IsS58.drew | apply IsS58.set_0 | apply IsS58.set_1 | refine IsS58.far ?_ NB259_258.out _) | exact HIB259.out))) : gb269 ≠ gb259))
      clear BK258
      clear HIB259
      clear HB
      have BK258 := n0_
      have HIB259 := n1_
      have HB := n2_
      have BK269 := n3_
      have GW269 := n4_
      have GE269 := n5_
      have NB258_269 := n6_
      have NB269_258 := n7_
      have NB259_269 := n8_
      have NB269_259 := n9_
      clear n0_ n1_ n2_ n3_ n4_ n5_ n6_ n7_ n8_ n9_
      clear hb hbox hg
      refine hK.out _ _ trivial (fun hHeld => ?_)
      clear hK K
      refine norm_ (a' := ?_) ?_ ?_
      rotate_left
      ·show Act.put _ (some 5) _ = _
       simp only [sP]
       rfl
      refine one_ (i := 5) (N := some 19) #[tr,tr,tr,tr,tr,tr,tr,tr,tr,fa,tr,tr,tr,fa,fa,fa,tr,fa] rfl rfl (one_of HT_.out (by kernel_rfl)) (by decide) (fun K hK => ?_)
      refine goes_ Try.func27 (by kernel_rfl) rfl #[.pointer (some ⟨gb259, 0, none⟩), .int .i64 1048576] (by rfl) rfl rfl gS ?_
      with_reducible refine (num_Reader_Many.calls58 k gb259 (a0.extract 1 a0.size) 0 1048576 t260 t261 t262 w _ ?side1 ?side2 A8.out).mono ?_
      (case side1 => repeat (first | (with_reducible first | exact HIB259.out | apply IsS58.alloc | apply IsS58.drewN | apply IsS58.drew | apply IsS58.set_0 | apply IsS58.set_1 | refine IsS58.far ?_ NB259_258.out _ | refine IsS58.far ?_ NB259_269.out _) | exact HIB259.out))
      (case side2 => repeat (first | (with_reducible first | exact HB.out | apply below_alloc | apply pw_below_drewN | apply below_drew1 | refine below_set ?_ (IsS58.ge HIB259.out) | refine below_set ?_ GE258.out | refine below_set ?_ GE269.out) | exact HB.out))
      rintro e w16 ⟨rfl, hi, hb, hk⟩
      refine ⟨_, rfl, ?_⟩
      replace BK258 := Ax (KeepBut.blk hk (g' := gb258) (o := .cells #[.int .u8 0, .int .i64 0, .int .u64 0, .int .i64 0, .bool false, .int .u64 0, .int .u64 0, .int .i64 0, .int .u8 0, .int .i64 0, .int .i64 0, .int .i64 0] 32 (0, 0)) (bf0 BK258.out) NB258_259.out (by simp))
      replace BK269 := Ax (KeepBut.blk hk (g' := gb269) (o := .cells #[.int .u8 0, .int .i64 0, .int .u64 0, .int .i64 0, .bool false, .int .u64 0, .int .u64 0, .int .i64 0, .int .u8 0, .int .i64 0, .int .i64 0, .int .i64 0] 32 (0, 0)) (bf0 BK269.out) NB269_259.out (by simp))
      replace HB := Ax (hb)
      replace HIB259 := Ax (hi)
      (try clear hb)
      (try clear hb2)
      (try clear hk)
      (try clear hi)
      refine hK.out _ _ trivial (fun hHeld => ?_)
      clear hK K
      refine norm_ (a' := ?_) ?_ ?_
      rotate_left
      ·show Act.put _ (some 19) _ = _
       simp only [sP]
       rfl
      refine one_ (i := 9) (N := some 23) #[tr,tr,tr,tr,tr,tr,tr,tr,tr,tr,tr,tr,tr,fa,fa,fa,tr,fa] rfl rfl (one_of HT_.out (by kernel_rfl)) (by decide) (fun K hK => ?_)
      refine goes_ Try.func28 (by kernel_rfl) rfl #[.pointer (some ⟨gb259, 0, none⟩)] (by rfl) rfl rfl gS ?_
      with_reducible refine (num_Reader_Num.calls58 k gb259 t261 t262 t263 t264 t265 w _ ?side1 ?side2 A9.out).mono ?_
      (case side1 => repeat (first | (with_reducible first | exact HIB259.out | apply IsS58.alloc | apply IsS58.drewN | apply IsS58.drew | apply IsS58.set_0 | apply IsS58.set_1 | refine IsS58.far ?_ NB259_258.out _ | refine IsS58.far ?_ NB259_269.out _) | exact HIB259.out))
      (case side2 => repeat (first | (with_reducible first | exact HB.out | apply below_alloc | apply pw_below_drewN | apply below_drew1 | refine below_set ?_ (IsS58.ge HIB259.out) | refine below_set ?_ GE258.out | refine below_set ?_ GE269.out) | exact HB.out))
      rintro e w17 ⟨rfl, hi, hb, hk⟩
      refine ⟨_, rfl, ?_⟩
      replace BK258 := Ax (KeepBut.blk hk (g' := gb258) (o := .cells #[.int .u8 0, .int .i64 0, .int .u64 0, .int .i64 0, .bool false, .int .u64 0, .int .u64 0, .int .i64 0, .int .u8 0, .int .i64 0, .int .i64 0, .int .i64 0] 32 (0, 0)) (bf0 BK258.out) NB258_259.out (by simp))
      replace BK269 := Ax (KeepBut.blk hk (g' := gb269) (o := .cells #[.int .u8 0, .int .i64 0, .int .u64 0, .int .i64 0, .bool false, .int .u64 0, .int .u64 0, .int .i64 0, .int .u8 0, .int .i64 0, .int .i64 0, .int .i64 0] 32 (0, 0)) (bf0 BK269.out) NB269_259.out (by simp))
      replace HB := Ax (hb)
      replace HIB259 := Ax (hi)
      (try clear hb)
      (try clear hb2)
      (try clear hk)
      (try clear hi)
      refine hK.out _ _ trivial (fun hHeld => ?_)
      clear hK K
      refine norm_ (a' := ?_) ?_ ?_
      rotate_left
      ·show Act.put _ (some 23) _ = _
       simp only [sP]
       rfl
      refine one_ (i := 13) (N := some 27) #[tr,tr,tr,tr,tr,tr,tr,tr,tr,tr,tr,tr,tr,tr,fa,fa,tr,fa] rfl rfl (one_of HT_.out (by kernel_rfl)) (by decide) (fun K hK => ?_)
      refine goes_ Try.func28 (by kernel_rfl) rfl #[.pointer (some ⟨gb259, 0, none⟩)] (by rfl) rfl rfl gS ?_
      with_reducible refine (num_Reader_Num.calls58 k gb259 t264 t265 t266 t267 t268 w _ ?side1 ?side2 A10.out).mono ?_
      (case side1 => repeat (first | (with_reducible first | exact HIB259.out | apply IsS58.alloc | apply IsS58.drewN | apply IsS58.drew | apply IsS58.set_0 | apply IsS58.set_1 | refine IsS58.far ?_ NB259_258.out _ | refine IsS58.far ?_ NB259_269.out _) | exact HIB259.out))
      (case side2 => repeat (first | (with_reducible first | exact HB.out | apply below_alloc | apply pw_below_drewN | apply below_drew1 | refine below_set ?_ (IsS58.ge HIB259.out) | refine below_set ?_ GE258.out | refine below_set ?_ GE269.out) | exact HB.out))
      rintro e w18 ⟨rfl, hi, hb, hk⟩
      refine ⟨_, rfl, ?_⟩
      replace BK258 := Ax (KeepBut.blk hk (g' := gb258) (o := .cells #[.int .u8 0, .int .i64 0, .int .u64 0, .int .i64 0, .bool false, .int .u64 0, .int .u64 0, .int .i64 0, .int .u8 0, .int .i64 0, .int .i64 0, .int .i64 0] 32 (0, 0)) (bf0 BK258.out) NB258_259.out (by simp))
      replace BK269 := Ax (KeepBut.blk hk (g' := gb269) (o := .cells #[.int .u8 0, .int .i64 0, .int .u64 0, .int .i64 0, .bool false, .int .u64 0, .int .u64 0, .int .i64 0, .int .u8 0, .int .i64 0, .int .i64 0, .int .i64 0] 32 (0, 0)) (bf0 BK269.out) NB269_259.out (by simp))
      replace HB := Ax (hb)
      replace HIB259 := Ax (hi)
      (try clear hb)
      (try clear hb2)
      (try clear hk)
      (try clear hi)
      refine hK.out _ _ trivial (fun hHeld => ?_)
      clear hK K
      refine norm_ (a' := ?_) ?_ ?_
      rotate_left
      ·show Act.put _ (some 27) _ = _
       simp only [sP]
       rfl
      refine pure_ (i := 14) (N := some 28) (v := ?_) (a' := ?_) #[tr,tr,tr,tr,tr,tr,tr,tr,tr,tr,tr,tr,tr,tr,tr,fa,tr,fa] rfl rfl (any_of HT_.out (by kernel_rfl)) (fun _ _ _ h => h) (Or.inl ⟨by rfl, ?_⟩) ?_ ?_
      rotate_left
      ·intro w'
       go_simp
       with_reducible rfl
      rotate_left
      ·simp only [sP]
       rfl
      refine pure_ (i := 15) (N := some 29) (v := ?_) (a' := ?_) #[tr,tr,tr,tr,tr,tr,tr,tr,tr,tr,tr,tr,tr,tr,tr,tr,tr,fa] rfl rfl (any_of HT_.out (by kernel_rfl)) (fun _ _ _ h => h) (Or.inl ⟨by rfl, ?_⟩) ?_ ?_
      rotate_left
      ·intro w'
       go_simp
       with_reducible rfl
      rotate_left
      ·simp only [sP]
       rfl
      exact norm_ (by simp only [putAll, Act.put, List.setIfInBounds_toArray, List.set_cons_zero, List.set_cons_succ]) (hCont (gb269) _ ⟨(bf0 BK258.out), (bf0 BK269.out), GW269.out, GE269.out, NB259_269.out, NB269_259.out, NB258_269.out, NB269_258.out, (by repeat (first | (with_reducible first | exact HIB259.out | apply IsS58.alloc | apply IsS58.drewN | apply IsS58.drew | apply IsS58.set_0 | apply IsS58.set_1 | refine IsS58.far ?_ NB259_258.out _ | refine IsS58.far ?_ NB259_269.out _) | exact HIB259.out)), (bw3 HB.out (IsS58.ge HIB259.out) GE258.out GE269.out)⟩)
    rintro gb269 w19 ⟨h0_, h1_, h2_, h3_, h4_, h5_, h6_, h7_, h8_, h9_⟩
    have n0_ : Aside0 (w19.heap[gb258]? = some (.cells #[.int .u8 0, .int .i64 0, .int .u64 0, .int .i64 0, .bool false, .int .u64 0, .int .u64 0, .int .i64 0, .int .u8 0, .int .i64 0, .int .i64 0, .int .i64 0] 32 (0, 0))) := ⟨h0_⟩
    have n1_ : Aside0 (w19.heap[gb269]? = some (.cells #[.int .u8 0, .int .i64 0, .int .u64 0, .int .i64 0, .bool false, .int .u64 0, .int .u64 0, .int .i64 0, .int .u8 0, .int .i64 0, .int .i64 0, .int .i64 0] 32 (0, 0))) := ⟨h1_⟩
    have n2_ : Aside0 (w.heap.size ≤ gb269) := ⟨h2_⟩
    have n3_ : Aside0 (w.heap.size ≤ gb269) := ⟨h3_⟩
    have n4_ : Aside0 (gb259 ≠ gb269) := ⟨h4_⟩
    have n5_ : Aside0 (gb269 ≠ gb259) := ⟨h5_⟩
    have n6_ : Aside0 (gb258 ≠ gb269) := ⟨h6_⟩
    have n7_ : Aside0 (gb269 ≠ gb258) := ⟨h7_⟩
    have n8_ : Aside0 (IsS58 w w19 gb259 t267 t268) := ⟨h8_⟩
    have n9_ : Aside0 (Below w.heap.size w w19) := ⟨h9_⟩
    clear BK258
    clear HIB259
    clear HB
    clear h0_ h1_ h2_ h3_ h4_ h5_ h6_ h7_ h8_ h9_
    have BK258 := n0_
    have BK269 := n1_
    have GW269 := n2_
    have GE269 := n3_
    have NB259_269 := n4_
    have NB269_259 := n5_
    have NB258_269 := n6_
    have NB269_258 := n7_
    have HIB259 := n8_
    have HB := n9_
    clear n0_ n1_ n2_ n3_ n4_ n5_ n6_ n7_ n8_ n9_
    have hHeld := trivial
    refine norm_ (a' := ?_) ?_ ?_
    rotate_left
    ·simp only [putAll, Act.put, List.setIfInBounds_toArray, List.set_cons_zero, List.set_cons_succ]
     rfl
    refine one_ (i := 17) (N := none) #[tr,tr,tr,tr,tr,tr,tr,tr,tr,tr,tr,tr,tr,tr,tr,tr,tr,tr] rfl rfl (one_of HT_.out (by kernel_rfl)) (by decide) (fun K hK => ?_)
    have hs20 : w19.cell? ⟨gb269, 0, none⟩ = some (.int .u8 0) := (blk_cell BK269.out 0).trans rfl
    have hfs20 := blk_frozen BK269.out 0
    have hns20_0 := NB258_269.out
    have hms20_0 := NB269_258.out
    have hs21 : w19.cell? ⟨gb269, 1, none⟩ = some (.int .i64 0) := (blk_cell BK269.out 1).trans rfl
    have hfs21 := blk_frozen BK269.out 1
    have hns21_0 := NB258_269.out
    have hms21_0 := NB269_258.out
    have hs22 : w19.cell? ⟨gb269, 2, none⟩ = some (.int .u64 0) := (blk_cell BK269.out 2).trans rfl
    have hfs22 := blk_frozen BK269.out 2
    have hns22_0 := NB258_269.out
    have hms22_0 := NB269_258.out
    have hs23 : w19.cell? ⟨gb269, 3, none⟩ = some (.int .i64 0) := (blk_cell BK269.out 3).trans rfl
    have hfs23 := blk_frozen BK269.out 3
    have hns23_0 := NB258_269.out
    have hms23_0 := NB269_258.out
    have hs24 : w19.cell? ⟨gb269, 4, none⟩ = some (.bool false) := (blk_cell BK269.out 4).trans rfl
    have hfs24 := blk_frozen BK269.out 4
    have hns24_0 := NB258_269.out
    have hms24_0 := NB269_258.out
    have hs25 : w19.cell? ⟨gb269, 5, none⟩ = some (.int .u64 0) := (blk_cell BK269.out 5).trans rfl
    have hfs25 := blk_frozen BK269.out 5
    have hns25_0 := NB258_269.out
    have hms25_0 := NB269_258.out
    have hs26 : w19.cell? ⟨gb269, 6, none⟩ = some (.int .u64 0) := (blk_cell BK269.out 6).trans rfl
    have hfs26 := blk_frozen BK269.out 6
    have hns26_0 := NB258_269.out
    have hms26_0 := NB269_258.out
    have hs27 : w19.cell? ⟨gb269, 7, none⟩ = some (.int .i64 0) := (blk_cell BK269.out 7).trans rfl
    have hfs27 := blk_frozen BK269.out 7
    have hns27_0 := NB258_269.out
    have hms27_0 := NB269_258.out
    have hs28 : w19.cell? ⟨gb269, 8, none⟩ = some (.int .u8 0) := (blk_cell BK269.out 8).trans rfl
    have hfs28 := blk_frozen BK269.out 8
    have hns28_0 := NB258_269.out
    have hms28_0 := NB269_258.out
    have hs29 : w19.cell? ⟨gb269, 9, none⟩ = some (.int .i64 0) := (blk_cell BK269.out 9).trans rfl
    have hfs29 := blk_frozen BK269.out 9
    have hns29_0 := NB258_269.out
    have hms29_0 := NB269_258.out
    have hs30 : w19.cell? ⟨gb269, 10, none⟩ = some (.int .i64 0) := (blk_cell BK269.out 10).trans rfl
    have hfs30 := blk_frozen BK269.out 10
    have hns30_0 := NB258_269.out
    have hms30_0 := NB269_258.out
    have hs31 : w19.cell? ⟨gb269, 11, none⟩ = some (.int .i64 0) := (blk_cell BK269.out 11).trans rfl
    have hfs31 := blk_frozen BK269.out 11
    have hns31_0 := NB258_269.out
    have hms31_0 := NB269_258.out
    refine skip_ (w1 := ?_) (by rfl) rfl ?_ ?_
    rotate_left
    ·go_simp
     rfl
    refine hK.out _ _ trivial (fun hHeld => ?_)
    clear hK K
    refine done_ (done_of HT_.out (by kernel_rfl)) ?_
    have hnb32 := NB269_258.out
    have hnc32 := NB258_269.out
    have hnb33 := NB269_259.out
    have hnc33 := NB259_269.out
    obtain ⟨hcz34_0, hcz34_1, hcz34_2, hcz34_3, hcz34_4, hcz34_5, hcz34_6, hcz34_7, hcz34_8, hcz34_9, hcz34_10, hcz34_11, hfz34_0, hfz34_1, hfz34_2, hfz34_3, hfz34_4, hfz34_5, hfz34_6, hfz34_7, hfz34_8, hfz34_9, hfz34_10, hfz34_11⟩ := cl12 BK269
    go_upto_block 0 with (fail)
    go_cut [] (fun wc => ∃ (kq : Nat) (x260000_10 : ByteArray) (x260001_10 : Int) (x270004_10 : Bool) (x270005_10 : Int) (x270006_10 : Int) (x270007_10 : Int) (x270008_10 : Int) (x270009_10 : Int) (x270010_10 : Int) (x270011_10 : Int), Aside0 (msg_Get.j0 kq x260000_10 x260001_10 (bt a0 0) t260 t263 (wrap64 (t266)) x270004_10 x270005_10 x270006_10 x270007_10 x270008_10 x270009_10 x270010_10 x270011_10 = some (r1, r2, r3, r4, r5, r6, r7, r8, r9, r10, r11, r12, r13)) ∧ Aside0 (kq ≤ k) ∧ Aside0 (wc.heap[gb258]? = some (.cells #[.int .u8 0, .int .i64 0, .int .u64 0, .int .i64 0, .bool false, .int .u64 0, .int .u64 0, .int .i64 0, .int .u8 0, .int .i64 0, .int .i64 0, .int .i64 0] 32 (0, 0))) ∧ Aside0 (wc.heap[gb269]? = some (.cells #[.int .u8 (bt a0 0), .int .i64 t260, .int .u64 t263, .int .i64 (wrap64 (t266)), .bool x270004_10, .int .u64 x270005_10, .int .u64 x270006_10, .int .i64 x270007_10, .int .u8 x270008_10, .int .i64 x270009_10, .int .i64 x270010_10, .int .i64 x270011_10] 32 (0, 0))) ∧ Aside0 (IsS58 w wc gb259 x260000_10 x260001_10) ∧ Aside0 (Below w.heap.size w wc))
    case first =>
     have H := HC11.out
     clear HC11
     by_cases c35 : (bt a0 0) = 3
     ·rw [if_pos c35] at H
      have c35b0 : ((bt a0 0) == 3) = true := beq_iff_eq.mpr c35
      have c35b1 : ((bt a0 0) != 3) = false := bne_eq_false_iff_eq.mpr c35
      clear c35
      (first | rw [c35b0] | (simp only [i64_w, i32_w]; rw [c35b0]) | skip)
      replace H := Option.bind_eq_some_iff.mp H
      obtain ⟨⟨t270, t271, t272, t273, t274, t275⟩, A360, H⟩ := H
      replace H : ((api_Action.f k t274 t275).bind fun bt276 => (msg_Get.j0 k bt276.2.2.1 bt276.2.2.2 (bt a0 0) t260 t263 (wrap64 (t266)) t270 t271 t272 t273 bt276.1 bt276.2.1 0 0)) = some (r1, r2, r3, r4, r5, r6, r7, r8, r9, r10, r11, r12, r13) := H
      have A36 := Ax A360
      clear A360
      replace H := Option.bind_eq_some_iff.mp H
      obtain ⟨⟨t276, t277, t278, t279⟩, A370, H⟩ := H
      replace H : (msg_Get.j0 k t278 t279 (bt a0 0) t260 t263 (wrap64 (t266)) t270 t271 t272 t273 t276 t277 0 0) = some (r1, r2, r3, r4, r5, r6, r7, r8, r9, r10, r11, r12, r13) := H
      have A37 := Ax A370
      clear A370
      have H' := Ax H
      clear H
      go_wp2_with (first | ((with_reducible refine gate_callee (f := 29) rfl ?_); refine goesL_ (some 35) rfl rfl Try.func29 (by kernel_rfl) rfl #[.pointer (some ⟨gb259, 0, none⟩), .func (.func 17) #[] #[]] rfl gS ?_; (with_reducible refine (api_Prefix.calls k gb259 t267 t268 t270 t271 t272 t273 t274 t275 w _ ?side1 ?side2 A36.out).mono ?_); (case side1 => repeat (first | (with_reducible first | exact HIB259.out | apply IsS58.alloc | apply IsS58.drewN | apply IsS58.drew | apply IsS58.set_0 | apply IsS58.set_1 | refine IsS58.far ?_ NB259_258.out _ | refine IsS58.far ?_ NB259_269.out _) | exact HIB259.out)); (case side2 => repeat (first | (with_reducible first | exact HB.out | apply below_alloc | apply pw_below_drewN | apply below_drew1 | refine below_set ?_ (IsS58.ge HIB259.out) | refine below_set ?_ GE258.out | refine below_set ?_ GE269.out) | exact HB.out)); rintro e w38 ⟨rfl, hi, hb, hk⟩; refine ⟨_, rfl, ?_⟩; have n0_ := Ax (KeepBut.blk hk (g' := gb258) (o := .cells #[.int .u8 0, .int .i64 0, .int .u64 0, .int .i64 0, .bool false, .int .u64 0, .int .u64 0, .int .i64 0, .int .u8 0, .int .i64 0, .int .i64 0, .int .i64 0] 32 (0, 0)) (by (with_reducible repeat (first | refine blk_drewN ?_ _ | refine blk_drew ?_ | refine blk_alloc ?_ _)); refine blk_far ?_ NB258_269.out _; (with_reducible repeat (first | refine blk_drewN ?_ _ | refine blk_drew ?_ | refine blk_alloc ?_ _)); refine blk_far ?_ NB258_269.out _; (with_reducible repeat (first | refine blk_drewN ?_ _ | refine blk_drew ?_ | refine blk_alloc ?_ _)); refine blk_far ?_ NB258_269.out _; (with_reducible repeat (first | refine blk_drewN ?_ _ | refine blk_drew ?_ | refine blk_alloc ?_ _)); refine blk_far ?_ NB258_269.out _; (with_reducible repeat (first | refine blk_drewN ?_ _ | refine blk_drew ?_ | refine blk_alloc ?_ _)); refine blk_far ?_ NB258_269.out _; (with_reducible repeat (first | refine blk_drewN ?_ _ | refine blk_drew ?_ | refine blk_alloc ?_ _)); refine blk_far ?_ NB258_269.out _; (with_reducible repeat (first | refine blk_drewN ?_ _ | refine blk_drew ?_ | refine blk_alloc ?_ _)); refine blk_far ?_ NB258_269.out _; (with_reducible repeat (first | refine blk_drewN ?_ _ | refine blk_drew ?_ | refine blk_alloc ?_ _)); refine blk_far ?_ NB258_269.out _; (with_reducible repeat (first | refine blk_drewN ?_ _ | refine blk_drew ?_ | refine blk_alloc ?_ _)); refine blk_far ?_ NB258_269.out _; (with_reducible repeat (first | refine blk_drewN ?_ _ | refine blk_drew ?_ | refine blk_alloc ?_ _)); refine blk_far ?_ NB258_269.out _; (with_reducible repeat (first | refine blk_drewN ?_ _ | refine blk_drew ?_ | refine blk_alloc ?_ _)); refine blk_far ?_ NB258_269.out _; (with_reducible repeat (first | refine blk_drewN ?_ _ | refine blk_drew ?_ | refine blk_alloc ?_ _)); refine blk_far ?_ NB258_269.out _; (with_reducible repeat (first | refine blk_drewN ?_ _ | refine blk_drew ?_ | refine blk_alloc ?_ _)); exact BK258.out) NB258_259.out (by simp)); have n1_ := Ax (KeepBut.blk hk (g' := gb269) (o := .cells #[.int .u8 (bt a0 0), .int .i64 t260, .int .u64 t263, .int .i64 (wrap64 (t266)), .bool false, .int .u64 0, .int .u64 0, .int .i64 0, .int .u8 0, .int .i64 0, .int .i64 0, .int .i64 0] 32 (0, 0)) (by (with_reducible repeat (first | refine blk_drewN ?_ _ | refine blk_drew ?_ | refine blk_alloc ?_ _)); refine blk_put (cs := #[.int .u8 (bt a0 0), .int .i64 t260, .int .u64 t263, .int .i64 (wrap64 (t266)), .bool false, .int .u64 0, .int .u64 0, .int .i64 0, .int .u8 0, .int .i64 0, .int .i64 0, .int .i64 0]) ?_ 11 _ rfl; (with_reducible repeat (first | refine blk_drewN ?_ _ | refine blk_drew ?_ | refine blk_alloc ?_ _)); refine blk_put (cs := #[.int .u8 (bt a0 0), .int .i64 t260, .int .u64 t263, .int .i64 (wrap64 (t266)), .bool false, .int .u64 0, .int .u64 0, .int .i64 0, .int .u8 0, .int .i64 0, .int .i64 0, .int .i64 0]) ?_ 10 _ rfl; (with_reducible repeat (first | refine blk_drewN ?_ _ | refine blk_drew ?_ | refine blk_alloc ?_ _)); refine blk_put (cs := #[.int .u8 (bt a0 0), .int .i64 t260, .int .u64 t263, .int .i64 (wrap64 (t266)), .bool false, .int .u64 0, .int .u64 0, .int .i64 0, .int .u8 0, .int .i64 0, .int .i64 0, .int .i64 0]) ?_ 9 _ rfl; (with_reducible repeat (first | refine blk_drewN ?_ _ | refine blk_drew ?_ | refine blk_alloc ?_ _)); refine blk_put (cs := #[.int .u8 (bt a0 0), .int .i64 t260, .int .u64 t263, .int .i64 (wrap64 (t266)), .bool false, .int .u64 0, .int .u64 0, .int .i64 0, .int .u8 0, .int .i64 0, .int .i64 0, .int .i64 0]) ?_ 8 _ rfl; (with_reducible repeat (first | refine blk_drewN ?_ _ | refine blk_drew ?_ | refine blk_alloc ?_ _)); refine blk_put (cs := #[.int .u8 (bt a0 0), .int .i64 t260, .int .u64 t263, .int .i64 (wrap64 (t266)), .bool false, .int .u64 0, .int .u64 0, .int .i64 0, .int .u8 0, .int .i64 0, .int .i64 0, .int .i64 0]) ?_ 7 _ rfl; (with_reducible repeat (first | refine blk_drewN ?_ _ | refine blk_drew ?_ | refine blk_alloc ?_ _)); refine blk_put (cs := #[.int .u8 (bt a0 0), .int .i64 t260, .int .u64 t263, .int .i64 (wrap64 (t266)), .bool false, .int .u64 0, .int .u64 0, .int .i64 0, .int .u8 0, .int .i64 0, .int .i64 0, .int .i64 0]) ?_ 6 _ rfl; (with_reducible repeat (first | refine blk_drewN ?_ _ | refine blk_drew ?_ | refine blk_alloc ?_ _)); refine blk_put (cs := #[.int .u8 (bt a0 0), .int .i64 t260, .int .u64 t263, .int .i64 (wrap64 (t266)), .bool false, .int .u64 0, .int .u64 0, .int .i64 0, .int .u8 0, .int .i64 0, .int .i64 0, .int .i64 0]) ?_ 5 _ rfl; (with_reducible repeat (first | refine blk_drewN ?_ _ | refine blk_drew ?_ | refine blk_alloc ?_ _)); refine blk_put (cs := #[.int .u8 (bt a0 0), .int .i64 t260, .int .u64 t263, .int .i64 (wrap64 (t266)), .bool false, .int .u64 0, .int .u64 0, .int .i64 0, .int .u8 0, .int .i64 0, .int .i64 0, .int .i64 0]) ?_ 4 _ rfl; (with_reducible repeat (first | refine blk_drewN ?_ _ | refine blk_drew ?_ | refine blk_alloc ?_ _)); refine blk_put (cs := #[.int .u8 (bt a0 0), .int .i64 t260, .int .u64 t263, .int .i64 0, .bool false, .int .u64 0, .int .u64 0, .int .i64 0, .int .u8 0, .int .i64 0, .int .i64 0, .int .i64 0]) ?_ 3 _ rfl; (with_reducible repeat (first | refine blk_drewN ?_ _ | refine blk_drew ?_ | refine blk_alloc ?_ _)); refine blk_put (cs := #[.int .u8 (bt a0 0), .int .i64 t260, .int .u64 0, .int .i64 0, .bool false, .int .u64 0, .int .u64 0, .int .i64 0, .int .u8 0, .int .i64 0, .int .i64 0, .int .i64 0]) ?_ 2 _ rfl; (with_reducible repeat (first | refine blk_drewN ?_ _ | refine blk_drew ?_ | refine blk_alloc ?_ _)); refine blk_put (cs := #[.int .u8 (bt a0 0), .int .i64 0, .int .u64 0, .int .i64 0, .bool false, .int .u64 0, .int .u64 0, .int .i64 0, .int .u8 0, .int .i64 0, .int .i64 0, .int .i64 0]) ?_ 1 _ rfl; (with_reducible repeat (first | refine blk_drewN ?_ _ | refine blk_drew ?_ | refine blk_alloc ?_ _)); refine blk_put (cs := #[.int .u8 0, .int .i64 0, .int .u64 0, .int .i64 0, .bool false, .int .u64 0, .int .u64 0, .int .i64 0, .int .u8 0, .int .i64 0, .int .i64 0, .int .i64 0]) ?_ 0 _ rfl; (with_reducible repeat (first | refine blk_drewN ?_ _ | refine blk_drew ?_ | refine blk_alloc ?_ _)); exact BK269.out) NB269_259.out (by simp)); have n2_ := Ax (hb); have n3_ := Ax (hi); clear BK258; clear BK269; clear HB; clear HIB259; have BK258 := n0_; have BK269 := n1_; have HB := n2_; have HIB259 := n3_; clear n0_ n1_ n2_ n3_; (try clear hb); (try clear hb2); (try clear hk); (try clear hi)) | ((with_reducible refine gate_callee (f := 30) rfl ?_); refine goesL_ (some 37) rfl rfl Try.func30 (by kernel_rfl) rfl #[.pointer (some ⟨gb259, 0, none⟩), .func (.func 21) #[] #[]] rfl gS ?_; (with_reducible refine (api_Action.calls k gb259 t274 t275 t276 t277 t278 t279 w _ ?side1 ?side2 A37.out).mono ?_); (case side1 => repeat (first | (with_reducible first | exact HIB259.out | apply IsS58.alloc | apply IsS58.drewN | apply IsS58.drew | apply IsS58.set_0 | apply IsS58.set_1 | refine IsS58.far ?_ NB259_258.out _ | refine IsS58.far ?_ NB259_269.out _) | exact HIB259.out)); (case side2 => repeat (first | (with_reducible first | exact HB.out | apply below_alloc | apply pw_below_drewN | apply below_drew1 | refine below_set ?_ (IsS58.ge HIB259.out) | refine below_set ?_ GE258.out | refine below_set ?_ GE269.out) | exact HB.out)); rintro e w39 ⟨rfl, hi, hb, hk⟩; refine ⟨_, rfl, ?_⟩; replace BK258 := Ax (KeepBut.blk hk (g' := gb258) (o := .cells #[.int .u8 0, .int .i64 0, .int .u64 0, .int .i64 0, .bool false, .int .u64 0, .int .u64 0, .int .i64 0, .int .u8 0, .int .i64 0, .int .i64 0, .int .i64 0] 32 (0, 0)) (bf0 BK258.out) NB258_259.out (by simp)); replace BK269 := Ax (KeepBut.blk hk (g' := gb269) (o := .cells #[.int .u8 (bt a0 0), .int .i64 t260, .int .u64 t263, .int .i64 (wrap64 (t266)), .bool false, .int .u64 0, .int .u64 0, .int .i64 0, .int .u8 0, .int .i64 0, .int .i64 0, .int .i64 0] 32 (0, 0)) (bf0 BK269.out) NB269_259.out (by simp)); replace HB := Ax (hb); replace HIB259 := Ax (hi); (try clear hb); (try clear hb2); (try clear hk); (try clear hi); have hnb40 := NB269_258.out; have hnc40 := NB258_269.out; have hnb41 := NB269_259.out; have hnc41 := NB259_269.out; obtain ⟨hcz42_0, hcz42_1, hcz42_2, hcz42_3, hcz42_4, hcz42_5, hcz42_6, hcz42_7, hcz42_8, hcz42_9, hcz42_10, hcz42_11, hfz42_0, hfz42_1, hfz42_2, hfz42_3, hfz42_4, hfz42_5, hfz42_6, hfz42_7, hfz42_8, hfz42_9, hfz42_10, hfz42_11⟩ := cl12 BK269))
      go_meet
      case rel => exact ⟨_, (t278), (t279), (t270), (t271), (t272), (t273), (t276), (t277), (0), (0), H', ⟨by first | omega | exact Nat.le_refl _⟩, ⟨bf6 BK258.out NB258_269.out NB258_269.out NB258_269.out NB258_269.out NB258_269.out NB258_269.out⟩, ⟨by (with_reducible repeat (first | refine blk_drewN ?_ _ | refine blk_drew ?_ | refine blk_alloc ?_ _)); refine blk_put (cs := #[.int .u8 (bt a0 0), .int .i64 t260, .int .u64 t263, .int .i64 (wrap64 (t266)), .bool t270, .int .u64 t271, .int .u64 t272, .int .i64 t273, .int .u8 t276, .int .i64 0, .int .i64 0, .int .i64 0]) ?_ 9 _ rfl; (with_reducible repeat (first | refine blk_drewN ?_ _ | refine blk_drew ?_ | refine blk_alloc ?_ _)); refine blk_put (cs := #[.int .u8 (bt a0 0), .int .i64 t260, .int .u64 t263, .int .i64 (wrap64 (t266)), .bool t270, .int .u64 t271, .int .u64 t272, .int .i64 t273, .int .u8 0, .int .i64 0, .int .i64 0, .int .i64 0]) ?_ 8 _ rfl; (with_reducible repeat (first | refine blk_drewN ?_ _ | refine blk_drew ?_ | refine blk_alloc ?_ _)); refine blk_put (cs := #[.int .u8 (bt a0 0), .int .i64 t260, .int .u64 t263, .int .i64 (wrap64 (t266)), .bool t270, .int .u64 t271, .int .u64 t272, .int .i64 0, .int .u8 0, .int .i64 0, .int .i64 0, .int .i64 0]) ?_ 7 _ rfl; (with_reducible repeat (first | refine blk_drewN ?_ _ | refine blk_drew ?_ | refine blk_alloc ?_ _)); refine blk_put (cs := #[.int .u8 (bt a0 0), .int .i64 t260, .int .u64 t263, .int .i64 (wrap64 (t266)), .bool t270, .int .u64 t271, .int .u64 0, .int .i64 0, .int .u8 0, .int .i64 0, .int .i64 0, .int .i64 0]) ?_ 6 _ rfl; (with_reducible repeat (first | refine blk_drewN ?_ _ | refine blk_drew ?_ | refine blk_alloc ?_ _)); refine blk_put (cs := #[.int .u8 (bt a0 0), .int .i64 t260, .int .u64 t263, .int .i64 (wrap64 (t266)), .bool t270, .int .u64 0, .int .u64 0, .int .i64 0, .int .u8 0, .int .i64 0, .int .i64 0, .int .i64 0]) ?_ 5 _ rfl; (with_reducible repeat (first | refine blk_drewN ?_ _ | refine blk_drew ?_ | refine blk_alloc ?_ _)); refine blk_put (cs := #[.int .u8 (bt a0 0), .int .i64 t260, .int .u64 t263, .int .i64 (wrap64 (t266)), .bool false, .int .u64 0, .int .u64 0, .int .i64 0, .int .u8 0, .int .i64 0, .int .i64 0, .int .i64 0]) ?_ 4 _ rfl; (with_reducible repeat (first | refine blk_drewN ?_ _ | refine blk_drew ?_ | refine blk_alloc ?_ _)); exact BK269.out⟩, ⟨by repeat (first | (with_reducible first | exact HIB259.out | apply IsS58.alloc | apply IsS58.drewN | apply IsS58.drew | apply IsS58.set_0 | apply IsS58.set_1 | refine IsS58.far ?_ NB259_258.out _ | refine IsS58.far ?_ NB259_269.out _) | exact HIB259.out)⟩, ⟨bw3 HB.out (IsS58.ge HIB259.out) GE258.out GE269.out⟩⟩
     ·rw [if_neg c35] at H
      have c35b0 : ((bt a0 0) == 3) = false := beq_eq_false_iff_ne.mpr c35
      have c35b1 : ((bt a0 0) != 3) = true := bne_iff_ne.mpr c35
      (first | rw [c35b0] | (simp only [i64_w, i32_w]; rw [c35b0]) | skip)
      by_cases c43 : (bt a0 0) = 4
      ·rw [if_pos c43] at H
       have c43b0 : ((bt a0 0) == 4) = true := beq_iff_eq.mpr c43
       have c43b1 : ((bt a0 0) != 4) = false := bne_eq_false_iff_eq.mpr c43
       clear c43
       replace H := Option.bind_eq_some_iff.mp H
       obtain ⟨⟨t280, t281, t282, t283, t284, t285⟩, A440, H⟩ := H
       replace H : (msg_Get.j0 k t284 t285 (bt a0 0) t260 t263 (wrap64 (t266)) t280 t281 t282 t283 0 0 0 0) = some (r1, r2, r3, r4, r5, r6, r7, r8, r9, r10, r11, r12, r13) := H
       have A44 := Ax A440
       clear A440
       have H' := Ax H
       clear H
       go_wp2_with (first | ((with_reducible refine gate_callee (f := 29) rfl ?_); refine goesL_ (some 43) rfl rfl Try.func29 (by kernel_rfl) rfl #[.pointer (some ⟨gb259, 0, none⟩), .func (.func 17) #[] #[]] rfl gS ?_; (with_reducible refine (api_Prefix.calls k gb259 t267 t268 t280 t281 t282 t283 t284 t285 w _ ?side1 ?side2 A44.out).mono ?_); (case side1 => repeat (first | (with_reducible first | exact HIB259.out | apply IsS58.alloc | apply IsS58.drewN | apply IsS58.drew | apply IsS58.set_0 | apply IsS58.set_1 | refine IsS58.far ?_ NB259_258.out _ | refine IsS58.far ?_ NB259_269.out _) | exact HIB259.out)); (case side2 => repeat (first | (with_reducible first | exact HB.out | apply below_alloc | apply pw_below_drewN | apply below_drew1 | refine below_set ?_ (IsS58.ge HIB259.out) | refine below_set ?_ GE258.out | refine below_set ?_ GE269.out) | exact HB.out)); rintro e w45 ⟨rfl, hi, hb, hk⟩; refine ⟨_, rfl, ?_⟩; have n0_ := Ax (KeepBut.blk hk (g' := gb258) (o := .cells #[.int .u8 0, .int .i64 0, .int .u64 0, .int .i64 0, .bool false, .int .u64 0, .int .u64 0, .int .i64 0, .int .u8 0, .int .i64 0, .int .i64 0, .int .i64 0] 32 (0, 0)) (by (with_reducible repeat (first | refine blk_drewN ?_ _ | refine blk_drew ?_ | refine blk_alloc ?_ _)); refine blk_far ?_ NB258_269.out _; (with_reducible repeat (first | refine blk_drewN ?_ _ | refine blk_drew ?_ | refine blk_alloc ?_ _)); refine blk_far ?_ NB258_269.out _; (with_reducible repeat (first | refine blk_drewN ?_ _ | refine blk_drew ?_ | refine blk_alloc ?_ _)); refine blk_far ?_ NB258_269.out _; (with_reducible repeat (first | refine blk_drewN ?_ _ | refine blk_drew ?_ | refine blk_alloc ?_ _)); refine blk_far ?_ NB258_269.out _; (with_reducible repeat (first | refine blk_drewN ?_ _ | refine blk_drew ?_ | refine blk_alloc ?_ _)); refine blk_far ?_ NB258_269.out _; (with_reducible repeat (first | refine blk_drewN ?_ _ | refine blk_drew ?_ | refine blk_alloc ?_ _)); refine blk_far ?_ NB258_269.out _; (with_reducible repeat (first | refine blk_drewN ?_ _ | refine blk_drew ?_ | refine blk_alloc ?_ _)); refine blk_far ?_ NB258_269.out _; (with_reducible repeat (first | refine blk_drewN ?_ _ | refine blk_drew ?_ | refine blk_alloc ?_ _)); refine blk_far ?_ NB258_269.out _; (with_reducible repeat (first | refine blk_drewN ?_ _ | refine blk_drew ?_ | refine blk_alloc ?_ _)); refine blk_far ?_ NB258_269.out _; (with_reducible repeat (first | refine blk_drewN ?_ _ | refine blk_drew ?_ | refine blk_alloc ?_ _)); refine blk_far ?_ NB258_269.out _; (with_reducible repeat (first | refine blk_drewN ?_ _ | refine blk_drew ?_ | refine blk_alloc ?_ _)); refine blk_far ?_ NB258_269.out _; (with_reducible repeat (first | refine blk_drewN ?_ _ | refine blk_drew ?_ | refine blk_alloc ?_ _)); refine blk_far ?_ NB258_269.out _; (with_reducible repeat (first | refine blk_drewN ?_ _ | refine blk_drew ?_ | refine blk_alloc ?_ _)); exact BK258.out) NB258_259.out (by simp)); have n1_ := Ax (KeepBut.blk hk (g' := gb269) (o := .cells #[.int .u8 (bt a0 0), .int .i64 t260, .int .u64 t263, .int .i64 (wrap64 (t266)), .bool false, .int .u64 0, .int .u64 0, .int .i64 0, .int .u8 0, .int .i64 0, .int .i64 0, .int .i64 0] 32 (0, 0)) (by (with_reducible repeat (first | refine blk_drewN ?_ _ | refine blk_drew ?_ | refine blk_alloc ?_ _)); refine blk_put (cs := #[.int .u8 (bt a0 0), .int .i64 t260, .int .u64 t263, .int .i64 (wrap64 (t266)), .bool false, .int .u64 0, .int .u64 0, .int .i64 0, .int .u8 0, .int .i64 0, .int .i64 0, .int .i64 0]) ?_ 11 _ rfl; (with_reducible repeat (first | refine blk_drewN ?_ _ | refine blk_drew ?_ | refine blk_alloc ?_ _)); refine blk_put (cs := #[.int .u8 (bt a0 0), .int .i64 t260, .int .u64 t263, .int .i64 (wrap64 (t266)), .bool false, .int .u64 0, .int .u64 0, .int .i64 0, .int .u8 0, .int .i64 0, .int .i64 0, .int .i64 0]) ?_ 10 _ rfl; (with_reducible repeat (first | refine blk_drewN ?_ _ | refine blk_drew ?_ | refine blk_alloc ?_ _)); refine blk_put (cs := #[.int .u8 (bt a0 0), .int .i64 t260, .int .u64 t263, .int .i64 (wrap64 (t266)), .bool false, .int .u64 0, .int .u64 0, .int .i64 0, .int .u8 0, .int .i64 0, .int .i64 0, .int .i64 0]) ?_ 9 _ rfl; (with_reducible repeat (first | refine blk_drewN ?_ _ | refine blk_drew ?_ | refine blk_alloc ?_ _)); refine blk_put (cs := #[.int .u8 (bt a0 0), .int .i64 t260, .int .u64 t263, .int .i64 (wrap64 (t266)), .bool false, .int .u64 0, .int .u64 0, .int .i64 0, .int .u8 0, .int .i64 0, .int .i64 0, .int .i64 0]) ?_ 8 _ rfl; (with_reducible repeat (first | refine blk_drewN ?_ _ | refine blk_drew ?_ | refine blk_alloc ?_ _)); refine blk_put (cs := #[.int .u8 (bt a0 0), .int .i64 t260, .int .u64 t263, .int .i64 (wrap64 (t266)), .bool false, .int .u64 0, .int .u64 0, .int .i64 0, .int .u8 0, .int .i64 0, .int .i64 0, .int .i64 0]) ?_ 7 _ rfl; (with_reducible repeat (first | refine blk_drewN ?_ _ | refine blk_drew ?_ | refine blk_alloc ?_ _)); refine blk_put (cs := #[.int .u8 (bt a0 0), .int .i64 t260, .int .u64 t263, .int .i64 (wrap64 (t266)), .bool false, .int .u64 0, .int .u64 0, .int .i64 0, .int .u8 0, .int .i64 0, .int .i64 0, .int .i64 0]) ?_ 6 _ rfl; (with_reducible repeat (first | refine blk_drewN ?_ _ | refine blk_drew ?_ | refine blk_alloc ?_ _)); refine blk_put (cs := #[.int .u8 (bt a0 0), .int .i64 t260, .int .u64 t263, .int .i64 (wrap64 (t266)), .bool false, .int .u64 0, .int .u64 0, .int .i64 0, .int .u8 0, .int .i64 0, .int .i64 0, .int .i64 0]) ?_ 5 _ rfl; (with_reducible repeat (first | refine blk_drewN ?_ _ | refine blk_drew ?_ | refine blk_alloc ?_ _)); refine blk_put (cs := #[.int .u8 (bt a0 0), .int .i64 t260, .int .u64 t263, .int .i64 (wrap64 (t266)), .bool false, .int .u64 0, .int .u64 0, .int .i64 0, .int .u8 0, .int .i64 0, .int .i64 0, .int .i64 0]) ?_ 4 _ rfl; (with_reducible repeat (first | refine blk_drewN ?_ _ | refine blk_drew ?_ | refine blk_alloc ?_ _)); refine blk_put (cs := #[.int .u8 (bt a0 0), .int .i64 t260, .int .u64 t263, .int .i64 0, .bool false, .int .u64 0, .int .u64 0, .int .i64 0, .int .u8 0, .int .i64 0, .int .i64 0, .int .i64 0]) ?_ 3 _ rfl; (with_reducible repeat (first | refine blk_drewN ?_ _ | refine blk_drew ?_ | refine blk_alloc ?_ _)); refine blk_put (cs := #[.int .u8 (bt a0 0), .int .i64 t260, .int .u64 0, .int .i64 0, .bool false, .int .u64 0, .int .u64 0, .int .i64 0, .int .u8 0, .int .i64 0, .int .i64 0, .int .i64 0]) ?_ 2 _ rfl; (with_reducible repeat (first | refine blk_drewN ?_ _ | refine blk_drew ?_ | refine blk_alloc ?_ _)); refine blk_put (cs := #[.int .u8 (bt a0 0), .int .i64 0, .int .u64 0, .int .i64 0, .bool false, .int .u64 0, .int .u64 0, .int .i64 0, .int .u8 0, .int .i64 0, .int .i64 0, .int .i64 0]) ?_ 1 _ rfl; (with_reducible repeat (first | refine blk_drewN ?_ _ | refine blk_drew ?_ | refine blk_alloc ?_ _)); refine blk_put (cs := #[.int .u8 0, .int .i64 0, .int .u64 0, .int .i64 0, .bool false, .int .u64 0, .int .u64 0, .int .i64 0, .int .u8 0, .int .i64 0, .int .i64 0, .int .i64 0]) ?_ 0 _ rfl; (with_reducible repeat (first | refine blk_drewN ?_ _ | refine blk_drew ?_ | refine blk_alloc ?_ _)); exact BK269.out) NB269_259.out (by simp)); have n2_ := Ax (hb); have n3_ := Ax (hi); clear BK258; clear BK269; clear HB; clear HIB259; have BK258 := n0_; have BK269 := n1_; have HB := n2_; have HIB259 := n3_; clear n0_ n1_ n2_ n3_; (try clear hb); (try clear hb2); (try clear hk); (try clear hi); have hnb46 := NB269_258.out; have hnc46 := NB258_269.out; have hnb47 := NB269_259.out; have hnc47 := NB259_269.out; obtain ⟨hcz48_0, hcz48_1, hcz48_2, hcz48_3, hcz48_4, hcz48_5, hcz48_6, hcz48_7, hcz48_8, hcz48_9, hcz48_10, hcz48_11, hfz48_0, hfz48_1, hfz48_2, hfz48_3, hfz48_4, hfz48_5, hfz48_6, hfz48_7, hfz48_8, hfz48_9, hfz48_10, hfz48_11⟩ := cl12 BK269))
       go_meet
       case rel => exact ⟨_, (t284), (t285), (t280), (t281), (t282), (t283), (0), (0), (0), (0), H', ⟨by first | omega | exact Nat.le_refl _⟩, ⟨bf4 BK258.out NB258_269.out NB258_269.out NB258_269.out NB258_269.out⟩, ⟨by (with_reducible repeat (first | refine blk_drewN ?_ _ | refine blk_drew ?_ | refine blk_alloc ?_ _)); refine blk_put (cs := #[.int .u8 (bt a0 0), .int .i64 t260, .int .u64 t263, .int .i64 (wrap64 (t266)), .bool t280, .int .u64 t281, .int .u64 t282, .int .i64 0, .int .u8 0, .int .i64 0, .int .i64 0, .int .i64 0]) ?_ 7 _ rfl; (with_reducible repeat (first | refine blk_drewN ?_ _ | refine blk_drew ?_ | refine blk_alloc ?_ _)); refine blk_put (cs := #[.int .u8 (bt a0 0), .int .i64 t260, .int .u64 t263, .int .i64 (wrap64 (t266)), .bool t280, .int .u64 t281, .int .u64 0, .int .i64 0, .int .u8 0, .int .i64 0, .int .i64 0, .int .i64 0]) ?_ 6 _ rfl; (with_reducible repeat (first | refine blk_drewN ?_ _ | refine blk_drew ?_ | refine blk_alloc ?_ _)); refine blk_put (cs := #[.int .u8 (bt a0 0), .int .i64 t260, .int .u64 t263, .int .i64 (wrap64 (t266)), .bool t280, .int .u64 0, .int .u64 0, .int .i64 0, .int .u8 0, .int .i64 0, .int .i64 0, .int .i64 0]) ?_ 5 _ rfl; (with_reducible repeat (first | refine blk_drewN ?_ _ | refine blk_drew ?_ | refine blk_alloc ?_ _)); refine blk_put (cs := #[.int .u8 (bt a0 0), .int .i64 t260, .int .u64 t263, .int .i64 (wrap64 (t266)), .bool false, .int .u64 0, .int .u64 0, .int .i64 0, .int .u8 0, .int .i64 0, .int .i64 0, .int .i64 0]) ?_ 4 _ rfl; (with_reducible repeat (first | refine blk_drewN ?_ _ | refine blk_drew ?_ | refine blk_alloc ?_ _)); exact BK269.out⟩, ⟨by repeat (first | (with_reducible first | exact HIB259.out | apply IsS58.alloc | apply IsS58.drewN | apply IsS58.drew | apply IsS58.set_0 | apply IsS58.set_1 | refine IsS58.far ?_ NB259_258.out _ | refine IsS58.far ?_ NB259_269.out _) | exact HIB259.out)⟩, ⟨bw3 HB.out (IsS58.ge HIB259.out) GE258.out GE269.out⟩⟩
      ·rw [if_neg c43] at H
       have c43b0 : ((bt a0 0) == 4) = false := beq_eq_false_iff_ne.mpr c43
       have c43b1 : ((bt a0 0) != 4) = true := bne_iff_ne.mpr c43
       by_cases c49 : (bt a0 0) = 5
       ·rw [if_pos c49] at H
        have c49b0 : ((bt a0 0) == 5) = true := beq_iff_eq.mpr c49
        have c49b1 : ((bt a0 0) != 5) = false := bne_eq_false_iff_eq.mpr c49
        clear c49
        replace H := Option.bind_eq_some_iff.mp H
        obtain ⟨⟨t286, t287, t288⟩, A500, H⟩ := H
        replace H : ((num_Reader_Many.f k t287 t288 1048576).bind fun bt289 => (msg_Get.j0 k bt289.2.1 bt289.2.2 (bt a0 0) t260 t263 (wrap64 (t266)) false 0 0 0 0 0 t286 bt289.1)) = some (r1, r2, r3, r4, r5, r6, r7, r8, r9, r10, r11, r12, r13) := H
        have A50 := Ax A500
        clear A500
        replace H := Option.bind_eq_some_iff.mp H
        obtain ⟨⟨t289, t290, t291⟩, A510, H⟩ := H
        replace H : (msg_Get.j0 k t290 t291 (bt a0 0) t260 t263 (wrap64 (t266)) false 0 0 0 0 0 t286 t289) = some (r1, r2, r3, r4, r5, r6, r7, r8, r9, r10, r11, r12, r13) := H
        have A51 := Ax A510
        clear A510
        have H' := Ax H
        clear H
        try go_wp2
        have n0_ : Aside0 (((((((((((((w19.setCell ⟨gb269, 0, none⟩ (.int .u8 (bt a0 0))).setCell ⟨gb269, 1, none⟩ (.int .i64 t260)).setCell ⟨gb269, 2, none⟩ (.int .u64 t263)).setCell ⟨gb269, 3, none⟩ (.int .i64 (wrap64 (t266)))).setCell ⟨gb269, 4, none⟩ (.bool false)).setCell ⟨gb269, 5, none⟩ (.int .u64 0)).setCell ⟨gb269, 6, none⟩ (.int .u64 0)).setCell ⟨gb269, 7, none⟩ (.int .i64 0)).setCell ⟨gb269, 8, none⟩ (.int .u8 0)).setCell ⟨gb269, 9, none⟩ (.int .i64 0)).setCell ⟨gb269, 10, none⟩ (.int .i64 0)).setCell ⟨gb269, 11, none⟩ (.int .i64 0)).heap[gb258]? = some (.cells #[.int .u8 0, .int .i64 0, .int .u64 0, .int .i64 0, .bool false, .int .u64 0, .int .u64 0, .int .i64 0, .int .u8 0, .int .i64 0, .int .i64 0, .int .i64 0] 32 (0, 0))) := ⟨by (with_reducible repeat (first | refine blk_drewN ?_ _ | refine blk_drew ?_ | refine blk_alloc ?_ _)); refine blk_far ?_ NB258_269.out _; (with_reducible repeat (first | refine blk_drewN ?_ _ | refine blk_drew ?_ | refine blk_alloc ?_ _)); refine blk_far ?_ NB258_269.out _; (with_reducible repeat (first | refine blk_drewN ?_ _ | refine blk_drew ?_ | refine blk_alloc ?_ _)); refine blk_far ?_ NB258_269.out _; (with_reducible repeat (first | refine blk_drewN ?_ _ | refine blk_drew ?_ | refine blk_alloc ?_ _)); refine blk_far ?_ NB258_269.out _; (with_reducible repeat (first | refine blk_drewN ?_ _ | refine blk_drew ?_ | refine blk_alloc ?_ _)); refine blk_far ?_ NB258_269.out _; (with_reducible repeat (first | refine blk_drewN ?_ _ | refine blk_drew ?_ | refine blk_alloc ?_ _)); refine blk_far ?_ NB258_269.out _; (with_reducible repeat (first | refine blk_drewN ?_ _ | refine blk_drew ?_ | refine blk_alloc ?_ _)); refine blk_far ?_ NB258_269.out _; (with_reducible repeat (first | refine blk_drewN ?_ _ | refine blk_drew ?_ | refine blk_alloc ?_ _)); refine blk_far ?_ NB258_269.out _; (with_reducible repeat (first | refine blk_drewN ?_ _ | refine blk_drew ?_ | refine blk_alloc ?_ _)); refine blk_far ?_ NB258_269.out _; (with_reducible repeat (first | refine blk_drewN ?_ _ | refine blk_drew ?_ | refine blk_alloc ?_ _)); refine blk_far ?_ NB258_269.out _; (with_reducible repeat (first | refine blk_drewN ?_ _ | refine blk_drew ?_ | refine blk_alloc ?_ _)); refine blk_far ?_ NB258_269.out _; (with_reducible repeat (first | refine blk_drewN ?_ _ | refine blk_drew ?_ | refine blk_alloc ?_ _)); refine blk_far ?_ NB258_269.out _; (with_reducible repeat (first | refine blk_drewN ?_ _ | refine blk_drew ?_ | refine blk_alloc ?_ _)); exact BK258.out⟩
        have n1_ : Aside0 (((((((((((((w19.setCell ⟨gb269, 0, none⟩ (.int .u8 (bt a0 0))).setCell ⟨gb269, 1, none⟩ (.int .i64 t260)).setCell ⟨gb269, 2, none⟩ (.int .u64 t263)).setCell ⟨gb269, 3, none⟩ (.int .i64 (wrap64 (t266)))).setCell ⟨gb269, 4, none⟩ (.bool false)).setCell ⟨gb269, 5, none⟩ (.int .u64 0)).setCell ⟨gb269, 6, none⟩ (.int .u64 0)).setCell ⟨gb269, 7, none⟩ (.int .i64 0)).setCell ⟨gb269, 8, none⟩ (.int .u8 0)).setCell ⟨gb269, 9, none⟩ (.int .i64 0)).setCell ⟨gb269, 10, none⟩ (.int .i64 0)).setCell ⟨gb269, 11, none⟩ (.int .i64 0)).heap[gb269]? = some (.cells #[.int .u8 (bt a0 0), .int .i64 t260, .int .u64 t263, .int .i64 (wrap64 (t266)), .bool false, .int .u64 0, .int .u64 0, .int .i64 0, .int .u8 0, .int .i64 0, .int .i64 0, .int .i64 0] 32 (0, 0))) := ⟨by (with_reducible repeat (first | refine blk_drewN ?_ _ | refine blk_drew ?_ | refine blk_alloc ?_ _)); refine blk_put (cs := #[.int .u8 (bt a0 0), .int .i64 t260, .int .u64 t263, .int .i64 (wrap64 (t266)), .bool false, .int .u64 0, .int .u64 0, .int .i64 0, .int .u8 0, .int .i64 0, .int .i64 0, .int .i64 0]) ?_ 11 _ rfl; (with_reducible repeat (first | refine blk_drewN ?_ _ | refine blk_drew ?_ | refine blk_alloc ?_ _)); refine blk_put (cs := #[.int .u8 (bt a0 0), .int .i64 t260, .int .u64 t263, .int .i64 (wrap64 (t266)), .bool false, .int .u64 0, .int .u64 0, .int .i64 0, .int .u8 0, .int .i64 0, .int .i64 0, .int .i64 0]) ?_ 10 _ rfl; (with_reducible repeat (first | refine blk_drewN ?_ _ | refine blk_drew ?_ | refine blk_alloc ?_ _)); refine blk_put (cs := #[.int .u8 (bt a0 0), .int .i64 t260, .int .u64 t263, .int .i64 (wrap64 (t266)), .bool false, .int .u64 0, .int .u64 0, .int .i64 0, .int .u8 0, .int .i64 0, .int .i64 0, .int .i64 0]) ?_ 9 _ rfl; (with_reducible repeat (first | refine blk_drewN ?_ _ | refine blk_drew ?_ | refine blk_alloc ?_ _)); refine blk_put (cs := #[.int .u8 (bt a0 0), .int .i64 t260, .int .u64 t263, .int .i64 (wrap64 (t266)), .bool false, .int .u64 0, .int .u64 0, .int .i64 0, .int .u8 0, .int .i64 0, .int .i64 0, .int .i64 0]) ?_ 8 _ rfl; (with_reducible repeat (first | refine blk_drewN ?_ _ | refine blk_drew ?_ | refine blk_alloc ?_ _)); refine blk_put (cs := #[.int .u8 (bt a0 0), .int .i64 t260, .int .u64 t263, .int .i64 (wrap64 (t266)), .bool false, .int .u64 0, .int .u64 0, .int .i64 0, .int .u8 0, .int .i64 0, .int .i64 0, .int .i64 0]) ?_ 7 _ rfl; (with_reducible repeat (first | refine blk_drewN ?_ _ | refine blk_drew ?_ | refine blk_alloc ?_ _)); refine blk_put (cs := #[.int .u8 (bt a0 0), .int .i64 t260, .int .u64 t263, .int .i64 (wrap64 (t266)), .bool false, .int .u64 0, .int .u64 0, .int .i64 0, .int .u8 0, .int .i64 0, .int .i64 0, .int .i64 0]) ?_ 6 _ rfl; (with_reducible repeat (first | refine blk_drewN ?_ _ | refine blk_drew ?_ | refine blk_alloc ?_ _)); refine blk_put (cs := #[.int .u8 (bt a0 0), .int .i64 t260, .int .u64 t263, .int .i64 (wrap64 (t266)), .bool false, .int .u64 0, .int .u64 0, .int .i64 0, .int .u8 0, .int .i64 0, .int .i64 0, .int .i64 0]) ?_ 5 _ rfl; (with_reducible repeat (first | refine blk_drewN ?_ _ | refine blk_drew ?_ | refine blk_alloc ?_ _)); refine blk_put (cs := #[.int .u8 (bt a0 0), .int .i64 t260, .int .u64 t263, .int .i64 (wrap64 (t266)), .bool false, .int .u64 0, .int .u64 0, .int .i64 0, .int .u8 0, .int .i64 0, .int .i64 0, .int .i64 0]) ?_ 4 _ rfl; (with_reducible repeat (first | refine blk_drewN ?_ _ | refine blk_drew ?_ | refine blk_alloc ?_ _)); refine blk_put (cs := #[.int .u8 (bt a0 0), .int .i64 t260, .int .u64 t263, .int .i64 0, .bool false, .int .u64 0, .int .u64 0, .int .i64 0, .int .u8 0, .int .i64 0, .int .i64 0, .int .i64 0]) ?_ 3 _ rfl; (with_reducible repeat (first | refine blk_drewN ?_ _ | refine blk_drew ?_ | refine blk_alloc ?_ _)); refine blk_put (cs := #[.int .u8 (bt a0 0), .int .i64 t260, .int .u64 0, .int .i64 0, .bool false, .int .u64 0, .int .u64 0, .int .i64 0, .int .u8 0, .int .i64 0, .int .i64 0, .int .i64 0]) ?_ 2 _ rfl; (with_reducible repeat (first | refine blk_drewN ?_ _ | refine blk_drew ?_ | refine blk_alloc ?_ _)); refine blk_put (cs := #[.int .u8 (bt a0 0), .int .i64 0, .int .u64 0, .int .i64 0, .bool false, .int .u64 0, .int .u64 0, .int .i64 0, .int .u8 0, .int .i64 0, .int .i64 0, .int .i64 0]) ?_ 1 _ rfl; (with_reducible repeat (first | refine blk_drewN ?_ _ | refine blk_drew ?_ | refine blk_alloc ?_ _)); refine blk_put (cs := #[.int .u8 0, .int .i64 0, .int .u64 0, .int .i64 0, .bool false, .int .u64 0, .int .u64 0, .int .i64 0, .int .u8 0, .int .i64 0, .int .i64 0, .int .i64 0]) ?_ 0 _ rfl; (with_reducible repeat (first | refine blk_drewN ?_ _ | refine blk_drew ?_ | refine blk_alloc ?_ _)); exact BK269.out⟩
        have n2_ : Aside0 (IsS58 w ((((((((((((w19.setCell ⟨gb269, 0, none⟩ (.int .u8 (bt a0 0))).setCell ⟨gb269, 1, none⟩ (.int .i64 t260)).setCell ⟨gb269, 2, none⟩ (.int .u64 t263)).setCell ⟨gb269, 3, none⟩ (.int .i64 (wrap64 (t266)))).setCell ⟨gb269, 4, none⟩ (.bool false)).setCell ⟨gb269, 5, none⟩ (.int .u64 0)).setCell ⟨gb269, 6, none⟩ (.int .u64 0)).setCell ⟨gb269, 7, none⟩ (.int .i64 0)).setCell ⟨gb269, 8, none⟩ (.int .u8 0)).setCell ⟨gb269, 9, none⟩ (.int .i64 0)).setCell ⟨gb269, 10, none⟩ (.int .i64 0)).setCell ⟨gb269, 11, none⟩ (.int .i64 0)) gb259 t267 t268) := ⟨by repeat (first | (with_reducible first | exact HIB259.out | apply IsS58.alloc | apply IsS58.drewN | apply IsS58.drew | apply IsS58.set_0 | apply IsS58.set_1 | refine IsS58.far ?_ NB259_258.out _ | refine IsS58.far ?_ NB259_269.out _) | exact HIB259.out)⟩
        have n3_ : Aside0 (Below w.heap.size w ((((((((((((w19.setCell ⟨gb269, 0, none⟩ (.int .u8 (bt a0 0))).setCell ⟨gb269, 1, none⟩ (.int .i64 t260)).setCell ⟨gb269, 2, none⟩ (.int .u64 t263)).setCell ⟨gb269, 3, none⟩ (.int .i64 (wrap64 (t266)))).setCell ⟨gb269, 4, none⟩ (.bool false)).setCell ⟨gb269, 5, none⟩ (.int .u64 0)).setCell ⟨gb269, 6, none⟩ (.int .u64 0)).setCell ⟨gb269, 7, none⟩ (.int .i64 0)).setCell ⟨gb269, 8, none⟩ (.int .u8 0)).setCell ⟨gb269, 9, none⟩ (.int .i64 0)).setCell ⟨gb269, 10, none⟩ (.int .i64 0)).setCell ⟨gb269, 11, none⟩ (.int .i64 0))) := ⟨bw3 HB.out (IsS58.ge HIB259.out) GE258.out GE269.out⟩
        (try clear BK258)
        (try clear BK269)
        (try clear HIB259)
        (try clear HB)
        generalize ((((((((((((w19.setCell ⟨gb269, 0, none⟩ (.int .u8 (bt a0 0))).setCell ⟨gb269, 1, none⟩ (.int .i64 t260)).setCell ⟨gb269, 2, none⟩ (.int .u64 t263)).setCell ⟨gb269, 3, none⟩ (.int .i64 (wrap64 (t266)))).setCell ⟨gb269, 4, none⟩ (.bool false)).setCell ⟨gb269, 5, none⟩ (.int .u64 0)).setCell ⟨gb269, 6, none⟩ (.int .u64 0)).setCell ⟨gb269, 7, none⟩ (.int .i64 0)).setCell ⟨gb269, 8, none⟩ (.int .u8 0)).setCell ⟨gb269, 9, none⟩ (.int .i64 0)).setCell ⟨gb269, 10, none⟩ (.int .i64 0)).setCell ⟨gb269, 11, none⟩ (.int .i64 0)) = w52 at n0_ n1_ n2_ n3_ ⊢
        have BK258 := n0_
        have BK269 := n1_
        have HIB259 := n2_
        have HB := n3_
        clear n0_ n1_ n2_ n3_
        replace BK258 := Ax (blk_drew BK258.out)
        replace BK269 := Ax (blk_drew BK269.out)
        replace HIB259 := Ax (IsS58.drew HIB259.out)
        replace HB := Ax (below_drew1 HB.out)
        refine start_ (n := 12) (S := fun w' => True) (ds := []) #[fa,fa,fa,fa,fa,fa,fa,fa,fa,fa,fa,fa] (by kernel_rfl) rfl rfl trivial (fun hHeld => ?_); refine with_tabW msg_Get.tab11 msg_Get.bits11 (fun HT_ HW_ => ?_)
        generalize w52.drew = w53 at BK258 BK269 HIB259 HB hHeld ⊢
        refine pure_ (i := 0) (N := some 47) (v := ?_) (a' := ?_) #[tr,fa,fa,fa,fa,fa,fa,fa,fa,fa,fa,fa] rfl rfl (any_of HT_.out (by kernel_rfl)) (fun _ _ _ h => h) (Or.inl ⟨by rfl, ?_⟩) ?_ ?_
        rotate_left
        ·intro w'
         go_simp
         with_reducible rfl
        rotate_left
        ·simp only [sP]
         rfl
        refine pure_ (i := 1) (N := some 48) (v := ?_) (a' := ?_) #[tr,tr,fa,fa,fa,fa,fa,fa,fa,fa,fa,fa] rfl rfl (any_of HT_.out (by kernel_rfl)) (fun _ _ _ h => h) (Or.inl ⟨by rfl, ?_⟩) ?_ ?_
        rotate_left
        ·intro w'
         go_simp
         with_reducible rfl
        rotate_left
        ·simp only [sP]
         rfl
        refine pure_ (i := 2) (N := some 49) (v := ?_) (a' := ?_) #[tr,tr,tr,fa,fa,fa,fa,fa,fa,fa,fa,fa] rfl rfl (any_of HT_.out (by kernel_rfl)) (fun _ _ _ h => h) (Or.inl ⟨by rfl, ?_⟩) ?_ ?_
        rotate_left
        ·intro w'
         go_simp
         with_reducible rfl
        rotate_left
        ·simp only [sP]
         rfl
        refine pure_ (i := 4) (N := some 51) (v := ?_) (a' := ?_) #[tr,tr,tr,fa,tr,fa,fa,fa,fa,fa,fa,fa] rfl rfl (any_of HT_.out (by kernel_rfl)) (fun _ _ _ h => h) (Or.inl ⟨by rfl, ?_⟩) ?_ ?_
        rotate_left
        ·intro w'
         go_simp
         with_reducible rfl
        rotate_left
        ·simp only [sP]
         rfl
        refine pure_ (i := 5) (N := some 52) (v := ?_) (a' := ?_) #[tr,tr,tr,fa,tr,tr,fa,fa,fa,fa,fa,fa] rfl rfl (any_of HT_.out (by kernel_rfl)) (fun _ _ _ h => h) (Or.inl ⟨by rfl, ?_⟩) ?_ ?_
        rotate_left
        ·intro w'
         go_simp
         with_reducible rfl
        rotate_left
        ·simp only [sP]
         rfl
        refine pure_ (i := 6) (N := some 53) (v := ?_) (a' := ?_) #[tr,tr,tr,fa,tr,tr,tr,fa,fa,fa,fa,fa] rfl rfl (any_of HT_.out (by kernel_rfl)) (fun _ _ _ h => h) (Or.inl ⟨by rfl, ?_⟩) ?_ ?_
        rotate_left
        ·intro w'
         go_simp
         with_reducible rfl
        rotate_left
        ·simp only [sP]
         rfl
        refine one_ (i := 3) (N := some 50) #[tr,tr,tr,tr,tr,tr,tr,fa,fa,fa,fa,fa] rfl rfl (one_of HT_.out (by kernel_rfl)) (by decide) (fun K hK => ?_)
        refine goes_ Try.func27 (by kernel_rfl) rfl #[.pointer (some ⟨gb259, 0, none⟩), .int .i64 65536] (by rfl) rfl rfl gS ?_
        with_reducible refine (num_Reader_Many.calls58 k gb259 t267 t268 65536 t286 t287 t288 w _ ?side1 ?side2 A50.out).mono ?_
        (case side1 => repeat (first | (with_reducible first | exact HIB259.out | apply IsS58.alloc | apply IsS58.drewN | apply IsS58.drew | apply IsS58.set_0 | apply IsS58.set_1 | refine IsS58.far ?_ NB259_258.out _ | refine IsS58.far ?_ NB259_269.out _) | exact HIB259.out))
        (case side2 => repeat (first | (with_reducible first | exact HB.out | apply below_alloc | apply pw_below_drewN | apply below_drew1 | refine below_set ?_ (IsS58.ge HIB259.out) | refine below_set ?_ GE258.out | refine below_set ?_ GE269.out) | exact HB.out))
        rintro e w54 ⟨rfl, hi, hb, hk⟩
        refine ⟨_, rfl, ?_⟩
        replace BK258 := Ax (KeepBut.blk hk (g' := gb258) (o := .cells #[.int .u8 0, .int .i64 0, .int .u64 0, .int .i64 0, .bool false, .int .u64 0, .int .u64 0, .int .i64 0, .int .u8 0, .int .i64 0, .int .i64 0, .int .i64 0] 32 (0, 0)) (bf0 BK258.out) NB258_259.out (by simp))
        replace BK269 := Ax (KeepBut.blk hk (g' := gb269) (o := .cells #[.int .u8 (bt a0 0), .int .i64 t260, .int .u64 t263, .int .i64 (wrap64 (t266)), .bool false, .int .u64 0, .int .u64 0, .int .i64 0, .int .u8 0, .int .i64 0, .int .i64 0, .int .i64 0] 32 (0, 0)) (bf0 BK269.out) NB269_259.out (by simp))
        replace HB := Ax (hb)
        replace HIB259 := Ax (hi)
        (try clear hb)
        (try clear hb2)
        (try clear hk)
        (try clear hi)
        refine hK.out _ _ trivial (fun hHeld => ?_)
        clear hK K
        refine norm_ (a' := ?_) ?_ ?_
        rotate_left
        ·show Act.put _ (some 50) _ = _
         simp only [sP]
         rfl
        refine pure_ (i := 8) (N := some 55) (v := ?_) (a' := ?_) #[tr,tr,tr,tr,tr,tr,tr,fa,tr,fa,fa,fa] rfl rfl (any_of HT_.out (by kernel_rfl)) (fun _ _ _ h => h) (Or.inl ⟨by rfl, ?_⟩) ?_ ?_
        rotate_left
        ·intro w'
         go_simp
         with_reducible rfl
        rotate_left
        ·simp only [sP]
         rfl
        refine one_ (i := 7) (N := some 54) #[tr,tr,tr,tr,tr,tr,tr,tr,tr,fa,fa,fa] rfl rfl (one_of HT_.out (by kernel_rfl)) (by decide) (fun K hK => ?_)
        refine goes_ Try.func27 (by kernel_rfl) rfl #[.pointer (some ⟨gb259, 0, none⟩), .int .i64 1048576] (by rfl) rfl rfl gS ?_
        with_reducible refine (num_Reader_Many.calls58 k gb259 t287 t288 1048576 t289 t290 t291 w _ ?side1 ?side2 A51.out).mono ?_
        (case side1 => repeat (first | (with_reducible first | exact HIB259.out | apply IsS58.alloc | apply IsS58.drewN | apply IsS58.drew | apply IsS58.set_0 | apply IsS58.set_1 | refine IsS58.far ?_ NB259_258.out _ | refine IsS58.far ?_ NB259_269.out _) | exact HIB259.out))
        (case side2 => repeat (first | (with_reducible first | exact HB.out | apply below_alloc | apply pw_below_drewN | apply below_drew1 | refine below_set ?_ (IsS58.ge HIB259.out) | refine below_set ?_ GE258.out | refine below_set ?_ GE269.out) | exact HB.out))
        rintro e w55 ⟨rfl, hi, hb, hk⟩
        refine ⟨_, rfl, ?_⟩
        replace BK258 := Ax (KeepBut.blk hk (g' := gb258) (o := .cells #[.int .u8 0, .int .i64 0, .int .u64 0, .int .i64 0, .bool false, .int .u64 0, .int .u64 0, .int .i64 0, .int .u8 0, .int .i64 0, .int .i64 0, .int .i64 0] 32 (0, 0)) (bf0 BK258.out) NB258_259.out (by simp))
        replace BK269 := Ax (KeepBut.blk hk (g' := gb269) (o := .cells #[.int .u8 (bt a0 0), .int .i64 t260, .int .u64 t263, .int .i64 (wrap64 (t266)), .bool false, .int .u64 0, .int .u64 0, .int .i64 0, .int .u8 0, .int .i64 0, .int .i64 0, .int .i64 0] 32 (0, 0)) (bf0 BK269.out) NB269_259.out (by simp))
        replace HB := Ax (hb)
        replace HIB259 := Ax (hi)
        (try clear hb)
        (try clear hb2)
        (try clear hk)
        (try clear hi)
        refine hK.out _ _ trivial (fun hHeld => ?_)
        clear hK K
        refine norm_ (a' := ?_) ?_ ?_
        rotate_left
        ·show Act.put _ (some 54) _ = _
         simp only [sP]
         rfl
        refine one_ (i := 9) (N := none) #[tr,tr,tr,tr,tr,tr,tr,tr,tr,tr,fa,fa] rfl rfl (one_of HT_.out (by kernel_rfl)) (by decide) (fun K hK => ?_)
        have hs56 : w55.cell? ⟨gb269, 10, none⟩ = some (.int .i64 0) := (blk_cell BK269.out 10).trans rfl
        have hfs56 := blk_frozen BK269.out 10
        have hns56_0 := NB258_269.out
        have hms56_0 := NB269_258.out
        refine skip_ (w1 := ?_) (by rfl) rfl ?_ ?_
        rotate_left
        ·go_simp
         rfl
        refine hK.out _ _ trivial (fun hHeld => ?_)
        clear hK K
        refine pure_ (i := 10) (N := some 56) (v := ?_) (a' := ?_) #[tr,tr,tr,tr,tr,tr,tr,tr,tr,tr,tr,fa] rfl rfl (any_of HT_.out (by kernel_rfl)) (fun _ _ _ h => h) (Or.inl ⟨by rfl, ?_⟩) ?_ ?_
        rotate_left
        ·intro w'
         go_simp
         with_reducible rfl
        rotate_left
        ·simp only [sP]
         rfl
        refine one_ (i := 11) (N := none) #[tr,tr,tr,tr,tr,tr,tr,tr,tr,tr,tr,tr] rfl rfl (one_of HT_.out (by kernel_rfl)) (by decide) (fun K hK => ?_)
        have hs57 : w55.cell? ⟨gb269, 11, none⟩ = some (.int .i64 0) := (blk_cell BK269.out 11).trans rfl
        have hfs57 := blk_frozen BK269.out 11
        have hns57_0 := NB258_269.out
        have hms57_0 := NB269_258.out
        refine skip_ (w1 := ?_) (by rfl) rfl ?_ ?_
        rotate_left
        ·go_simp
         rfl
        refine hK.out _ _ trivial (fun hHeld => ?_)
        clear hK K
        refine done_ (done_of HT_.out (by kernel_rfl)) ?_
        try go_wp2
        go_meet
        case rel => exact ⟨_, (t290), (t291), (false), (0), (0), (0), (0), (0), (t286), (t289), H', ⟨by first | omega | exact Nat.le_refl _⟩, ⟨bf2 BK258.out NB258_269.out NB258_269.out⟩, ⟨by (with_reducible repeat (first | refine blk_drewN ?_ _ | refine blk_drew ?_ | refine blk_alloc ?_ _)); refine blk_put (cs := #[.int .u8 (bt a0 0), .int .i64 t260, .int .u64 t263, .int .i64 (wrap64 (t266)), .bool false, .int .u64 0, .int .u64 0, .int .i64 0, .int .u8 0, .int .i64 0, .int .i64 t286, .int .i64 0]) ?_ 11 _ rfl; (with_reducible repeat (first | refine blk_drewN ?_ _ | refine blk_drew ?_ | refine blk_alloc ?_ _)); refine blk_put (cs := #[.int .u8 (bt a0 0), .int .i64 t260, .int .u64 t263, .int .i64 (wrap64 (t266)), .bool false, .int .u64 0, .int .u64 0, .int .i64 0, .int .u8 0, .int .i64 0, .int .i64 0, .int .i64 0]) ?_ 10 _ rfl; (with_reducible repeat (first | refine blk_drewN ?_ _ | refine blk_drew ?_ | refine blk_alloc ?_ _)); exact BK269.out⟩, ⟨by repeat (first | (with_reducible first | exact HIB259.out | apply IsS58.alloc | apply IsS58.drewN | apply IsS58.drew | apply IsS58.set_0 | apply IsS58.set_1 | refine IsS58.far ?_ NB259_258.out _ | refine IsS58.far ?_ NB259_269.out _) | exact HIB259.out)⟩, ⟨bw3 HB.out (IsS58.ge HIB259.out) GE258.out GE269.out⟩⟩
       ·rw [if_neg c49] at H
        have c49b0 : ((bt a0 0) == 5) = false := beq_eq_false_iff_ne.mpr c49
        have c49b1 : ((bt a0 0) != 5) = true := bne_iff_ne.mpr c49
        by_cases c58 : (bt a0 0) = 6
        ·rw [if_pos c58] at H
         have c58b0 : ((bt a0 0) == 6) = true := beq_iff_eq.mpr c58
         have c58b1 : ((bt a0 0) != 6) = false := bne_eq_false_iff_eq.mpr c58
         clear c58
         replace H := Option.bind_eq_some_iff.mp H
         obtain ⟨⟨t292, t293, t294⟩, A590, H⟩ := H
         replace H : (msg_Get.j0 k t293 t294 (bt a0 0) t260 t263 (wrap64 (t266)) false 0 0 0 0 0 t292 0) = some (r1, r2, r3, r4, r5, r6, r7, r8, r9, r10, r11, r12, r13) := H
         have A59 := Ax A590
         clear A590
         have H' := Ax H
         clear H
         go_wp2_with (first | ((with_reducible refine gate_callee (f := 27) rfl ?_); refine goesL_ (some 62) rfl rfl Try.func27 (by kernel_rfl) rfl #[.pointer (some ⟨gb259, 0, none⟩), .int .i64 65536] rfl gS ?_; (with_reducible refine (num_Reader_Many.calls58 k gb259 t267 t268 65536 t292 t293 t294 w _ ?side1 ?side2 A59.out).mono ?_); (case side1 => repeat (first | (with_reducible first | exact HIB259.out | apply IsS58.alloc | apply IsS58.drewN | apply IsS58.drew | apply IsS58.set_0 | apply IsS58.set_1 | refine IsS58.far ?_ NB259_258.out _ | refine IsS58.far ?_ NB259_269.out _) | exact HIB259.out)); (case side2 => repeat (first | (with_reducible first | exact HB.out | apply below_alloc | apply pw_below_drewN | apply below_drew1 | refine below_set ?_ (IsS58.ge HIB259.out) | refine below_set ?_ GE258.out | refine below_set ?_ GE269.out) | exact HB.out)); rintro e w60 ⟨rfl, hi, hb, hk⟩; refine ⟨_, rfl, ?_⟩; have n0_ := Ax (KeepBut.blk hk (g' := gb258) (o := .cells #[.int .u8 0, .int .i64 0, .int .u64 0, .int .i64 0, .bool false, .int .u64 0, .int .u64 0, .int .i64 0, .int .u8 0, .int .i64 0, .int .i64 0, .int .i64 0] 32 (0, 0)) (by (with_reducible repeat (first | refine blk_drewN ?_ _ | refine blk_drew ?_ | refine blk_alloc ?_ _)); refine blk_far ?_ NB258_269.out _; (with_reducible repeat (first | refine blk_drewN ?_ _ | refine blk_drew ?_ | refine blk_alloc ?_ _)); refine blk_far ?_ NB258_269.out _; (with_reducible repeat (first | refine blk_drewN ?_ _ | refine blk_drew ?_ | refine blk_alloc ?_ _)); refine blk_far ?_ NB258_269.out _; (with_reducible repeat (first | refine blk_drewN ?_ _ | refine blk_drew ?_ | refine blk_alloc ?_ _)); refine blk_far ?_ NB258_269.out _; (with_reducible repeat (first | refine blk_drewN ?_ _ | refine blk_drew ?_ | refine blk_alloc ?_ _)); refine blk_far ?_ NB258_269.out _; (with_reducible repeat (first | refine blk_drewN ?_ _ | refine blk_drew ?_ | refine blk_alloc ?_ _)); refine blk_far ?_ NB258_269.out _; (with_reducible repeat (first | refine blk_drewN ?_ _ | refine blk_drew ?_ | refine blk_alloc ?_ _)); refine blk_far ?_ NB258_269.out _; (with_reducible repeat (first | refine blk_drewN ?_ _ | refine blk_drew ?_ | refine blk_alloc ?_ _)); refine blk_far ?_ NB258_269.out _; (with_reducible repeat (first | refine blk_drewN ?_ _ | refine blk_drew ?_ | refine blk_alloc ?_ _)); refine blk_far ?_ NB258_269.out _; (with_reducible repeat (first | refine blk_drewN ?_ _ | refine blk_drew ?_ | refine blk_alloc ?_ _)); refine blk_far ?_ NB258_269.out _; (with_reducible repeat (first | refine blk_drewN ?_ _ | refine blk_drew ?_ | refine blk_alloc ?_ _)); refine blk_far ?_ NB258_269.out _; (with_reducible repeat (first | refine blk_drewN ?_ _ | refine blk_drew ?_ | refine blk_alloc ?_ _)); refine blk_far ?_ NB258_269.out _; (with_reducible repeat (first | refine blk_drewN ?_ _ | refine blk_drew ?_ | refine blk_alloc ?_ _)); exact BK258.out) NB258_259.out (by simp)); have n1_ := Ax (KeepBut.blk hk (g' := gb269) (o := .cells #[.int .u8 (bt a0 0), .int .i64 t260, .int .u64 t263, .int .i64 (wrap64 (t266)), .bool false, .int .u64 0, .int .u64 0, .int .i64 0, .int .u8 0, .int .i64 0, .int .i64 0, .int .i64 0] 32 (0, 0)) (by (with_reducible repeat (first | refine blk_drewN ?_ _ | refine blk_drew ?_ | refine blk_alloc ?_ _)); refine blk_put (cs := #[.int .u8 (bt a0 0), .int .i64 t260, .int .u64 t263, .int .i64 (wrap64 (t266)), .bool false, .int .u64 0, .int .u64 0, .int .i64 0, .int .u8 0, .int .i64 0, .int .i64 0, .int .i64 0]) ?_ 11 _ rfl; (with_reducible repeat (first | refine blk_drewN ?_ _ | refine blk_drew ?_ | refine blk_alloc ?_ _)); refine blk_put (cs := #[.int .u8 (bt a0 0), .int .i64 t260, .int .u64 t263, .int .i64 (wrap64 (t266)), .bool false, .int .u64 0, .int .u64 0, .int .i64 0, .int .u8 0, .int .i64 0, .int .i64 0, .int .i64 0]) ?_ 10 _ rfl; (with_reducible repeat (first | refine blk_drewN ?_ _ | refine blk_drew ?_ | refine blk_alloc ?_ _)); refine blk_put (cs := #[.int .u8 (bt a0 0), .int .i64 t260, .int .u64 t263, .int .i64 (wrap64 (t266)), .bool false, .int .u64 0, .int .u64 0, .int .i64 0, .int .u8 0, .int .i64 0, .int .i64 0, .int .i64 0]) ?_ 9 _ rfl; (with_reducible repeat (first | refine blk_drewN ?_ _ | refine blk_drew ?_ | refine blk_alloc ?_ _)); refine blk_put (cs := #[.int .u8 (bt a0 0), .int .i64 t260, .int .u64 t263, .int .i64 (wrap64 (t266)), .bool false, .int .u64 0, .int .u64 0, .int .i64 0, .int .u8 0, .int .i64 0, .int .i64 0, .int .i64 0]) ?_ 8 _ rfl; (with_reducible repeat (first | refine blk_drewN ?_ _ | refine blk_drew ?_ | refine blk_alloc ?_ _)); refine blk_put (cs := #[.int .u8 (bt a0 0), .int .i64 t260, .int .u64 t263, .int .i64 (wrap64 (t266)), .bool false, .int .u64 0, .int .u64 0, .int .i64 0, .int .u8 0, .int .i64 0, .int .i64 0, .int .i64 0]) ?_ 7 _ rfl; (with_reducible repeat (first | refine blk_drewN ?_ _ | refine blk_drew ?_ | refine blk_alloc ?_ _)); refine blk_put (cs := #[.int .u8 (bt a0 0), .int .i64 t260, .int .u64 t263, .int .i64 (wrap64 (t266)), .bool false, .int .u64 0, .int .u64 0, .int .i64 0, .int .u8 0, .int .i64 0, .int .i64 0, .int .i64 0]) ?_ 6 _ rfl; (with_reducible repeat (first | refine blk_drewN ?_ _ | refine blk_drew ?_ | refine blk_alloc ?_ _)); refine blk_put (cs := #[.int .u8 (bt a0 0), .int .i64 t260, .int .u64 t263, .int .i64 (wrap64 (t266)), .bool false, .int .u64 0, .int .u64 0, .int .i64 0, .int .u8 0, .int .i64 0, .int .i64 0, .int .i64 0]) ?_ 5 _ rfl; (with_reducible repeat (first | refine blk_drewN ?_ _ | refine blk_drew ?_ | refine blk_alloc ?_ _)); refine blk_put (cs := #[.int .u8 (bt a0 0), .int .i64 t260, .int .u64 t263, .int .i64 (wrap64 (t266)), .bool false, .int .u64 0, .int .u64 0, .int .i64 0, .int .u8 0, .int .i64 0, .int .i64 0, .int .i64 0]) ?_ 4 _ rfl; (with_reducible repeat (first | refine blk_drewN ?_ _ | refine blk_drew ?_ | refine blk_alloc ?_ _)); refine blk_put (cs := #[.int .u8 (bt a0 0), .int .i64 t260, .int .u64 t263, .int .i64 0, .bool false, .int .u64 0, .int .u64 0, .int .i64 0, .int .u8 0, .int .i64 0, .int .i64 0, .int .i64 0]) ?_ 3 _ rfl; (with_reducible repeat (first | refine blk_drewN ?_ _ | refine blk_drew ?_ | refine blk_alloc ?_ _)); refine blk_put (cs := #[.int .u8 (bt a0 0), .int .i64 t260, .int .u64 0, .int .i64 0, .bool false, .int .u64 0, .int .u64 0, .int .i64 0, .int .u8 0, .int .i64 0, .int .i64 0, .int .i64 0]) ?_ 2 _ rfl; (with_reducible repeat (first | refine blk_drewN ?_ _ | refine blk_drew ?_ | refine blk_alloc ?_ _)); refine blk_put (cs := #[.int .u8 (bt a0 0), .int .i64 0, .int .u64 0, .int .i64 0, .bool false, .int .u64 0, .int .u64 0, .int .i64 0, .int .u8 0, .int .i64 0, .int .i64 0, .int .i64 0]) ?_ 1 _ rfl; (with_reducible repeat (first | refine blk_drewN ?_ _ | refine blk_drew ?_ | refine blk_alloc ?_ _)); refine blk_put (cs := #[.int .u8 0, .int .i64 0, .int .u64 0, .int .i64 0, .bool false, .int .u64 0, .int .u64 0, .int .i64 0, .int .u8 0, .int .i64 0, .int .i64 0, .int .i64 0]) ?_ 0 _ rfl; (with_reducible repeat (first | refine blk_drewN ?_ _ | refine blk_drew ?_ | refine blk_alloc ?_ _)); exact BK269.out) NB269_259.out (by simp)); have n2_ := Ax (hb); have n3_ := Ax (hi); clear BK258; clear BK269; clear HB; clear HIB259; have BK258 := n0_; have BK269 := n1_; have HB := n2_; have HIB259 := n3_; clear n0_ n1_ n2_ n3_; (try clear hb); (try clear hb2); (try clear hk); (try clear hi); have hnb61 := NB269_258.out; have hnc61 := NB258_269.out; have hnb62 := NB269_259.out; have hnc62 := NB259_269.out; obtain ⟨hcz63_0, hcz63_1, hcz63_2, hcz63_3, hcz63_4, hcz63_5, hcz63_6, hcz63_7, hcz63_8, hcz63_9, hcz63_10, hcz63_11, hfz63_0, hfz63_1, hfz63_2, hfz63_3, hfz63_4, hfz63_5, hfz63_6, hfz63_7, hfz63_8, hfz63_9, hfz63_10, hfz63_11⟩ := cl12 BK269))
         go_meet
         case rel => exact ⟨_, (t293), (t294), (false), (0), (0), (0), (0), (0), (t292), (0), H', ⟨by first | omega | exact Nat.le_refl _⟩, ⟨bf1 BK258.out NB258_269.out⟩, ⟨by (with_reducible repeat (first | refine blk_drewN ?_ _ | refine blk_drew ?_ | refine blk_alloc ?_ _)); refine blk_put (cs := #[.int .u8 (bt a0 0), .int .i64 t260, .int .u64 t263, .int .i64 (wrap64 (t266)), .bool false, .int .u64 0, .int .u64 0, .int .i64 0, .int .u8 0, .int .i64 0, .int .i64 0, .int .i64 0]) ?_ 10 _ rfl; (with_reducible repeat (first | refine blk_drewN ?_ _ | refine blk_drew ?_ | refine blk_alloc ?_ _)); exact BK269.out⟩, ⟨by repeat (first | (with_reducible first | exact HIB259.out | apply IsS58.alloc | apply IsS58.drewN | apply IsS58.drew | apply IsS58.set_0 | apply IsS58.set_1 | refine IsS58.far ?_ NB259_258.out _ | refine IsS58.far ?_ NB259_269.out _) | exact HIB259.out)⟩, ⟨bw3 HB.out (IsS58.ge HIB259.out) GE258.out GE269.out⟩⟩
        ·rw [if_neg c58] at H
         have c58b0 : ((bt a0 0) == 6) = false := beq_eq_false_iff_ne.mpr c58
         have c58b1 : ((bt a0 0) != 6) = true := bne_iff_ne.mpr c58
         have H' := Ax H
         clear H
         go_wp2
         go_meet
         case rel => exact ⟨_, (t267), (t268), (false), (0), (0), (0), (0), (0), (0), (0), H', ⟨by first | omega | exact Nat.le_refl _⟩, ⟨by (with_reducible repeat (first | refine blk_drewN ?_ _ | refine blk_drew ?_ | refine blk_alloc ?_ _)); refine blk_far ?_ NB258_269.out _; (with_reducible repeat (first | refine blk_drewN ?_ _ | refine blk_drew ?_ | refine blk_alloc ?_ _)); refine blk_far ?_ NB258_269.out _; (with_reducible repeat (first | refine blk_drewN ?_ _ | refine blk_drew ?_ | refine blk_alloc ?_ _)); refine blk_far ?_ NB258_269.out _; (with_reducible repeat (first | refine blk_drewN ?_ _ | refine blk_drew ?_ | refine blk_alloc ?_ _)); refine blk_far ?_ NB258_269.out _; (with_reducible repeat (first | refine blk_drewN ?_ _ | refine blk_drew ?_ | refine blk_alloc ?_ _)); refine blk_far ?_ NB258_269.out _; (with_reducible repeat (first | refine blk_drewN ?_ _ | refine blk_drew ?_ | refine blk_alloc ?_ _)); refine blk_far ?_ NB258_269.out _; (with_reducible repeat (first | refine blk_drewN ?_ _ | refine blk_drew ?_ | refine blk_alloc ?_ _)); refine blk_far ?_ NB258_269.out _; (with_reducible repeat (first | refine blk_drewN ?_ _ | refine blk_drew ?_ | refine blk_alloc ?_ _)); refine blk_far ?_ NB258_269.out _; (with_reducible repeat (first | refine blk_drewN ?_ _ | refine blk_drew ?_ | refine blk_alloc ?_ _)); refine blk_far ?_ NB258_269.out _; (with_reducible repeat (first | refine blk_drewN ?_ _ | refine blk_drew ?_ | refine blk_alloc ?_ _)); refine blk_far ?_ NB258_269.out _; (with_reducible repeat (first | refine blk_drewN ?_ _ | refine blk_drew ?_ | refine blk_alloc ?_ _)); refine blk_far ?_ NB258_269.out _; (with_reducible repeat (first | refine blk_drewN ?_ _ | refine blk_drew ?_ | refine blk_alloc ?_ _)); refine blk_far ?_ NB258_269.out _; (with_reducible repeat (first | refine blk_drewN ?_ _ | refine blk_drew ?_ | refine blk_alloc ?_ _)); exact BK258.out⟩, ⟨by (with_reducible repeat (first | refine blk_drewN ?_ _ | refine blk_drew ?_ | refine blk_alloc ?_ _)); refine blk_put (cs := #[.int .u8 (bt a0 0), .int .i64 t260, .int .u64 t263, .int .i64 (wrap64 (t266)), .bool false, .int .u64 0, .int .u64 0, .int .i64 0, .int .u8 0, .int .i64 0, .int .i64 0, .int .i64 0]) ?_ 11 _ rfl; (with_reducible repeat (first | refine blk_drewN ?_ _ | refine blk_drew ?_ | refine blk_alloc ?_ _)); refine blk_put (cs := #[.int .u8 (bt a0 0), .int .i64 t260, .int .u64 t263, .int .i64 (wrap64 (t266)), .bool false, .int .u64 0, .int .u64 0, .int .i64 0, .int .u8 0, .int .i64 0, .int .i64 0, .int .i64 0]) ?_ 10 _ rfl; (with_reducible repeat (first | refine blk_drewN ?_ _ | refine blk_drew ?_ | refine blk_alloc ?_ _)); refine blk_put (cs := #[.int .u8 (bt a0 0), .int .i64 t260, .int .u64 t263, .int .i64 (wrap64 (t266)), .bool false, .int .u64 0, .int .u64 0, .int .i64 0, .int .u8 0, .int .i64 0, .int .i64 0, .int .i64 0]) ?_ 9 _ rfl; (with_reducible repeat (first | refine blk_drewN ?_ _ | refine blk_drew ?_ | refine blk_alloc ?_ _)); refine blk_put (cs := #[.int .u8 (bt a0 0), .int .i64 t260, .int .u64 t263, .int .i64 (wrap64 (t266)), .bool false, .int .u64 0, .int .u64 0, .int .i64 0, .int .u8 0, .int .i64 0, .int .i64 0, .int .i64 0]) ?_ 8 _ rfl; (with_reducible repeat (first | refine blk_drewN ?_ _ | refine blk_drew ?_ | refine blk_alloc ?_ _)); refine blk_put (cs := #[.int .u8 (bt a0 0), .int .i64 t260, .int .u64 t263, .int .i64 (wrap64 (t266)), .bool false, .int .u64 0, .int .u64 0, .int .i64 0, .int .u8 0, .int .i64 0, .int .i64 0, .int .i64 0]) ?_ 7 _ rfl; (with_reducible repeat (first | refine blk_drewN ?_ _ | refine blk_drew ?_ | refine blk_alloc ?_ _)); refine blk_put (cs := #[.int .u8 (bt a0 0), .int .i64 t260, .int .u64 t263, .int .i64 (wrap64 (t266)), .bool false, .int .u64 0, .int .u64 0, .int .i64 0, .int .u8 0, .int .i64 0, .int .i64 0, .int .i64 0]) ?_ 6 _ rfl; (with_reducible repeat (first | refine blk_drewN ?_ _ | refine blk_drew ?_ | refine blk_alloc ?_ _)); refine blk_put (cs := #[.int .u8 (bt a0 0), .int .i64 t260, .int .u64 t263, .int .i64 (wrap64 (t266)), .bool false, .int .u64 0, .int .u64 0, .int .i64 0, .int .u8 0, .int .i64 0, .int .i64 0, .int .i64 0]) ?_ 5 _ rfl; (with_reducible repeat (first | refine blk_drewN ?_ _ | refine blk_drew ?_ | refine blk_alloc ?_ _)); refine blk_put (cs := #[.int .u8 (bt a0 0), .int .i64 t260, .int .u64 t263, .int .i64 (wrap64 (t266)), .bool false, .int .u64 0, .int .u64 0, .int .i64 0, .int .u8 0, .int .i64 0, .int .i64 0, .int .i64 0]) ?_ 4 _ rfl; (with_reducible repeat (first | refine blk_drewN ?_ _ | refine blk_drew ?_ | refine blk_alloc ?_ _)); refine blk_put (cs := #[.int .u8 (bt a0 0), .int .i64 t260, .int .u64 t263, .int .i64 0, .bool false, .int .u64 0, .int .u64 0, .int .i64 0, .int .u8 0, .int .i64 0, .int .i64 0, .int .i64 0]) ?_ 3 _ rfl; (with_reducible repeat (first | refine blk_drewN ?_ _ | refine blk_drew ?_ | refine blk_alloc ?_ _)); refine blk_put (cs := #[.int .u8 (bt a0 0), .int .i64 t260, .int .u64 0, .int .i64 0, .bool false, .int .u64 0, .int .u64 0, .int .i64 0, .int .u8 0, .int .i64 0, .int .i64 0, .int .i64 0]) ?_ 2 _ rfl; (with_reducible repeat (first | refine blk_drewN ?_ _ | refine blk_drew ?_ | refine blk_alloc ?_ _)); refine blk_put (cs := #[.int .u8 (bt a0 0), .int .i64 0, .int .u64 0, .int .i64 0, .bool false, .int .u64 0, .int .u64 0, .int .i64 0, .int .u8 0, .int .i64 0, .int .i64 0, .int .i64 0]) ?_ 1 _ rfl; (with_reducible repeat (first | refine blk_drewN ?_ _ | refine blk_drew ?_ | refine blk_alloc ?_ _)); refine blk_put (cs := #[.int .u8 0, .int .i64 0, .int .u64 0, .int .i64 0, .bool false, .int .u64 0, .int .u64 0, .int .i64 0, .int .u8 0, .int .i64 0, .int .i64 0, .int .i64 0]) ?_ 0 _ rfl; (with_reducible repeat (first | refine blk_drewN ?_ _ | refine blk_drew ?_ | refine blk_alloc ?_ _)); exact BK269.out⟩, ⟨by repeat (first | (with_reducible first | exact HIB259.out | apply IsS58.alloc | apply IsS58.drewN | apply IsS58.drew | apply IsS58.set_0 | apply IsS58.set_1 | refine IsS58.far ?_ NB259_258.out _ | refine IsS58.far ?_ NB259_269.out _) | exact HIB259.out)⟩, ⟨bw3 HB.out (IsS58.ge HIB259.out) GE258.out GE269.out⟩⟩
    case rest =>
     clear HC11
     try clear c2
     try clear p2
     try clear c3
     try clear c4
     try clear c5
     try clear c6
     try clear p6
     try clear c27
     try clear c28
     try clear c29
     try clear c30
     try clear c32
     try clear c33
     try clear c35
     try clear c35b0
     try clear c35b1
     try clear c40
     try clear c41
     try clear c43
     try clear c43b0
     try clear c43b1
     try clear c46
     try clear c47
     try clear c49
     try clear c49b0
     try clear c49b1
     try clear c58
     try clear c58b0
     try clear c58b1
     try clear c61
     try clear c62
     try clear hcz34_0
     try clear hcz34_1
     try clear hcz34_10
     try clear hcz34_11
     try clear hcz34_2
     try clear hcz34_3
     try clear hcz34_4
     try clear hcz34_5
     try clear hcz34_6
     try clear hcz34_7
     try clear hcz34_8
     try clear hcz34_9
     try clear hcz42_0
     try clear hcz42_1
     try clear hcz42_10
     try clear hcz42_11
     try clear hcz42_2
     try clear hcz42_3
     try clear hcz42_4
     try clear hcz42_5
     try clear hcz42_6
     try clear hcz42_7
     try clear hcz42_8
     try clear hcz42_9
     try clear hcz48_0
     try clear hcz48_1
     try clear hcz48_10
     try clear hcz48_11
     try clear hcz48_2
     try clear hcz48_3
     try clear hcz48_4
     try clear hcz48_5
     try clear hcz48_6
     try clear hcz48_7
     try clear hcz48_8
     try clear hcz48_9
     try clear hcz63_0
     try clear hcz63_1
     try clear hcz63_10
     try clear hcz63_11
     try clear hcz63_2
     try clear hcz63_3
     try clear hcz63_4
     try clear hcz63_5
     try clear hcz63_6
     try clear hcz63_7
     try clear hcz63_8
     try clear hcz63_9
     try clear hfz34_0
     try clear hfz34_1
     try clear hfz34_10
     try clear hfz34_11
     try clear hfz34_2
     try clear hfz34_3
     try clear hfz34_4
     try clear hfz34_5
     try clear hfz34_6
     try clear hfz34_7
     try clear hfz34_8
     try clear hfz34_9
     try clear hfz42_0
     try clear hfz42_1
     try clear hfz42_10
     try clear hfz42_11
     try clear hfz42_2
     try clear hfz42_3
     try clear hfz42_4
     try clear hfz42_5
     try clear hfz42_6
     try clear hfz42_7
     try clear hfz42_8
     try clear hfz42_9
     try clear hfz48_0
     try clear hfz48_1
     try clear hfz48_10
     try clear hfz48_11
     try clear hfz48_2
     try clear hfz48_3
     try clear hfz48_4
     try clear hfz48_5
     try clear hfz48_6
     try clear hfz48_7
     try clear hfz48_8
     try clear hfz48_9
     try clear hfz63_0
     try clear hfz63_1
     try clear hfz63_10
     try clear hfz63_11
     try clear hfz63_2
     try clear hfz63_3
     try clear hfz63_4
     try clear hfz63_5
     try clear hfz63_6
     try clear hfz63_7
     try clear hfz63_8
     try clear hfz63_9
     obtain ⟨kq, x260000_10, x260001_10, x270004_10, x270005_10, x270006_10, x270007_10, x270008_10, x270009_10, x270010_10, x270011_10, HA, HJ10, BK258, BK269, HIB259, HB⟩ := hcut
     cases kq with
     | zero => exact absurd HA.out (by simp [msg_Get.j0])
     | succ kj10 =>
      have H := HA.out
      clear HA
      simp only [msg_Get.j0] at H
      have HC64 := Ax H
      clear H
      go_upto_region 14 with (fail)
      go_cut [82] (fun v82 wc => ∃ (kq : Nat) (x82_63 : Bool), v82 = .bool x82_63 ∧ Aside0 (msg_Get.j1 kq x82_63 (bt a0 0) t260 t263 (wrap64 (t266)) x270004_10 x270005_10 x270006_10 x270007_10 x270008_10 x270009_10 x270010_10 x270011_10 = some (r1, r2, r3, r4, r5, r6, r7, r8, r9, r10, r11, r12, r13)) ∧ Aside0 (kq ≤ kj10) ∧ Aside0 (wc.heap[gb258]? = some (.cells #[.int .u8 0, .int .i64 0, .int .u64 0, .int .i64 0, .bool false, .int .u64 0, .int .u64 0, .int .i64 0, .int .u8 0, .int .i64 0, .int .i64 0, .int .i64 0] 32 (0, 0))) ∧ Aside0 (wc.heap[gb269]? = some (.cells #[.int .u8 (bt a0 0), .int .i64 t260, .int .u64 t263, .int .i64 (wrap64 (t266)), .bool x270004_10, .int .u64 x270005_10, .int .u64 x270006_10, .int .i64 x270007_10, .int .u8 x270008_10, .int .i64 x270009_10, .int .i64 x270010_10, .int .i64 x270011_10] 32 (0, 0))) ∧ Aside0 (Below w.heap.size w wc))
      case first =>
       have H := HC64.out
       clear HC64
       by_cases c65 : x260001_10 = 0
       ·rw [if_pos c65] at H
        have c65b0 : (x260001_10 == 0) = true := beq_iff_eq.mpr c65
        have c65b1 : (x260001_10 != 0) = false := bne_eq_false_iff_eq.mpr c65
        clear c65
        (first | rw [c65b0] | (simp only [i64_w, i32_w]; rw [c65b0]) | skip)
        by_cases c66 : x260000_10.toList = ([] : List UInt8)
        ·rw [if_pos c66] at H
         have c66b0 : (x260000_10.toList == ([] : List UInt8)) = true := beq_iff_eq.mpr c66
         have c66b1 : (x260000_10.toList != ([] : List UInt8)) = false := bne_eq_false_iff_eq.mpr c66
         clear c66
         replace H := Option.bind_eq_some_iff.mp H
         obtain ⟨t295, A670, H⟩ := H
         replace H : (msg_Get.j1 kj10 (t295 != 0) (bt a0 0) t260 t263 (wrap64 (t266)) x270004_10 x270005_10 x270006_10 x270007_10 x270008_10 x270009_10 x270010_10 x270011_10) = some (r1, r2, r3, r4, r5, r6, r7, r8, r9, r10, r11, r12, r13) := H
         have A67 := Ax A670
         clear A670
         have H' := Ax H
         clear H
         obtain ⟨HGz68, hgz68⟩ := HIB259.out
         have hcz68_0 := cellS58_0 HGz68
         have hcz68_1 := cellS58_1 HGz68
         have hfz68_0 := blk_frozen HGz68 0
         have hfz68_1 := blk_frozen HGz68 1
         clear HGz68 hgz68
         have hnb69 := NB269_258.out
         have hnc69 := NB258_269.out
         have hnb70 := NB269_259.out
         have hnc70 := NB259_269.out
         obtain ⟨hcz71_0, hcz71_1, hcz71_2, hcz71_3, hcz71_4, hcz71_5, hcz71_6, hcz71_7, hcz71_8, hcz71_9, hcz71_10, hcz71_11, hfz71_0, hfz71_1, hfz71_2, hfz71_3, hfz71_4, hfz71_5, hfz71_6, hfz71_7, hfz71_8, hfz71_9, hfz71_10, hfz71_11⟩ := cl12 BK269
         go_wp2_with (first | (go_at_call 13; (with_reducible refine (msg_Check.calls kj10 (bt a0 0) t260 t263 (wrap64 (t266)) x270004_10 x270005_10 x270006_10 x270007_10 x270008_10 x270009_10 x270010_10 x270011_10 t295 _ A67.out).mono ?_); rintro e w72 ⟨rfl, hb⟩; have n0_ := Bx0 BK258 hb; have n1_ := Bx0 BK269 hb; have n2_ := Ax (IsS58.below (by repeat (first | (with_reducible first | exact HIB259.out | apply IsS58.alloc | apply IsS58.drewN | apply IsS58.drew | apply IsS58.set_0 | apply IsS58.set_1 | refine IsS58.far ?_ NB259_258.out _ | refine IsS58.far ?_ NB259_269.out _) | exact HIB259.out)) hb); have n3_ := Bs3 HB hb (IsS58.ge HIB259.out) GE258.out GE269.out; clear BK258; clear BK269; clear HIB259; clear HB; have BK258 := n0_; have BK269 := n1_; have HIB259 := n2_; have HB := n3_; clear n0_ n1_ n2_ n3_; (try clear hb); (try clear hb2); (try clear hk); (try clear hi)))
         go_meet
         case rel => exact ⟨_, ((t295 != 0)), rS, H', ⟨by have := HJ10.out; first | omega | exact Nat.le_refl _⟩, ⟨bf0 BK258.out⟩, ⟨bf0 BK269.out⟩, ⟨bw3 HB.out (IsS58.ge HIB259.out) GE258.out GE269.out⟩⟩
        ·rw [if_neg c66] at H
         have c66b0 : (x260000_10.toList == ([] : List UInt8)) = false := beq_eq_false_iff_ne.mpr c66
         have c66b1 : (x260000_10.toList != ([] : List UInt8)) = true := bne_iff_ne.mpr c66
         have H' := Ax H
         clear H
         obtain ⟨HGz73, hgz73⟩ := HIB259.out
         have hcz73_0 := cellS58_0 HGz73
         have hcz73_1 := cellS58_1 HGz73
         have hfz73_0 := blk_frozen HGz73 0
         have hfz73_1 := blk_frozen HGz73 1
         clear HGz73 hgz73
         go_wp2
         go_meet
         case rel => exact ⟨_, (true), rS, H', ⟨by have := HJ10.out; first | omega | exact Nat.le_refl _⟩, ⟨bf0 BK258.out⟩, ⟨bf0 BK269.out⟩, ⟨bw3 HB.out (IsS58.ge HIB259.out) GE258.out GE269.out⟩⟩
       ·rw [if_neg c65] at H
        have c65b0 : (x260001_10 == 0) = false := beq_eq_false_iff_ne.mpr c65
        have c65b1 : (x260001_10 != 0) = true := bne_iff_ne.mpr c65
        (first | rw [c65b0] | (simp only [i64_w, i32_w]; rw [c65b0]) | skip)
        have H' := Ax H
        clear H
        obtain ⟨HGz74, hgz74⟩ := HIB259.out
        have hcz74_0 := cellS58_0 HGz74
        have hcz74_1 := cellS58_1 HGz74
        have hfz74_0 := blk_frozen HGz74 0
        have hfz74_1 := blk_frozen HGz74 1
        clear HGz74 hgz74
        go_wp2
        go_meet
        case rel => exact ⟨_, (true), rS, H', ⟨by have := HJ10.out; first | omega | exact Nat.le_refl _⟩, ⟨bf0 BK258.out⟩, ⟨bf0 BK269.out⟩, ⟨bw3 HB.out (IsS58.ge HIB259.out) GE258.out GE269.out⟩⟩
      case rest =>
       clear HC64
       try clear c2
       try clear p2
       try clear c3
       try clear c4
       try clear c5
       try clear c6
       try clear p6
       try clear c7
       try clear c27
       try clear c28
       try clear c29
       try clear c30
       try clear c32
       try clear c33
       try clear c35
       try clear c35b0
       try clear c35b1
       try clear c40
       try clear c41
       try clear c43
       try clear c43b0
       try clear c43b1
       try clear c46
       try clear c47
       try clear c49
       try clear c49b0
       try clear c49b1
       try clear c58
       try clear c58b0
       try clear c58b1
       try clear c61
       try clear c62
       try clear p64
       try clear c65
       try clear c65b0
       try clear c65b1
       try clear c66
       try clear c66b0
       try clear c66b1
       try clear c69
       try clear c70
       try clear hcz34_0
       try clear hcz34_1
       try clear hcz34_10
       try clear hcz34_11
       try clear hcz34_2
       try clear hcz34_3
       try clear hcz34_4
       try clear hcz34_5
       try clear hcz34_6
       try clear hcz34_7
       try clear hcz34_8
       try clear hcz34_9
       try clear hcz42_0
       try clear hcz42_1
       try clear hcz42_10
       try clear hcz42_11
       try clear hcz42_2
       try clear hcz42_3
       try clear hcz42_4
       try clear hcz42_5
       try clear hcz42_6
       try clear hcz42_7
       try clear hcz42_8
       try clear hcz42_9
       try clear hcz48_0
       try clear hcz48_1
       try clear hcz48_10
       try clear hcz48_11
       try clear hcz48_2
       try clear hcz48_3
       try clear hcz48_4
       try clear hcz48_5
       try clear hcz48_6
       try clear hcz48_7
       try clear hcz48_8
       try clear hcz48_9
       try clear hcz63_0
       try clear hcz63_1
       try clear hcz63_10
       try clear hcz63_11
       try clear hcz63_2
       try clear hcz63_3
       try clear hcz63_4
       try clear hcz63_5
       try clear hcz63_6
       try clear hcz63_7
       try clear hcz63_8
       try clear hcz63_9
       try clear hcz68_0
       try clear hcz68_1
       try clear hcz71_0
       try clear hcz71_1
       try clear hcz71_10
       try clear hcz71_11
       try clear hcz71_2
       try clear hcz71_3
       try clear hcz71_4
       try clear hcz71_5
       try clear hcz71_6
       try clear hcz71_7
       try clear hcz71_8
       try clear hcz71_9
       try clear hcz73_0
       try clear hcz73_1
       try clear hcz74_0
       try clear hcz74_1
       try clear hfz34_0
       try clear hfz34_1
       try clear hfz34_10
       try clear hfz34_11
       try clear hfz34_2
       try clear hfz34_3
       try clear hfz34_4
       try clear hfz34_5
       try clear hfz34_6
       try clear hfz34_7
       try clear hfz34_8
       try clear hfz34_9
       try clear hfz42_0
       try clear hfz42_1
       try clear hfz42_10
       try clear hfz42_11
       try clear hfz42_2
       try clear hfz42_3
       try clear hfz42_4
       try clear hfz42_5
       try clear hfz42_6
       try clear hfz42_7
       try clear hfz42_8
       try clear hfz42_9
       try clear hfz48_0
       try clear hfz48_1
       try clear hfz48_10
       try clear hfz48_11
       try clear hfz48_2
       try clear hfz48_3
       try clear hfz48_4
       try clear hfz48_5
       try clear hfz48_6
       try clear hfz48_7
       try clear hfz48_8
       try clear hfz48_9
       try clear hfz63_0
       try clear hfz63_1
       try clear hfz63_10
       try clear hfz63_11
       try clear hfz63_2
       try clear hfz63_3
       try clear hfz63_4
       try clear hfz63_5
       try clear hfz63_6
       try clear hfz63_7
       try clear hfz63_8
       try clear hfz63_9
       try clear hfz68_0
       try clear hfz68_1
       try clear hfz71_0
       try clear hfz71_1
       try clear hfz71_10
       try clear hfz71_11
       try clear hfz71_2
       try clear hfz71_3
       try clear hfz71_4
       try clear hfz71_5
       try clear hfz71_6
       try clear hfz71_7
       try clear hfz71_8
       try clear hfz71_9
       try clear hfz73_0
       try clear hfz73_1
       try clear hfz74_0
       try clear hfz74_1
       try clear p2
       try clear p6
       obtain ⟨kq, x82_63, rfl, HA, HJ63, BK258, BK269, HB⟩ := hcut
       cases kq with
       | zero => exact absurd HA.out (by simp [msg_Get.j1])
       | succ kj63 =>
        have H := HA.out
        clear HA
        simp only [msg_Get.j1] at H
        by_cases c75 : x82_63 = true
        ·subst c75
         have H1 : (some (0, 0, 0, 0, false, 0, 0, 0, 0, 0, 0, 0, 7)) = some (r1, r2, r3, r4, r5, r6, r7, r8, r9, r10, r11, r12, r13) := by rw [if_pos rfl] at H; exact H
         clear H
         have H := H1
         clear H1
         simp only [Option.some.injEq, Prod.mk.injEq] at H
         obtain ⟨rfl, rfl, rfl, rfl, rfl, rfl, rfl, rfl, rfl, rfl, rfl, rfl, rfl⟩ := H
         have hnb76 := NB258_269.out
         have hnc76 := NB269_258.out
         obtain ⟨hcz77_0, hcz77_1, hcz77_2, hcz77_3, hcz77_4, hcz77_5, hcz77_6, hcz77_7, hcz77_8, hcz77_9, hcz77_10, hcz77_11, hfz77_0, hfz77_1, hfz77_2, hfz77_3, hfz77_4, hfz77_5, hfz77_6, hfz77_7, hfz77_8, hfz77_9, hfz77_10, hfz77_11⟩ := cl12 BK258
         go_wp2
         refine bodyPost_ret (results_ct rfl _ _ gb258 32 #[.int .u8 0, .int .i64 0, .int .u64 0, .int .i64 0, .bool false, .int .u64 0, .int .u64 0, .int .i64 0, .int .u8 0, .int .i64 0, .int .i64 0, .int .i64 0] (0, 0) _ rfl (by (with_reducible repeat (first | refine blk_drewN ?_ _ | refine blk_drew ?_ | refine blk_alloc ?_ _)); refine blk_put (cs := #[.int .u8 0, .int .i64 0, .int .u64 0, .int .i64 0, .bool false, .int .u64 0, .int .u64 0, .int .i64 0, .int .u8 0, .int .i64 0, .int .i64 0, .int .i64 0]) ?_ 11 _ rfl; (with_reducible repeat (first | refine blk_drewN ?_ _ | refine blk_drew ?_ | refine blk_alloc ?_ _)); refine blk_put (cs := #[.int .u8 0, .int .i64 0, .int .u64 0, .int .i64 0, .bool false, .int .u64 0, .int .u64 0, .int .i64 0, .int .u8 0, .int .i64 0, .int .i64 0, .int .i64 0]) ?_ 10 _ rfl; (with_reducible repeat (first | refine blk_drewN ?_ _ | refine blk_drew ?_ | refine blk_alloc ?_ _)); refine blk_put (cs := #[.int .u8 0, .int .i64 0, .int .u64 0, .int .i64 0, .bool false, .int .u64 0, .int .u64 0, .int .i64 0, .int .u8 0, .int .i64 0, .int .i64 0, .int .i64 0]) ?_ 9 _ rfl; (with_reducible repeat (first | refine blk_drewN ?_ _ | refine blk_drew ?_ | refine blk_alloc ?_ _)); refine blk_put (cs := #[.int .u8 0, .int .i64 0, .int .u64 0, .int .i64 0, .bool false, .int .u64 0, .int .u64 0, .int .i64 0, .int .u8 0, .int .i64 0, .int .i64 0, .int .i64 0]) ?_ 8 _ rfl; (with_reducible repeat (first | refine blk_drewN ?_ _ | refine blk_drew ?_ | refine blk_alloc ?_ _)); refine blk_put (cs := #[.int .u8 0, .int .i64 0, .int .u64 0, .int .i64 0, .bool false, .int .u64 0, .int .u64 0, .int .i64 0, .int .u8 0, .int .i64 0, .int .i64 0, .int .i64 0]) ?_ 7 _ rfl; (with_reducible repeat (first | refine blk_drewN ?_ _ | refine blk_drew ?_ | refine blk_alloc ?_ _)); refine blk_put (cs := #[.int .u8 0, .int .i64 0, .int .u64 0, .int .i64 0, .bool false, .int .u64 0, .int .u64 0, .int .i64 0, .int .u8 0, .int .i64 0, .int .i64 0, .int .i64 0]) ?_ 6 _ rfl; (with_reducible repeat (first | refine blk_drewN ?_ _ | refine blk_drew ?_ | refine blk_alloc ?_ _)); refine blk_put (cs := #[.int .u8 0, .int .i64 0, .int .u64 0, .int .i64 0, .bool false, .int .u64 0, .int .u64 0, .int .i64 0, .int .u8 0, .int .i64 0, .int .i64 0, .int .i64 0]) ?_ 5 _ rfl; (with_reducible repeat (first | refine blk_drewN ?_ _ | refine blk_drew ?_ | refine blk_alloc ?_ _)); refine blk_put (cs := #[.int .u8 0, .int .i64 0, .int .u64 0, .int .i64 0, .bool false, .int .u64 0, .int .u64 0, .int .i64 0, .int .u8 0, .int .i64 0, .int .i64 0, .int .i64 0]) ?_ 4 _ rfl; (with_reducible repeat (first | refine blk_drewN ?_ _ | refine blk_drew ?_ | refine blk_alloc ?_ _)); refine blk_put (cs := #[.int .u8 0, .int .i64 0, .int .u64 0, .int .i64 0, .bool false, .int .u64 0, .int .u64 0, .int .i64 0, .int .u8 0, .int .i64 0, .int .i64 0, .int .i64 0]) ?_ 3 _ rfl; (with_reducible repeat (first | refine blk_drewN ?_ _ | refine blk_drew ?_ | refine blk_alloc ?_ _)); refine blk_put (cs := #[.int .u8 0, .int .i64 0, .int .u64 0, .int .i64 0, .bool false, .int .u64 0, .int .u64 0, .int .i64 0, .int .u8 0, .int .i64 0, .int .i64 0, .int .i64 0]) ?_ 2 _ rfl; (with_reducible repeat (first | refine blk_drewN ?_ _ | refine blk_drew ?_ | refine blk_alloc ?_ _)); refine blk_put (cs := #[.int .u8 0, .int .i64 0, .int .u64 0, .int .i64 0, .bool false, .int .u64 0, .int .u64 0, .int .i64 0, .int .u8 0, .int .i64 0, .int .i64 0, .int .i64 0]) ?_ 1 _ rfl; (with_reducible repeat (first | refine blk_drewN ?_ _ | refine blk_drew ?_ | refine blk_alloc ?_ _)); refine blk_put (cs := #[.int .u8 0, .int .i64 0, .int .u64 0, .int .i64 0, .bool false, .int .u64 0, .int .u64 0, .int .i64 0, .int .u8 0, .int .i64 0, .int .i64 0, .int .i64 0]) ?_ 0 _ rfl; (with_reducible repeat (first | refine blk_drewN ?_ _ | refine blk_drew ?_ | refine blk_alloc ?_ _)); exact BK258.out) Try.underlying32 rfl (by kernel_rfl)) rfl ?_
         exact ⟨eS, bw2 HB.out GE258.out GE269.out⟩
        ·replace c75 := Bool.eq_false_iff.mpr c75
         subst c75
         have H1 : (some ((bt a0 0), t260, t263, (wrap64 (t266)), x270004_10, x270005_10, x270006_10, x270007_10, x270008_10, x270009_10, x270010_10, x270011_10, 0)) = some (r1, r2, r3, r4, r5, r6, r7, r8, r9, r10, r11, r12, r13) := by rw [if_neg (show ¬ (false = true) by decide)] at H; exact H
         clear H
         have H := H1
         clear H1
         simp only [Option.some.injEq, Prod.mk.injEq] at H
         obtain ⟨rfl, rfl, rfl, rfl, rfl, rfl, rfl, rfl, rfl, rfl, rfl, rfl, rfl⟩ := H
         have hnb78 := NB269_258.out
         have hnc78 := NB258_269.out
         obtain ⟨hcz79_0, hcz79_1, hcz79_2, hcz79_3, hcz79_4, hcz79_5, hcz79_6, hcz79_7, hcz79_8, hcz79_9, hcz79_10, hcz79_11, hfz79_0, hfz79_1, hfz79_2, hfz79_3, hfz79_4, hfz79_5, hfz79_6, hfz79_7, hfz79_8, hfz79_9, hfz79_10, hfz79_11⟩ := cl12 BK269
         obtain ⟨hcz80_0, hcz80_1, hcz80_2, hcz80_3, hcz80_4, hcz80_5, hcz80_6, hcz80_7, hcz80_8, hcz80_9, hcz80_10, hcz80_11, hfz80_0, hfz80_1, hfz80_2, hfz80_3, hfz80_4, hfz80_5, hfz80_6, hfz80_7, hfz80_8, hfz80_9, hfz80_10, hfz80_11⟩ := cl12 BK258
         go_wp2
         refine bodyPost_ret (results_ct rfl _ _ gb258 32 #[.int .u8 (bt a0 0), .int .i64 t260, .int .u64 t263, .int .i64 (wrap64 (t266)), .bool x270004_10, .int .u64 x270005_10, .int .u64 x270006_10, .int .i64 x270007_10, .int .u8 x270008_10, .int .i64 x270009_10, .int .i64 x270010_10, .int .i64 x270011_10] (0, 0) _ rfl (by (with_reducible repeat (first | refine blk_drewN ?_ _ | refine blk_drew ?_ | refine blk_alloc ?_ _)); refine blk_put (cs := #[.int .u8 (bt a0 0), .int .i64 t260, .int .u64 t263, .int .i64 (wrap64 (t266)), .bool x270004_10, .int .u64 x270005_10, .int .u64 x270006_10, .int .i64 x270007_10, .int .u8 x270008_10, .int .i64 x270009_10, .int .i64 x270010_10, .int .i64 0]) ?_ 11 _ rfl; (with_reducible repeat (first | refine blk_drewN ?_ _ | refine blk_drew ?_ | refine blk_alloc ?_ _)); refine blk_put (cs := #[.int .u8 (bt a0 0), .int .i64 t260, .int .u64 t263, .int .i64 (wrap64 (t266)), .bool x270004_10, .int .u64 x270005_10, .int .u64 x270006_10, .int .i64 x270007_10, .int .u8 x270008_10, .int .i64 x270009_10, .int .i64 0, .int .i64 0]) ?_ 10 _ rfl; (with_reducible repeat (first | refine blk_drewN ?_ _ | refine blk_drew ?_ | refine blk_alloc ?_ _)); refine blk_put (cs := #[.int .u8 (bt a0 0), .int .i64 t260, .int .u64 t263, .int .i64 (wrap64 (t266)), .bool x270004_10, .int .u64 x270005_10, .int .u64 x270006_10, .int .i64 x270007_10, .int .u8 x270008_10, .int .i64 0, .int .i64 0, .int .i64 0]) ?_ 9 _ rfl; (with_reducible repeat (first | refine blk_drewN ?_ _ | refine blk_drew ?_ | refine blk_alloc ?_ _)); refine blk_put (cs := #[.int .u8 (bt a0 0), .int .i64 t260, .int .u64 t263, .int .i64 (wrap64 (t266)), .bool x270004_10, .int .u64 x270005_10, .int .u64 x270006_10, .int .i64 x270007_10, .int .u8 0, .int .i64 0, .int .i64 0, .int .i64 0]) ?_ 8 _ rfl; (with_reducible repeat (first | refine blk_drewN ?_ _ | refine blk_drew ?_ | refine blk_alloc ?_ _)); refine blk_put (cs := #[.int .u8 (bt a0 0), .int .i64 t260, .int .u64 t263, .int .i64 (wrap64 (t266)), .bool x270004_10, .int .u64 x270005_10, .int .u64 x270006_10, .int .i64 0, .int .u8 0, .int .i64 0, .int .i64 0, .int .i64 0]) ?_ 7 _ rfl; (with_reducible repeat (first | refine blk_drewN ?_ _ | refine blk_drew ?_ | refine blk_alloc ?_ _)); refine blk_put (cs := #[.int .u8 (bt a0 0), .int .i64 t260, .int .u64 t263, .int .i64 (wrap64 (t266)), .bool x270004_10, .int .u64 x270005_10, .int .u64 0, .int .i64 0, .int .u8 0, .int .i64 0, .int .i64 0, .int .i64 0]) ?_ 6 _ rfl; (with_reducible repeat (first | refine blk_drewN ?_ _ | refine blk_drew ?_ | refine blk_alloc ?_ _)); refine blk_put (cs := #[.int .u8 (bt a0 0), .int .i64 t260, .int .u64 t263, .int .i64 (wrap64 (t266)), .bool x270004_10, .int .u64 0, .int .u64 0, .int .i64 0, .int .u8 0, .int .i64 0, .int .i64 0, .int .i64 0]) ?_ 5 _ rfl; (with_reducible repeat (first | refine blk_drewN ?_ _ | refine blk_drew ?_ | refine blk_alloc ?_ _)); refine blk_put (cs := #[.int .u8 (bt a0 0), .int .i64 t260, .int .u64 t263, .int .i64 (wrap64 (t266)), .bool false, .int .u64 0, .int .u64 0, .int .i64 0, .int .u8 0, .int .i64 0, .int .i64 0, .int .i64 0]) ?_ 4 _ rfl; (with_reducible repeat (first | refine blk_drewN ?_ _ | refine blk_drew ?_ | refine blk_alloc ?_ _)); refine blk_put (cs := #[.int .u8 (bt a0 0), .int .i64 t260, .int .u64 t263, .int .i64 0, .bool false, .int .u64 0, .int .u64 0, .int .i64 0, .int .u8 0, .int .i64 0, .int .i64 0, .int .i64 0]) ?_ 3 _ rfl; (with_reducible repeat (first | refine blk_drewN ?_ _ | refine blk_drew ?_ | refine blk_alloc ?_ _)); refine blk_put (cs := #[.int .u8 (bt a0 0), .int .i64 t260, .int .u64 0, .int .i64 0, .bool false, .int .u64 0, .int .u64 0, .int .i64 0, .int .u8 0, .int .i64 0, .int .i64 0, .int .i64 0]) ?_ 2 _ rfl; (with_reducible repeat (first | refine blk_drewN ?_ _ | refine blk_drew ?_ | refine blk_alloc ?_ _)); refine blk_put (cs := #[.int .u8 (bt a0 0), .int .i64 0, .int .u64 0, .int .i64 0, .bool false, .int .u64 0, .int .u64 0, .int .i64 0, .int .u8 0, .int .i64 0, .int .i64 0, .int .i64 0]) ?_ 1 _ rfl; (with_reducible repeat (first | refine blk_drewN ?_ _ | refine blk_drew ?_ | refine blk_alloc ?_ _)); refine blk_put (cs := #[.int .u8 0, .int .i64 0, .int .u64 0, .int .i64 0, .bool false, .int .u64 0, .int .u64 0, .int .i64 0, .int .u8 0, .int .i64 0, .int .i64 0, .int .i64 0]) ?_ 0 _ rfl; (with_reducible repeat (first | refine blk_drewN ?_ _ | refine blk_drew ?_ | refine blk_alloc ?_ _)); exact BK258.out) Try.underlying32 rfl (by kernel_rfl)) rfl ?_
         exact ⟨eS, bw2 HB.out GE258.out GE269.out⟩
   ·rw [if_neg c6] at H
    exact absurd H (by simp)
  ·rw [if_neg c5] at H
   exact absurd H (by simp)
def spoorref05_Zeros.f (a0 : Int) : Option (ByteArray) := if 0 ≤ a0 then (if (a0 : Int).toNat ≤ 281474976710656 then (some (strOfNums (List.replicate (a0 : Int).toNat 0))) else (none)) else (none)
set_option maxHeartbeats 8000000 in
set_option maxRecDepth 100000 in
theorem spoorref05_Zeros.calls (a0 : Int) (r : ByteArray) (w : World) (h : spoorref05_Zeros.f a0 = some r) :
  Calls Try.prog 41 #[.int .i64 a0] w fun e w' => e = .returned (.string r) ∧ Below w.heap.size w w' := by
 have HB := Ax (Below.refl w.heap.size w)
 have H : (if 0 ≤ a0 then (if (a0 : Int).toNat ≤ 281474976710656 then (some (strOfNums (List.replicate (a0 : Int).toNat 0))) else (none)) else (none)) = some r := h
 clear h
 by_cases c2 : 0 ≤ a0
 ·rw [if_pos c2] at H
  have c2b0 := eq_true c2
  have c2b1 : decide (0 ≤ a0) = true := decide_eq_true c2
  clear c2
  by_cases c3 : (a0 : Int).toNat ≤ 281474976710656
  ·rw [if_pos c3] at H
   have c3b0 := eq_true c3
   have c3b1 : decide ((a0 : Int).toNat ≤ 281474976710656) = true := decide_eq_true c3
   clear c3
   obtain ⟨y296, hy296⟩ : ∃ y_ : List Int, y_ = (List.replicate (a0 : Int).toNat 0) := ⟨_, rfl⟩
   replace H : (some (strOfNums y296)) = some r := by first | (rw [hy296]; with_reducible exact H) | (have H2_ := (Option.bind_some _ _).symm.trans H; rw [hy296]; with_reducible exact H2_) | (have H2_ := (Option.bind_some _ _).symm.trans H; with_reducible exact H2_) | with_reducible exact H | (rw [hy296]; exact H) | exact H
   have Ny296 := Ax hy296
   clear hy296
   obtain rfl := Option.some.inj H
   go_enter Try.func41, Try.ntmps41
   go_wp2_with (first | ((with_reducible refine gate_dst (N := 4) rfl ?_); refine Kd.R_make (Kd.int .u8) _ 5 rfl (N := 4) rfl 49 _ _ rfl a0 rfl rfl Try.underlying49 (.int .u8 0) 1 info5 rfl (by decide) (by omega) 0 (ok := fun _ => True) (okp := fun _ => True) rfl (fun _ hk => hk) trivial (of_decide_eq_true (by first | (with_reducible assumption) | assumption)) (Nat.le_trans (Nat.mul_le_mul_right _ (of_decide_eq_true (by first | (with_reducible assumption) | assumption) : a0.toNat ≤ 281474976710656)) (by omega)) (Below.refl _ _) (Nat.le_refl _) ?_; intro v297 w4 ho5 hb hg_ hnew_; clear hg_ hnew_; (first | rw [← Ny296.out] at ho5 | (simp only [Int.reduceToNat] at ho5; rw [← Ny296.out] at ho5)); have HO298 := Ax (Kd.R_lower ho5 (below_size (bw0 HB.out))); replace HB := Bs0 HB hb; clear hb ho5; have hcv6 := own_string (P := Try.prog) Try.underlying49 Try.underlying5 Try.underlying9 (Kd.own_of_R HO298.out)))
   go_ret
   exact ⟨eS, bw0 HB.out⟩
  ·rw [if_neg c3] at H
   exact absurd H (by simp)
 ·rw [if_neg c2] at H
  exact absurd H (by simp)
def spoorref05_Number.l0 : Nat → ByteArray → Int → Int → Option (Int)
 | 0, _, _, _ => none
 | k + 1, x0, x3, x4 => if x4 < (x0.size : Int) then (if 0 ≤ x4 then (spoorref05_Number.l0 k x0 (IntKind.u64.wrap ((IntKind.u64.wrap (256 * x3)) + (IntKind.u64.wrap (bt x0 x4)))) (wrap64 (x4 + 1))) else (none)) else (some x3)
def spoorref05_Number.f (k : Nat) (a0 : ByteArray) : Option (Int) := spoorref05_Number.l0 k a0 0 0
set_option maxHeartbeats 8000000 in
set_option maxRecDepth 100000 in
theorem spoorref05_Number.calls (k : Nat) (a0 : ByteArray) (r : Int) (w : World) (h : spoorref05_Number.f k a0 = some r) :
  Calls Try.prog 42 #[.string a0] w fun e w' => e = .returned (.int .u64 r) ∧ Drawn0 w w' := by
 have H : (spoorref05_Number.l0 k a0 0 0) = some r := h
 clear h
 have H' := Ax H
 clear H
 go_enter Try.func42, Try.ntmps42
 go_wp2
 go_loopg [3, 4] k (fun kq v3 v4 w' => ∃ (x3_1 : Int) (x4_1 : Int), v3 = .int .u64 x3_1 ∧ v4 = .int .i64 x4_1 ∧ Aside0 (spoorref05_Number.l0 kq a0 x3_1 x4_1 = some r) ∧ Aside0 (kq ≤ k) ∧ Drawn0 w w')
 case atStart => exact ⟨(0), (0), rS, rS, H', ⟨Nat.le_refl _⟩, by repeat (first | exact Drawn0.refl _ | apply Drawn0.step)⟩
 case round =>
  clear H'
  obtain ⟨x3_1, x4_1, rfl, rfl, HA, HK1, ⟨m1, rfl⟩⟩ := hrel
  cases gk with
  | zero => exact absurd HA.out (by simp [spoorref05_Number.l0])
  | succ k1 =>
   have H := HA.out
   clear HA
   simp only [spoorref05_Number.l0] at H
   by_cases c2 : x4_1 < (a0.size : Int)
   ·rw [if_pos c2] at H
    have c2b0 : decide (x4_1 < (a0.size : Int)) = true := decide_eq_true c2
    clear c2
    by_cases c3 : 0 ≤ x4_1
    ·rw [if_pos c3] at H
     have c3b0 : decide (0 ≤ x4_1) = true := decide_eq_true c3
     clear c3
     have H' := Ax H
     clear H
     have p4 : 0 ≤ (x4_1 : Int) := of_decide_eq_true (by first | (with_reducible assumption) | assumption)
     have q4 : x4_1 < (a0.size : Int) := of_decide_eq_true (by first | (with_reducible assumption) | assumption)
     have hx4 := bt_at a0 x4_1
     replace p4 := eq_true p4
     replace q4 := eq_true q4
     go_wp2
     go_roundg k1
     case measure => have := HK1.out; omega
     case rel => exact ⟨(IntKind.u64.wrap ((IntKind.u64.wrap (256 * x3_1)) + (IntKind.u64.wrap (bt a0 x4_1)))), (wrap64 (x4_1 + 1)), rS, rS, H', ⟨by have := HK1.out; omega⟩, by repeat (first | exact Drawn0.refl _ | apply Drawn0.step)⟩
    ·rw [if_neg c3] at H
     exact absurd H (by simp)
   ·rw [if_neg c2] at H
    have c2b0 : decide (x4_1 < (a0.size : Int)) = false := decide_eq_false c2
    clear c2
    obtain rfl := Option.some.inj H
    go_wp2
    go_ret
    exact ⟨by first | rfl | (simp; done) | (simp [*]; done), by repeat (first | exact Drawn0.refl _ | apply Drawn0.step)⟩
end Go.Proofs.Ytodgadhegcjbhaa.Q
end
section
namespace Go.Proofs.Ytodgadhegcjbhaa.Q
open Go.RowKit Go.Proofs.YtodgadhegcjbhaaW.PrintWords Go.Proofs.YtodgadhegcjbhaaW.PrintLast Go.Proofs.YtodgadhegcjbhaaW.PrintMore
attribute [local go_sem] max2_int min2_int max_two min_two max_three min_three max_four min_four   -- for this text's walks alone
set_option linter.unusedVariables false
set_option linter.unusedSimpArgs false
mutual
def spoorref11_GetPrefix.j0 : Nat → ByteArray → Bool → Option (Bool × Int × Int × Int × ByteArray × Int)
 | 0, _, _ => none
 | k + 1, x0, x20 => if x20 = true then (some (false, 0, 0, 0, (⟨#[]⟩ : ByteArray), 7)) else (if 0 < (x0.size : Int) then (if 1 < (x0.size : Int) then ((spoorref09_Wide.f ((bt x0 0) == 6)).bind fun t301 => (if (wrap64 (bt x0 1)) > t301 then (spoorref11_GetPrefix.j1 k x0 (wrap64 (Int.tdiv (wrap64 ((wrap64 (bt x0 1)) + 7)) 8)) true ((bt x0 0) == 6) 0 0 (wrap64 (bt x0 1))) else (spoorref11_GetPrefix.j1 k x0 (wrap64 (Int.tdiv (wrap64 ((wrap64 (bt x0 1)) + 7)) 8)) (decide ((x0.size : Int) < (wrap64 (2 + (wrap64 (Int.tdiv (wrap64 ((wrap64 (bt x0 1)) + 7)) 8)))))) ((bt x0 0) == 6) 0 0 (wrap64 (bt x0 1))))) else (none)) else (none))
def spoorref11_GetPrefix.j1 : Nat → ByteArray → Int → Bool → Bool → Int → Int → Int → Option (Bool × Int × Int × Int × ByteArray × Int)
 | 0, _, _, _, _, _, _, _ => none
 | k + 1, x0, x6, x45, x301000, x301001, x301002, x301003 => if x45 = true then (some (false, 0, 0, 0, (⟨#[]⟩ : ByteArray), 7)) else (if 2 ≤ (wrap64 (2 + x6)) then (if (wrap64 (2 + x6)) ≤ (x0.size : Int) then ((spoorref09_Wide.f x301000).bind fun t302 => ((spoorref05_Zeros.f (wrap64 ((wrap64 (Int.tdiv t302 8)) - x6))).bind fun t303 => (if (x0.extract 2 ((wrap64 (2 + x6)) : Int).toNat).size + t303.size ≤ 9223372036854775807 then (if x301000 = true then (if 8 ≤ (((x0.extract 2 ((wrap64 (2 + x6)) : Int).toNat) ++ t303).size : Int) then ((spoorref05_Number.f k (((x0.extract 2 ((wrap64 (2 + x6)) : Int).toNat) ++ t303).extract 0 8)).bind fun t304 => ((spoorref05_Number.f k (((x0.extract 2 ((wrap64 (2 + x6)) : Int).toNat) ++ t303).extract 8 ((x0.extract 2 ((wrap64 (2 + x6)) : Int).toNat) ++ t303).size)).bind fun t305 => ((spoorref09_Check.f k x301000 t304 t305 x301003).bind fun t306 => (if t306 = 0 then (if 0 ≤ (wrap64 (2 + x6)) then (some (x301000, t304, t305, x301003, x0.extract ((wrap64 (2 + x6)) : Int).toNat x0.size, 0)) else (none)) else (some (false, 0, 0, 0, (⟨#[]⟩ : ByteArray), 7)))))) else (none)) else ((spoorref05_Number.f k ((x0.extract 2 ((wrap64 (2 + x6)) : Int).toNat) ++ t303)).bind fun t307 => ((spoorref09_Check.f k x301000 x301001 t307 x301003).bind fun t308 => (if t308 = 0 then (if 0 ≤ (wrap64 (2 + x6)) then (some (x301000, x301001, t307, x301003, x0.extract ((wrap64 (2 + x6)) : Int).toNat x0.size, 0)) else (none)) else (some (false, 0, 0, 0, (⟨#[]⟩ : ByteArray), 7)))))) else (none)))) else (none)) else (none))
end
def spoorref11_GetPrefix.f (k : Nat) (a0 : ByteArray) : Option (Bool × Int × Int × Int × ByteArray × Int) := if (a0.size : Int) < 2 then (spoorref11_GetPrefix.j0 k a0 true) else (if 0 < (a0.size : Int) then (if (bt a0 0) = 4 then (spoorref11_GetPrefix.j0 k a0 false) else (spoorref11_GetPrefix.j0 k a0 ((bt a0 0) != 6))) else (none))
def spoorref11_GetPrefix.T3 : Bool × List (List Nat × List Nat) := (true, [([], []), ([0], [0]), ([1], [1]), ([], []), ([3], [3]), ([4], [4]), ([2, 5], [2, 5]), ([], []), ([7, 6, 0, 1, 2, 3, 4, 5, 6, 7], [6, 7])])
def spoorref11_GetPrefix.B3 : List Nat := [0, 1, 3, 0, 8, 24, 63, 0, 255]
theorem spoorref11_GetPrefix.tab3 : rtab .any (opsOf Try.f18 3) = spoorref11_GetPrefix.T3 := by kernel_rfl
theorem spoorref11_GetPrefix.bits3 : waitsOk spoorref11_GetPrefix.T3.2 spoorref11_GetPrefix.B3 = true := by kernel_rfl
def spoorref11_GetPrefix.T5 : Bool × List (List Nat × List Nat) := (true, [([], []), ([0], [0]), ([], []), ([2], [2]), ([3], [3]), ([1, 4], [1, 4]), ([5, 4], [5]), ([6], [6]), ([7, 6], [6, 7]), ([6], [6]), ([9, 6], [6, 9]), ([8, 10, 6], [6, 8, 10]), ([6, 11], [6, 11])])
def spoorref11_GetPrefix.B5 : List Nat := [0, 1, 0, 4, 12, 31, 63, 127, 255, 127, 639, 2047, 4095]
theorem spoorref11_GetPrefix.tab5 : rtab .any (opsOf Try.f18 5) = spoorref11_GetPrefix.T5 := by kernel_rfl
theorem spoorref11_GetPrefix.bits5 : waitsOk spoorref11_GetPrefix.T5.2 spoorref11_GetPrefix.B5 = true := by kernel_rfl
def spoorref11_GetPrefix.T7 : Bool × List (List Nat × List Nat) := (true, [([], []), ([], []), ([1], [1]), ([0, 2], [0, 2]), ([], []), ([4], [4]), ([5], [5]), ([6], [6]), ([], []), ([7, 8], [7, 8]), ([9, 6], [9]), ([3, 10], [3, 10]), ([11, 10, 0, 1, 2, 3, 4, 5, 6, 7, 8, 9, 10, 11], [11])])
def spoorref11_GetPrefix.B7 : List Nat := [0, 0, 2, 7, 0, 16, 48, 112, 0, 496, 1008, 2047, 4095]
theorem spoorref11_GetPrefix.tab7 : rtab .any (opsOf Try.f18 7) = spoorref11_GetPrefix.T7 := by kernel_rfl
theorem spoorref11_GetPrefix.bits7 : waitsOk spoorref11_GetPrefix.T7.2 spoorref11_GetPrefix.B7 = true := by kernel_rfl
def spoorref11_GetPrefix.T9 : Bool × List (List Nat × List Nat) := (true, [([], []), ([0], [0]), ([1], [1]), ([], []), ([3], [3]), ([4, 2], [4]), ([0, 1, 2], []), ([6, 0, 1, 2], [6]), ([7, 2, 5, 0, 1, 2], [2, 7]), ([0, 1, 2, 3, 4, 5, 6, 7, 8], []), ([9, 0, 1, 2, 3, 4, 5, 6, 7, 8], [9]), ([10, 5, 8, 0, 1, 2, 3, 4, 5, 6, 7, 8], [5, 10])])
def spoorref11_GetPrefix.B9 : List Nat := [0, 1, 3, 0, 8, 31, 7, 71, 255, 511, 1023, 2047]
theorem spoorref11_GetPrefix.tab9 : rtab .any (opsOf Try.f18 9) = spoorref11_GetPrefix.T9 := by kernel_rfl
theorem spoorref11_GetPrefix.bits9 : waitsOk spoorref11_GetPrefix.T9.2 spoorref11_GetPrefix.B9 = true := by kernel_rfl
def spoorref11_GetPrefix.T13 : Bool × List (List Nat × List Nat) := (true, [([], []), ([], []), ([], []), ([2], [2]), ([1, 3], [1, 3]), ([0, 0], [0]), ([4, 5, 0, 1, 2, 3, 4, 5], [4]), ([6, 0, 1, 2, 3, 4, 5, 6], [])])
def spoorref11_GetPrefix.B13 : List Nat := [0, 0, 0, 4, 14, 1, 63, 127]
theorem spoorref11_GetPrefix.tab13 : rtab .any (opsOf Try.f18 13) = spoorref11_GetPrefix.T13 := by kernel_rfl
theorem spoorref11_GetPrefix.bits13 : waitsOk spoorref11_GetPrefix.T13.2 spoorref11_GetPrefix.B13 = true := by kernel_rfl
end Go.Proofs.Ytodgadhegcjbhaa.Q
end
