-- Merged and trimmed by this session's program wip/tools/trim.py.
import Derived.Test.YtcnkiigobcigbaaTTopStream4
section
namespace Go.Proofs.Ytcnkiigobcigbaa.Q
open Go.RowKit Go.Proofs.YtcnkiigobcigbaaW.PrintWords Go.Proofs.YtcnkiigobcigbaaW.PrintLast Go.Proofs.YtcnkiigobcigbaaW.PrintMore
attribute [local go_sem] max2_int min2_int max_two min_two max_three min_three max_four min_four   -- for this text's walks alone
set_option linter.unusedVariables false
set_option linter.unusedSimpArgs false
set_option maxHeartbeats 8000000 in
set_option maxRecDepth 100000 in
theorem msg_Get.calls (k : Nat) (a0 : ByteArray) (r1 : Int) (r2 : Int) (r3 : Int) (r4 : Int) (r5 : Bool) (r6 : Int) (r7 : Int) (r8 : Int) (r9 : Int) (r10 : Int) (r11 : Int) (r12 : Int) (r13 : Int) (w : World) (h : msg_Get.f k a0 = some (r1, r2, r3, r4, r5, r6, r7, r8, r9, r10, r11, r12, r13)) :
  Calls Try.prog 8 #[.string a0] w fun e w' => e = .returned (.tuple #[.agg #[.int .u8 r1, .int .i64 r2, .int .u64 r3, .int .i64 r4, .bool r5, .int .u64 r6, .int .u64 r7, .int .i64 r8, .int .u8 r9, .int .i64 r10, .int .i64 r11, .int .i64 r12], .int .i64 r13]) ∧ Below w.heap.size w w' := by
 have hu35 := Try.underlying35
 have hu67 := Try.underlying67
 have hu69 := Try.underlying69
 have hu30 := Try.underlying30
 have hu33 := Try.underlying33
 have HB := Ax (Below.refl w.heap.size w)
 have H : (if a0.toList = ([] : List UInt8) then (some (0, 0, 0, 0, false, 0, 0, 0, 0, 0, 0, 0, 7)) else (if 1 ≤ (a0.size : Int) then (if 0 < (a0.size : Int) then ((num_Reader_Many.f k (a0.extract 1 a0.size) 0 1048576).bind fun bt214 => ((num_Reader_Num.f k bt214.2.1 bt214.2.2).bind fun bt217 => ((num_Reader_Num.f k bt217.2.1 bt217.2.2).bind fun bt220 => (if (bt a0 0) = 3 then ((api_Prefix.f k bt220.2.1 bt220.2.2).bind fun bt224 => ((api_Action.f k bt224.2.2.2.2.1 bt224.2.2.2.2.2).bind fun bt230 => (msg_Get.j0 k bt230.2.2.1 bt230.2.2.2 (bt a0 0) bt214.1 bt217.1 (wrap64 (bt220.1)) bt224.1 bt224.2.1 bt224.2.2.1 bt224.2.2.2.1 bt230.1 bt230.2.1 0 0))) else (if (bt a0 0) = 4 then ((api_Prefix.f k bt220.2.1 bt220.2.2).bind fun bt234 => (msg_Get.j0 k bt234.2.2.2.2.1 bt234.2.2.2.2.2 (bt a0 0) bt214.1 bt217.1 (wrap64 (bt220.1)) bt234.1 bt234.2.1 bt234.2.2.1 bt234.2.2.2.1 0 0 0 0)) else (if (bt a0 0) = 5 then ((num_Reader_Many.f k bt220.2.1 bt220.2.2 65536).bind fun bt240 => ((num_Reader_Many.f k bt240.2.1 bt240.2.2 1048576).bind fun bt243 => (msg_Get.j0 k bt243.2.1 bt243.2.2 (bt a0 0) bt214.1 bt217.1 (wrap64 (bt220.1)) false 0 0 0 0 0 bt240.1 bt243.1))) else (if (bt a0 0) = 6 then ((num_Reader_Many.f k bt220.2.1 bt220.2.2 65536).bind fun bt246 => (msg_Get.j0 k bt246.2.1 bt246.2.2 (bt a0 0) bt214.1 bt217.1 (wrap64 (bt220.1)) false 0 0 0 0 0 bt246.1 0)) else (msg_Get.j0 k bt220.2.1 bt220.2.2 (bt a0 0) bt214.1 bt217.1 (wrap64 (bt220.1)) false 0 0 0 0 0 0 0)))))))) else (none)) else (none))) = some (r1, r2, r3, r4, r5, r6, r7, r8, r9, r10, r11, r12, r13) := h
 clear h
 by_cases c2 : a0.toList = ([] : List UInt8)
 ·rw [if_pos c2] at H
  have c2b0 : (a0.toList == ([] : List UInt8)) = true := beq_iff_eq.mpr c2
  have c2b1 : (a0.toList != ([] : List UInt8)) = false := bne_eq_false_iff_eq.mpr c2
  clear c2
  simp only [Option.some.injEq, Prod.mk.injEq] at H
  obtain ⟨rfl, rfl, rfl, rfl, rfl, rfl, rfl, rfl, rfl, rfl, rfl, rfl, rfl⟩ := H
  go_enter Try.func8, Try.ntmps8
  go_wp2_with (first | ((with_reducible refine gate_dst (N := 2) rfl ?_); refine box_event ?hg (N := 2) ?hd (cs := #[.int .u8 0, .int .i64 0, .int .u64 0, .int .i64 0, .bool false, .int .u64 0, .int .u64 0, .int .i64 0, .int .u8 0, .int .i64 0, .int .i64 0, .int .i64 0]) (t := 35) ?hr ?_; (case hd => rfl); (case hg => rfl); (case hr => first | (go_simp; done) | (go_simp; rfl)); intro gb212 hg w3 hbox hb; have n0_ := Bs0 HB hb; have n1_ := Ax (hbox); have n2_ := Gw0 HB hg; have n3_ := Gw0 HB hg; clear HB; have HB := n0_; have BK212 := n1_; have GW212 := n2_; have GE212 := n3_; clear n0_ n1_ n2_ n3_; clear hb hbox hg; obtain ⟨hcz4_0, hcz4_1, hcz4_2, hcz4_3, hcz4_4, hcz4_5, hcz4_6, hcz4_7, hcz4_8, hcz4_9, hcz4_10, hcz4_11, hfz4_0, hfz4_1, hfz4_2, hfz4_3, hfz4_4, hfz4_5, hfz4_6, hfz4_7, hfz4_8, hfz4_9, hfz4_10, hfz4_11⟩ := cl12 BK212))
  refine bodyPost_ret (results_ct rfl _ _ gb212 35 #[.int .u8 0, .int .i64 0, .int .u64 0, .int .i64 0, .bool false, .int .u64 0, .int .u64 0, .int .i64 0, .int .u8 0, .int .i64 0, .int .i64 0, .int .i64 0] (0, 0) _ rfl (by (with_reducible repeat (first | refine blk_drewN ?_ _ | refine blk_drew ?_ | refine blk_alloc ?_ _)); refine blk_put (cs := #[.int .u8 0, .int .i64 0, .int .u64 0, .int .i64 0, .bool false, .int .u64 0, .int .u64 0, .int .i64 0, .int .u8 0, .int .i64 0, .int .i64 0, .int .i64 0]) ?_ 11 _ rfl; (with_reducible repeat (first | refine blk_drewN ?_ _ | refine blk_drew ?_ | refine blk_alloc ?_ _)); refine blk_put (cs := #[.int .u8 0, .int .i64 0, .int .u64 0, .int .i64 0, .bool false, .int .u64 0, .int .u64 0, .int .i64 0, .int .u8 0, .int .i64 0, .int .i64 0, .int .i64 0]) ?_ 10 _ rfl; (with_reducible repeat (first | refine blk_drewN ?_ _ | refine blk_drew ?_ | refine blk_alloc ?_ _)); refine blk_put (cs := #[.int .u8 0, .int .i64 0, .int .u64 0, .int .i64 0, .bool false, .int .u64 0, .int .u64 0, .int .i64 0, .int .u8 0, .int .i64 0, .int .i64 0, .int .i64 0]) ?_ 9 _ rfl; (with_reducible repeat (first | refine blk_drewN ?_ _ | refine blk_drew ?_ | refine blk_alloc ?_ _)); refine blk_put (cs := #[.int .u8 0, .int .i64 0, .int .u64 0, .int .i64 0, .bool false, .int .u64 0, .int .u64 0, .int .i64 0, .int .u8 0, .int .i64 0, .int .i64 0, .int .i64 0]) ?_ 8 _ rfl; (with_reducible repeat (first | refine blk_drewN ?_ _ | refine blk_drew ?_ | refine blk_alloc ?_ _)); refine blk_put (cs := #[.int .u8 0, .int .i64 0, .int .u64 0, .int .i64 0, .bool false, .int .u64 0, .int .u64 0, .int .i64 0, .int .u8 0, .int .i64 0, .int .i64 0, .int .i64 0]) ?_ 7 _ rfl; (with_reducible repeat (first | refine blk_drewN ?_ _ | refine blk_drew ?_ | refine blk_alloc ?_ _)); refine blk_put (cs := #[.int .u8 0, .int .i64 0, .int .u64 0, .int .i64 0, .bool false, .int .u64 0, .int .u64 0, .int .i64 0, .int .u8 0, .int .i64 0, .int .i64 0, .int .i64 0]) ?_ 6 _ rfl; (with_reducible repeat (first | refine blk_drewN ?_ _ | refine blk_drew ?_ | refine blk_alloc ?_ _)); refine blk_put (cs := #[.int .u8 0, .int .i64 0, .int .u64 0, .int .i64 0, .bool false, .int .u64 0, .int .u64 0, .int .i64 0, .int .u8 0, .int .i64 0, .int .i64 0, .int .i64 0]) ?_ 5 _ rfl; (with_reducible repeat (first | refine blk_drewN ?_ _ | refine blk_drew ?_ | refine blk_alloc ?_ _)); refine blk_put (cs := #[.int .u8 0, .int .i64 0, .int .u64 0, .int .i64 0, .bool false, .int .u64 0, .int .u64 0, .int .i64 0, .int .u8 0, .int .i64 0, .int .i64 0, .int .i64 0]) ?_ 4 _ rfl; (with_reducible repeat (first | refine blk_drewN ?_ _ | refine blk_drew ?_ | refine blk_alloc ?_ _)); refine blk_put (cs := #[.int .u8 0, .int .i64 0, .int .u64 0, .int .i64 0, .bool false, .int .u64 0, .int .u64 0, .int .i64 0, .int .u8 0, .int .i64 0, .int .i64 0, .int .i64 0]) ?_ 3 _ rfl; (with_reducible repeat (first | refine blk_drewN ?_ _ | refine blk_drew ?_ | refine blk_alloc ?_ _)); refine blk_put (cs := #[.int .u8 0, .int .i64 0, .int .u64 0, .int .i64 0, .bool false, .int .u64 0, .int .u64 0, .int .i64 0, .int .u8 0, .int .i64 0, .int .i64 0, .int .i64 0]) ?_ 2 _ rfl; (with_reducible repeat (first | refine blk_drewN ?_ _ | refine blk_drew ?_ | refine blk_alloc ?_ _)); refine blk_put (cs := #[.int .u8 0, .int .i64 0, .int .u64 0, .int .i64 0, .bool false, .int .u64 0, .int .u64 0, .int .i64 0, .int .u8 0, .int .i64 0, .int .i64 0, .int .i64 0]) ?_ 1 _ rfl; (with_reducible repeat (first | refine blk_drewN ?_ _ | refine blk_drew ?_ | refine blk_alloc ?_ _)); refine blk_put (cs := #[.int .u8 0, .int .i64 0, .int .u64 0, .int .i64 0, .bool false, .int .u64 0, .int .u64 0, .int .i64 0, .int .u8 0, .int .i64 0, .int .i64 0, .int .i64 0]) ?_ 0 _ rfl; (with_reducible repeat (first | refine blk_drewN ?_ _ | refine blk_drew ?_ | refine blk_alloc ?_ _)); exact BK212.out) Try.underlying35 rfl (by kernel_rfl)) rfl ?_
  exact ⟨eS, bw1 HB.out GE212.out⟩
 ·rw [if_neg c2] at H
  have c2b0 : (a0.toList == ([] : List UInt8)) = false := beq_eq_false_iff_ne.mpr c2
  have c2b1 : (a0.toList != ([] : List UInt8)) = true := bne_iff_ne.mpr c2
  by_cases c5 : 1 ≤ (a0.size : Int)
  ·rw [if_pos c5] at H
   have c5b0 := eq_true c5
   have c5b1 : decide (1 ≤ (a0.size : Int)) = true := decide_eq_true c5
   clear c5
   by_cases c6 : 0 < (a0.size : Int)
   ·rw [if_pos c6] at H
    have c6b0 : decide (0 < (a0.size : Int)) = true := decide_eq_true c6
    have c6b1 : decide (0 < a0.size) = true := decide_eq_true (by omega)
    clear c6
    replace H := Option.bind_eq_some_iff.mp H
    obtain ⟨⟨t214, t215, t216⟩, A80, H⟩ := H
    replace H : ((num_Reader_Num.f k t215 t216).bind fun bt217 => ((num_Reader_Num.f k bt217.2.1 bt217.2.2).bind fun bt220 => (if (bt a0 0) = 3 then ((api_Prefix.f k bt220.2.1 bt220.2.2).bind fun bt224 => ((api_Action.f k bt224.2.2.2.2.1 bt224.2.2.2.2.2).bind fun bt230 => (msg_Get.j0 k bt230.2.2.1 bt230.2.2.2 (bt a0 0) t214 bt217.1 (wrap64 (bt220.1)) bt224.1 bt224.2.1 bt224.2.2.1 bt224.2.2.2.1 bt230.1 bt230.2.1 0 0))) else (if (bt a0 0) = 4 then ((api_Prefix.f k bt220.2.1 bt220.2.2).bind fun bt234 => (msg_Get.j0 k bt234.2.2.2.2.1 bt234.2.2.2.2.2 (bt a0 0) t214 bt217.1 (wrap64 (bt220.1)) bt234.1 bt234.2.1 bt234.2.2.1 bt234.2.2.2.1 0 0 0 0)) else (if (bt a0 0) = 5 then ((num_Reader_Many.f k bt220.2.1 bt220.2.2 65536).bind fun bt240 => ((num_Reader_Many.f k bt240.2.1 bt240.2.2 1048576).bind fun bt243 => (msg_Get.j0 k bt243.2.1 bt243.2.2 (bt a0 0) t214 bt217.1 (wrap64 (bt220.1)) false 0 0 0 0 0 bt240.1 bt243.1))) else (if (bt a0 0) = 6 then ((num_Reader_Many.f k bt220.2.1 bt220.2.2 65536).bind fun bt246 => (msg_Get.j0 k bt246.2.1 bt246.2.2 (bt a0 0) t214 bt217.1 (wrap64 (bt220.1)) false 0 0 0 0 0 bt246.1 0)) else (msg_Get.j0 k bt220.2.1 bt220.2.2 (bt a0 0) t214 bt217.1 (wrap64 (bt220.1)) false 0 0 0 0 0 0 0))))))) = some (r1, r2, r3, r4, r5, r6, r7, r8, r9, r10, r11, r12, r13) := H
    have A8 := Ax A80
    clear A80
    replace H := Option.bind_eq_some_iff.mp H
    obtain ⟨⟨t217, t218, t219⟩, A90, H⟩ := H
    replace H : ((num_Reader_Num.f k t218 t219).bind fun bt220 => (if (bt a0 0) = 3 then ((api_Prefix.f k bt220.2.1 bt220.2.2).bind fun bt224 => ((api_Action.f k bt224.2.2.2.2.1 bt224.2.2.2.2.2).bind fun bt230 => (msg_Get.j0 k bt230.2.2.1 bt230.2.2.2 (bt a0 0) t214 t217 (wrap64 (bt220.1)) bt224.1 bt224.2.1 bt224.2.2.1 bt224.2.2.2.1 bt230.1 bt230.2.1 0 0))) else (if (bt a0 0) = 4 then ((api_Prefix.f k bt220.2.1 bt220.2.2).bind fun bt234 => (msg_Get.j0 k bt234.2.2.2.2.1 bt234.2.2.2.2.2 (bt a0 0) t214 t217 (wrap64 (bt220.1)) bt234.1 bt234.2.1 bt234.2.2.1 bt234.2.2.2.1 0 0 0 0)) else (if (bt a0 0) = 5 then ((num_Reader_Many.f k bt220.2.1 bt220.2.2 65536).bind fun bt240 => ((num_Reader_Many.f k bt240.2.1 bt240.2.2 1048576).bind fun bt243 => (msg_Get.j0 k bt243.2.1 bt243.2.2 (bt a0 0) t214 t217 (wrap64 (bt220.1)) false 0 0 0 0 0 bt240.1 bt243.1))) else (if (bt a0 0) = 6 then ((num_Reader_Many.f k bt220.2.1 bt220.2.2 65536).bind fun bt246 => (msg_Get.j0 k bt246.2.1 bt246.2.2 (bt a0 0) t214 t217 (wrap64 (bt220.1)) false 0 0 0 0 0 bt246.1 0)) else (msg_Get.j0 k bt220.2.1 bt220.2.2 (bt a0 0) t214 t217 (wrap64 (bt220.1)) false 0 0 0 0 0 0 0)))))) = some (r1, r2, r3, r4, r5, r6, r7, r8, r9, r10, r11, r12, r13) := H
    have A9 := Ax A90
    clear A90
    replace H := Option.bind_eq_some_iff.mp H
    obtain ⟨⟨t220, t221, t222⟩, A100, H⟩ := H
    replace H : (if (bt a0 0) = 3 then ((api_Prefix.f k t221 t222).bind fun bt224 => ((api_Action.f k bt224.2.2.2.2.1 bt224.2.2.2.2.2).bind fun bt230 => (msg_Get.j0 k bt230.2.2.1 bt230.2.2.2 (bt a0 0) t214 t217 (wrap64 (t220)) bt224.1 bt224.2.1 bt224.2.2.1 bt224.2.2.2.1 bt230.1 bt230.2.1 0 0))) else (if (bt a0 0) = 4 then ((api_Prefix.f k t221 t222).bind fun bt234 => (msg_Get.j0 k bt234.2.2.2.2.1 bt234.2.2.2.2.2 (bt a0 0) t214 t217 (wrap64 (t220)) bt234.1 bt234.2.1 bt234.2.2.1 bt234.2.2.2.1 0 0 0 0)) else (if (bt a0 0) = 5 then ((num_Reader_Many.f k t221 t222 65536).bind fun bt240 => ((num_Reader_Many.f k bt240.2.1 bt240.2.2 1048576).bind fun bt243 => (msg_Get.j0 k bt243.2.1 bt243.2.2 (bt a0 0) t214 t217 (wrap64 (t220)) false 0 0 0 0 0 bt240.1 bt243.1))) else (if (bt a0 0) = 6 then ((num_Reader_Many.f k t221 t222 65536).bind fun bt246 => (msg_Get.j0 k bt246.2.1 bt246.2.2 (bt a0 0) t214 t217 (wrap64 (t220)) false 0 0 0 0 0 bt246.1 0)) else (msg_Get.j0 k t221 t222 (bt a0 0) t214 t217 (wrap64 (t220)) false 0 0 0 0 0 0 0))))) = some (r1, r2, r3, r4, r5, r6, r7, r8, r9, r10, r11, r12, r13) := H
    have A10 := Ax A100
    clear A100
    have HC11 := Ax H
    clear H
    go_enter Try.func8, Try.ntmps8
    try go_wp2_with (first | ((with_reducible refine gate_dst (N := 2) rfl ?_); refine box_event ?hg (N := 2) ?hd (cs := #[.int .u8 0, .int .i64 0, .int .u64 0, .int .i64 0, .bool false, .int .u64 0, .int .u64 0, .int .i64 0, .int .u8 0, .int .i64 0, .int .i64 0, .int .i64 0]) (t := 35) ?hr ?_; (case hd => rfl); (case hg => rfl); (case hr => first | (go_simp; done) | (go_simp; rfl)); intro gb212 hg w12 hbox hb; have n0_ := Bs0 HB hb; have n1_ := Ax (hbox); have n2_ := Gw0 HB hg; have n3_ := Gw0 HB hg; clear HB; have HB := n0_; have BK212 := n1_; have GW212 := n2_; have GE212 := n3_; clear n0_ n1_ n2_ n3_; clear hb hbox hg) | ((with_reducible refine gate_dst (N := 13) rfl ?_); refine box_event ?hg (N := 13) ?hd (cs := #[.string (a0.extract 1 a0.size), .int .i64 0]) (t := 69) ?hr ?_; (case hd => rfl); (case hg => rfl); (case hr => first | (go_simp; done) | (go_simp; rfl)); intro gb213 hg w13 hbox hb; have n0_ := Bx0 BK212 hb; have n1_ := Bs1 HB hb GE212.out; have n2_ := Ax (hbox); have n3_ := Gw1 HB hg GE212.out; have n4_ := Gw1 HB hg GE212.out; have n5_ := Nl0 BK212 hg; have n6_ := Nr0 BK212 hg; clear BK212; clear HB; have BK212 := n0_; have HB := n1_; have BK213 := n2_; have GW213 := n3_; have GE213 := n4_; have NB212_213 := n5_; have NB213_212 := n6_; clear n0_ n1_ n2_ n3_ n4_ n5_ n6_; clear hb hbox hg))
    have HIB213 := Ax (show IsS69 w w13 gb213 (a0.extract 1 a0.size) 0 from ⟨by first | exact BK213.out | simpa using BK213.out, GE213.out⟩)
    clear BK213
    replace BK212 := Ax (blk_drew BK212.out)
    replace HIB213 := Ax (IsS69.drew HIB213.out)
    replace HB := Ax (below_drew1 HB.out)
    have p7 : 0 ≤ (0 : Int) := (by omega)
    have q7 : 0 < a0.size := (by have : (0 : Int) < (a0.size : Int) := of_decide_eq_true (by first | (with_reducible assumption) | assumption); first | omega | (simp only [ByteArray.size_append]; omega))
    have hx7 : ∀ h : 0 < a0.size, ((a0[0]'h).toNat : Int) = bt a0 0 := bt_at a0 0
    clear p7
    have qi7 : (0 < (a0.size : Int)) = True := eq_true (of_decide_eq_true (by first | (with_reducible assumption) | assumption))
    replace q7 := eq_true q7
    refine start_ (n := 18) (S := fun w' => True) (ds := []) #[fa,fa,fa,fa,fa,fa,fa,fa,fa,fa,fa,fa,fa,fa,fa,fa,fa,fa] (by kernel_rfl) rfl rfl trivial (fun hHeld => ?_); refine with_tabW msg_Get.tab4 msg_Get.bits4 (fun HT_ HW_ => ?_)
    generalize w13.drew = w14 at BK212 HIB213 HB hHeld ⊢
    refine pure_ (i := 0) (N := some 14) (v := ?_) (a' := ?_) #[tr,fa,fa,fa,fa,fa,fa,fa,fa,fa,fa,fa,fa,fa,fa,fa,fa,fa] rfl rfl (any_of HT_.out (by kernel_rfl)) (fun _ _ _ h => h) (Or.inl ⟨by rfl, ?_⟩) ?_ ?_
    rotate_left
    ·intro w'
     go_simp
     with_reducible rfl
    rotate_left
    ·simp only [sP]
     rfl
    refine pure_ (i := 2) (N := some 16) (v := ?_) (a' := ?_) #[tr,fa,tr,fa,fa,fa,fa,fa,fa,fa,fa,fa,fa,fa,fa,fa,fa,fa] rfl rfl (any_of HT_.out (by kernel_rfl)) (fun _ _ _ h => h) (Or.inl ⟨by rfl, ?_⟩) ?_ ?_
    rotate_left
    ·intro w'
     go_simp
     with_reducible rfl
    rotate_left
    ·simp only [sP]
     rfl
    refine pure_ (i := 3) (N := some 17) (v := ?_) (a' := ?_) #[tr,fa,tr,tr,fa,fa,fa,fa,fa,fa,fa,fa,fa,fa,fa,fa,fa,fa] rfl rfl (any_of HT_.out (by kernel_rfl)) (fun _ _ _ h => h) (Or.inl ⟨by rfl, ?_⟩) ?_ ?_
    rotate_left
    ·intro w'
     go_simp
     with_reducible rfl
    rotate_left
    ·simp only [sP]
     rfl
    refine pure_ (i := 4) (N := some 18) (v := ?_) (a' := ?_) #[tr,fa,tr,tr,tr,fa,fa,fa,fa,fa,fa,fa,fa,fa,fa,fa,fa,fa] rfl rfl (any_of HT_.out (by kernel_rfl)) (fun _ _ _ h => h) (Or.inl ⟨by rfl, ?_⟩) ?_ ?_
    rotate_left
    ·intro w'
     go_simp
     with_reducible rfl
    rotate_left
    ·simp only [sP]
     rfl
    refine pure_ (i := 6) (N := some 20) (v := ?_) (a' := ?_) #[tr,fa,tr,tr,tr,fa,tr,fa,fa,fa,fa,fa,fa,fa,fa,fa,fa,fa] rfl rfl (any_of HT_.out (by kernel_rfl)) (fun _ _ _ h => h) (Or.inl ⟨by rfl, ?_⟩) ?_ ?_
    rotate_left
    ·intro w'
     go_simp
     with_reducible rfl
    rotate_left
    ·simp only [sP]
     rfl
    refine pure_ (i := 7) (N := some 21) (v := ?_) (a' := ?_) #[tr,fa,tr,tr,tr,fa,tr,tr,fa,fa,fa,fa,fa,fa,fa,fa,fa,fa] rfl rfl (any_of HT_.out (by kernel_rfl)) (fun _ _ _ h => h) (Or.inl ⟨by rfl, ?_⟩) ?_ ?_
    rotate_left
    ·intro w'
     go_simp
     with_reducible rfl
    rotate_left
    ·simp only [sP]
     rfl
    refine pure_ (i := 8) (N := some 22) (v := ?_) (a' := ?_) #[tr,fa,tr,tr,tr,fa,tr,tr,tr,fa,fa,fa,fa,fa,fa,fa,fa,fa] rfl rfl (any_of HT_.out (by kernel_rfl)) (fun _ _ _ h => h) (Or.inl ⟨by rfl, ?_⟩) ?_ ?_
    rotate_left
    ·intro w'
     go_simp
     with_reducible rfl
    rotate_left
    ·simp only [sP]
     rfl
    refine pure_ (i := 10) (N := some 24) (v := ?_) (a' := ?_) #[tr,fa,tr,tr,tr,fa,tr,tr,tr,fa,tr,fa,fa,fa,fa,fa,fa,fa] rfl rfl (any_of HT_.out (by kernel_rfl)) (fun _ _ _ h => h) (Or.inl ⟨by rfl, ?_⟩) ?_ ?_
    rotate_left
    ·intro w'
     go_simp
     with_reducible rfl
    rotate_left
    ·simp only [sP]
     rfl
    refine pure_ (i := 11) (N := some 25) (v := ?_) (a' := ?_) #[tr,fa,tr,tr,tr,fa,tr,tr,tr,fa,tr,tr,fa,fa,fa,fa,fa,fa] rfl rfl (any_of HT_.out (by kernel_rfl)) (fun _ _ _ h => h) (Or.inl ⟨by rfl, ?_⟩) ?_ ?_
    rotate_left
    ·intro w'
     go_simp
     with_reducible rfl
    rotate_left
    ·simp only [sP]
     rfl
    refine pure_ (i := 12) (N := some 26) (v := ?_) (a' := ?_) #[tr,fa,tr,tr,tr,fa,tr,tr,tr,fa,tr,tr,tr,fa,fa,fa,fa,fa] rfl rfl (any_of HT_.out (by kernel_rfl)) (fun _ _ _ h => h) (Or.inl ⟨by rfl, ?_⟩) ?_ ?_
    rotate_left
    ·intro w'
     go_simp
     with_reducible rfl
    rotate_left
    ·simp only [sP]
     rfl
    refine take_ (i := 1) (N := some 15) (v := ?_) (a' := ?_) #[tr,tr,tr,tr,tr,fa,tr,tr,tr,fa,tr,tr,tr,fa,fa,fa,fa,fa] rfl rfl (take_ofW HT_.out HW_.out (by kernel_rfl)) (fun _ _ _ h => h) (Or.inl ⟨by rfl, ?_⟩) hHeld ?_ ?_
    rotate_left
    ·intro w' _
     go_simp
     with_reducible rfl
    rotate_left
    ·simp only [sP]
     rfl
    refine join_ (σ := Nat) 1 #[tr,tr,tr,tr,tr,tr,tr,tr,tr,tr,tr,tr,tr,tr,tr,tr,tr,fa] (fun s_ => [(19, .int .i64 t214), (23, .int .u64 t217), (27, .int .u64 t220), (5, .pointer (some ⟨s_, 0, none⟩)), (28, .int .i64 (wrap64 (t220))), (29, .agg #[.int .u8 (bt a0 0), .int .i64 t214, .int .u64 t217, .int .i64 (wrap64 (t220)), .bool false, .int .u64 0, .int .u64 0, .int .i64 0, .int .u8 0, .int .i64 0, .int .i64 0, .int .i64 0])]) (fun s_ w' => (w'.heap[gb212]? = some (.cells #[.int .u8 0, .int .i64 0, .int .u64 0, .int .i64 0, .bool false, .int .u64 0, .int .u64 0, .int .i64 0, .int .u8 0, .int .i64 0, .int .i64 0, .int .i64 0] 35 (0, 0))) ∧ (w'.heap[s_]? = some (.cells #[.int .u8 0, .int .i64 0, .int .u64 0, .int .i64 0, .bool false, .int .u64 0, .int .u64 0, .int .i64 0, .int .u8 0, .int .i64 0, .int .i64 0, .int .i64 0] 35 (0, 0))) ∧ (w.heap.size ≤ s_) ∧ (w.heap.size ≤ s_) ∧ (gb213 ≠ s_) ∧ (s_ ≠ gb213) ∧ (gb212 ≠ s_) ∧ (s_ ≠ gb212) ∧ (IsS69 w w' gb213 t221 t222) ∧ (Below w.heap.size w w')) ?_ ?_
    rotate_left
    ·intro hCont
     refine two_ (i := 5) (j := 16) (Ni := some 19) (Nj := some 5) #[tr,tr,tr,tr,tr,tr,tr,tr,tr,fa,tr,tr,tr,fa,fa,fa,fa,fa] #[tr,tr,tr,tr,tr,fa,tr,tr,tr,fa,tr,tr,tr,fa,fa,fa,tr,fa] rfl rfl rfl rfl (two_of HT_.out (by kernel_rfl)) (by decide) (by decide) (fun K hK => ?_) (fun K hK => ?_)
     ·skip
      refine goes_ Try.func21 (by kernel_rfl) rfl #[.pointer (some ⟨gb213, 0, none⟩), .int .i64 1048576] (by rfl) rfl rfl gS ?_
      with_reducible refine (num_Reader_Many.calls69 k gb213 (a0.extract 1 a0.size) 0 1048576 t214 t215 t216 w _ ?side1 ?side2 A8.out).mono ?_
      (case side1 => repeat (first | (with_reducible first | exact HIB213.out | apply IsS69.alloc | apply IsS69.drewN | apply IsS69.drew | apply IsS69.set_0 | apply IsS69.set_1 | refine IsS69.far ?_ NB213_212.out _) | exact HIB213.out))
      (case side2 => repeat (first | (with_reducible first | exact HB.out | apply below_alloc | apply pw_below_drewN | apply below_drew1 | refine below_set ?_ (IsS69.ge HIB213.out) | refine below_set ?_ GE212.out) | exact HB.out))
      rintro e w15 ⟨rfl, hi, hb, hk⟩
      refine ⟨_, rfl, ?_⟩
      replace BK212 := Ax (KeepBut.blk hk (g' := gb212) (o := .cells #[.int .u8 0, .int .i64 0, .int .u64 0, .int .i64 0, .bool false, .int .u64 0, .int .u64 0, .int .i64 0, .int .u8 0, .int .i64 0, .int .i64 0, .int .i64 0] 35 (0, 0)) (bf0 BK212.out) NB212_213.out (by simp))
      replace HB := Ax (hb)
      replace HIB213 := Ax (hi)
      (try clear hb)
      (try clear hb2)
      (try clear hk)
      (try clear hi)
      refine hK.out _ _ trivial (fun hHeld => ?_)
      clear hK K
      refine norm_ (a' := ?_) ?_ ?_
      rotate_left
      ·show Act.put _ (some 19) _ = _
       simp only [sP]
       rfl
      refine two_ (i := 9) (j := 16) (Ni := some 23) (Nj := some 5) #[tr,tr,tr,tr,tr,tr,tr,tr,tr,tr,tr,tr,tr,fa,fa,fa,fa,fa] #[tr,tr,tr,tr,tr,tr,tr,tr,tr,fa,tr,tr,tr,fa,fa,fa,tr,fa] rfl rfl rfl rfl (two_of HT_.out (by kernel_rfl)) (by decide) (by decide) (fun K hK => ?_) (fun K hK => ?_)
      ·skip
       refine goes_ Try.func22 (by kernel_rfl) rfl #[.pointer (some ⟨gb213, 0, none⟩)] (by rfl) rfl rfl gS ?_
       with_reducible refine (num_Reader_Num.calls69 k gb213 t215 t216 t217 t218 t219 w _ ?side1 ?side2 A9.out).mono ?_
       (case side1 => repeat (first | (with_reducible first | exact HIB213.out | apply IsS69.alloc | apply IsS69.drewN | apply IsS69.drew | apply IsS69.set_0 | apply IsS69.set_1 | refine IsS69.far ?_ NB213_212.out _) | exact HIB213.out))
       (case side2 => repeat (first | (with_reducible first | exact HB.out | apply below_alloc | apply pw_below_drewN | apply below_drew1 | refine below_set ?_ (IsS69.ge HIB213.out) | refine below_set ?_ GE212.out) | exact HB.out))
       rintro e w16 ⟨rfl, hi, hb, hk⟩
       refine ⟨_, rfl, ?_⟩
       replace BK212 := Ax (KeepBut.blk hk (g' := gb212) (o := .cells #[.int .u8 0, .int .i64 0, .int .u64 0, .int .i64 0, .bool false, .int .u64 0, .int .u64 0, .int .i64 0, .int .u8 0, .int .i64 0, .int .i64 0, .int .i64 0] 35 (0, 0)) (bf0 BK212.out) NB212_213.out (by simp))
       replace HB := Ax (hb)
       replace HIB213 := Ax (hi)
       (try clear hb)
       (try clear hb2)
       (try clear hk)
       (try clear hi)
       refine hK.out _ _ trivial (fun hHeld => ?_)
       clear hK K
       refine norm_ (a' := ?_) ?_ ?_
       rotate_left
       ·show Act.put _ (some 23) _ = _
        simp only [sP]
        rfl
       refine two_ (i := 13) (j := 16) (Ni := some 27) (Nj := some 5) #[tr,tr,tr,tr,tr,tr,tr,tr,tr,tr,tr,tr,tr,tr,fa,fa,fa,fa] #[tr,tr,tr,tr,tr,tr,tr,tr,tr,tr,tr,tr,tr,fa,fa,fa,tr,fa] rfl rfl rfl rfl (two_of HT_.out (by kernel_rfl)) (by decide) (by decide) (fun K hK => ?_) (fun K hK => ?_)
       ·skip
        refine goes_ Try.func22 (by kernel_rfl) rfl #[.pointer (some ⟨gb213, 0, none⟩)] (by rfl) rfl rfl gS ?_
        with_reducible refine (num_Reader_Num.calls69 k gb213 t218 t219 t220 t221 t222 w _ ?side1 ?side2 A10.out).mono ?_
        (case side1 => repeat (first | (with_reducible first | exact HIB213.out | apply IsS69.alloc | apply IsS69.drewN | apply IsS69.drew | apply IsS69.set_0 | apply IsS69.set_1 | refine IsS69.far ?_ NB213_212.out _) | exact HIB213.out))
        (case side2 => repeat (first | (with_reducible first | exact HB.out | apply below_alloc | apply pw_below_drewN | apply below_drew1 | refine below_set ?_ (IsS69.ge HIB213.out) | refine below_set ?_ GE212.out) | exact HB.out))
        rintro e w17 ⟨rfl, hi, hb, hk⟩
        refine ⟨_, rfl, ?_⟩
        replace BK212 := Ax (KeepBut.blk hk (g' := gb212) (o := .cells #[.int .u8 0, .int .i64 0, .int .u64 0, .int .i64 0, .bool false, .int .u64 0, .int .u64 0, .int .i64 0, .int .u8 0, .int .i64 0, .int .i64 0, .int .i64 0] 35 (0, 0)) (bf0 BK212.out) NB212_213.out (by simp))
        replace HB := Ax (hb)
        replace HIB213 := Ax (hi)
        (try clear hb)
        (try clear hb2)
        (try clear hk)
        (try clear hi)
        refine hK.out _ _ trivial (fun hHeld => ?_)
        clear hK K
        refine norm_ (a' := ?_) ?_ ?_
        rotate_left
        ·show Act.put _ (some 27) _ = _
         simp only [sP]
         rfl
        refine pure_ (i := 14) (N := some 28) (v := ?_) (a' := ?_) #[tr,tr,tr,tr,tr,tr,tr,tr,tr,tr,tr,tr,tr,tr,tr,fa,fa,fa] rfl rfl (any_of HT_.out (by kernel_rfl)) (fun _ _ _ h => h) (Or.inl ⟨by rfl, ?_⟩) ?_ ?_
        rotate_left
        ·intro w'
         go_simp
         with_reducible rfl
        rotate_left
        ·simp only [sP]
         rfl
        refine pure_ (i := 15) (N := some 29) (v := ?_) (a' := ?_) #[tr,tr,tr,tr,tr,tr,tr,tr,tr,tr,tr,tr,tr,tr,tr,tr,fa,fa] rfl rfl (any_of HT_.out (by kernel_rfl)) (fun _ _ _ h => h) (Or.inl ⟨by rfl, ?_⟩) ?_ ?_
        rotate_left
        ·intro w'
         go_simp
         with_reducible rfl
        rotate_left
        ·simp only [sP]
         rfl
        refine one_ (i := 16) (N := some 5) #[tr,tr,tr,tr,tr,tr,tr,tr,tr,tr,tr,tr,tr,tr,tr,tr,tr,fa] rfl rfl (one_of HT_.out (by kernel_rfl)) (by decide) (fun K hK => ?_)
        refine box_step ?hg (N := 5) ?hd (cs := #[.int .u8 0, .int .i64 0, .int .u64 0, .int .i64 0, .bool false, .int .u64 0, .int .u64 0, .int .i64 0, .int .u8 0, .int .i64 0, .int .i64 0, .int .i64 0]) (t := 35) ?hr ?_; (case hd => rfl); (case hg => rfl); (case hr => first | (go_simp; done) | (go_simp; rfl))
        intro gb223 hg w18 hbox hb
        have n0_ := Bx0 BK212 hb
        have n1_ := Ax (IsS69.below (by repeat (first | (with_reducible first | exact HIB213.out | apply IsS69.alloc | apply IsS69.drewN | apply IsS69.drew | apply IsS69.set_0 | apply IsS69.set_1 | refine IsS69.far ?_ NB213_212.out _) | exact HIB213.out)) hb)
        have n2_ := Bs2 HB hb (IsS69.ge HIB213.out) GE212.out
        have n3_ := Ax (hbox)
        have n4_ := Gw2 HB hg (IsS69.ge HIB213.out) GE212.out
        have n5_ := Gw2 HB hg (IsS69.ge HIB213.out) GE212.out
        have n6_ := Nl0 BK212 hg
        have n7_ := Nr0 BK212 hg
        have n8_ := Ax ((by rw [hg]; exact Nat.ne_of_lt (IsS69.lt (show IsS69 w _ gb213 t221 t222 from by repeat (first | (with_reducible first | exact HIB213.out | apply IsS69.alloc | apply IsS69.drewN | apply IsS69.drew | apply IsS69.set_0 | apply IsS69.set_1 | refine IsS69.far ?_ NB213_212.out _) | exact HIB213.out))) : gb213 ≠ gb223))
        have n9_ := Ax ((by rw [hg]; exact Nat.ne_of_gt (IsS69.lt (show IsS69 w _ gb213 t221 t222 from by repeat (first | (with_reducible first | exact HIB213.out | apply IsS69.alloc | apply IsS69.drewN | apply IsS69.drew | apply IsS69.set_0 | apply IsS69.set_1 | refine IsS69.far ?_ NB213_212.out _) | exact HIB213.out))) : gb223 ≠ gb213))
        clear BK212
        clear HIB213
        clear HB
        have BK212 := n0_
        have HIB213 := n1_
        have HB := n2_
        have BK223 := n3_
        have GW223 := n4_
        have GE223 := n5_
        have NB212_223 := n6_
        have NB223_212 := n7_
        have NB213_223 := n8_
        have NB223_213 := n9_
        clear n0_ n1_ n2_ n3_ n4_ n5_ n6_ n7_ n8_ n9_
        clear hb hbox hg
        refine hK.out _ _ trivial (fun hHeld => ?_)
        clear hK K
        refine norm_ (a' := ?_) ?_ ?_
        rotate_left
        ·show Act.put _ (some 5) _ = _
         simp only [sP]
         rfl
        exact norm_ (by simp only [putAll, Act.put, List.setIfInBounds_toArray, List.set_cons_zero, List.set_cons_succ]) (hCont (gb223) _ ⟨(bf0 BK212.out), (bf0 BK223.out), GW223.out, GE223.out, NB213_223.out, NB223_213.out, NB212_223.out, NB223_212.out, (by repeat (first | (with_reducible first | exact HIB213.out | apply IsS69.alloc | apply IsS69.drewN | apply IsS69.drew | apply IsS69.set_0 | apply IsS69.set_1 | refine IsS69.far ?_ NB213_212.out _ | refine IsS69.far ?_ NB213_223.out _) | exact HIB213.out)), (bw3 HB.out (IsS69.ge HIB213.out) GE212.out GE223.out)⟩)
       ·skip
        refine box_step ?hg (N := 5) ?hd (cs := #[.int .u8 0, .int .i64 0, .int .u64 0, .int .i64 0, .bool false, .int .u64 0, .int .u64 0, .int .i64 0, .int .u8 0, .int .i64 0, .int .i64 0, .int .i64 0]) (t := 35) ?hr ?_; (case hd => rfl); (case hg => rfl); (case hr => first | (go_simp; done) | (go_simp; rfl))
        intro gb223 hg w17 hbox hb
        have n0_ := Bx0 BK212 hb
        have n1_ := Ax (IsS69.below (by repeat (first | (with_reducible first | exact HIB213.out | apply IsS69.alloc | apply IsS69.drewN | apply IsS69.drew | apply IsS69.set_0 | apply IsS69.set_1 | refine IsS69.far ?_ NB213_212.out _) | exact HIB213.out)) hb)
        have n2_ := Bs2 HB hb (IsS69.ge HIB213.out) GE212.out
        have n3_ := Ax (hbox)
        have n4_ := Gw2 HB hg (IsS69.ge HIB213.out) GE212.out
        have n5_ := Gw2 HB hg (IsS69.ge HIB213.out) GE212.out
        have n6_ := Nl0 BK212 hg
        have n7_ := Nr0 BK212 hg
        have n8_ := Ax ((by rw [hg]; exact Nat.ne_of_lt (IsS69.lt (show IsS69 w _ gb213 t218 t219 from by repeat (first | (with_reducible first | exact HIB213.out | apply IsS69.alloc | apply IsS69.drewN | apply IsS69.drew | apply IsS69.set_0 | apply IsS69.set_1 | refine IsS69.far ?_ NB213_212.out _) | exact HIB213.out))) : gb213 ≠ gb223))
        have n9_ := Ax ((by rw [hg]; exact Nat.ne_of_gt (IsS69.lt (show IsS69 w _ gb213 t218 t219 from by repeat (first | (with_reducible first | exact HIB213.out | apply IsS69.alloc | apply IsS69.drewN | apply IsS69.drew | apply IsS69.set_0 | apply IsS69.set_1 | refine IsS69.far ?_ NB213_212.out _) | exact HIB213.out))) : gb223 ≠ gb213))
        clear BK212
        clear HIB213
        clear HB
        have BK212 := n0_
        have HIB213 := n1_
        have HB := n2_
        have BK223 := n3_
        have GW223 := n4_
        have GE223 := n5_
        have NB212_223 := n6_
        have NB223_212 := n7_
        have NB213_223 := n8_
        have NB223_213 := n9_
        clear n0_ n1_ n2_ n3_ n4_ n5_ n6_ n7_ n8_ n9_
        clear hb hbox hg
        refine hK.out _ _ trivial (fun hHeld => ?_)
        clear hK K
        refine norm_ (a' := ?_) ?_ ?_
        rotate_left
        ·show Act.put _ (some 5) _ = _
         simp only [sP]
         rfl
        refine one_ (i := 13) (N := some 27) #[tr,tr,tr,tr,tr,tr,tr,tr,tr,tr,tr,tr,tr,tr,fa,fa,tr,fa] rfl rfl (one_of HT_.out (by kernel_rfl)) (by decide) (fun K hK => ?_)
        refine goes_ Try.func22 (by kernel_rfl) rfl #[.pointer (some ⟨gb213, 0, none⟩)] (by rfl) rfl rfl gS ?_
        with_reducible refine (num_Reader_Num.calls69 k gb213 t218 t219 t220 t221 t222 w _ ?side1 ?side2 A10.out).mono ?_
        (case side1 => repeat (first | (with_reducible first | exact HIB213.out | apply IsS69.alloc | apply IsS69.drewN | apply IsS69.drew | apply IsS69.set_0 | apply IsS69.set_1 | refine IsS69.far ?_ NB213_212.out _ | refine IsS69.far ?_ NB213_223.out _) | exact HIB213.out))
        (case side2 => repeat (first | (with_reducible first | exact HB.out | apply below_alloc | apply pw_below_drewN | apply below_drew1 | refine below_set ?_ (IsS69.ge HIB213.out) | refine below_set ?_ GE212.out | refine below_set ?_ GE223.out) | exact HB.out))
        rintro e w18 ⟨rfl, hi, hb, hk⟩
        refine ⟨_, rfl, ?_⟩
        replace BK212 := Ax (KeepBut.blk hk (g' := gb212) (o := .cells #[.int .u8 0, .int .i64 0, .int .u64 0, .int .i64 0, .bool false, .int .u64 0, .int .u64 0, .int .i64 0, .int .u8 0, .int .i64 0, .int .i64 0, .int .i64 0] 35 (0, 0)) (bf0 BK212.out) NB212_213.out (by simp))
        replace BK223 := Ax (KeepBut.blk hk (g' := gb223) (o := .cells #[.int .u8 0, .int .i64 0, .int .u64 0, .int .i64 0, .bool false, .int .u64 0, .int .u64 0, .int .i64 0, .int .u8 0, .int .i64 0, .int .i64 0, .int .i64 0] 35 (0, 0)) (bf0 BK223.out) NB223_213.out (by simp))
        replace HB := Ax (hb)
        replace HIB213 := Ax (hi)
        (try clear hb)
        (try clear hb2)
        (try clear hk)
        (try clear hi)
        refine hK.out _ _ trivial (fun hHeld => ?_)
        clear hK K
        refine norm_ (a' := ?_) ?_ ?_
        rotate_left
        ·show Act.put _ (some 27) _ = _
         simp only [sP]
         rfl
        refine pure_ (i := 14) (N := some 28) (v := ?_) (a' := ?_) #[tr,tr,tr,tr,tr,tr,tr,tr,tr,tr,tr,tr,tr,tr,tr,fa,tr,fa] rfl rfl (any_of HT_.out (by kernel_rfl)) (fun _ _ _ h => h) (Or.inl ⟨by rfl, ?_⟩) ?_ ?_
        rotate_left
        ·intro w'
         go_simp
         with_reducible rfl
        rotate_left
        ·simp only [sP]
         rfl
        refine pure_ (i := 15) (N := some 29) (v := ?_) (a' := ?_) #[tr,tr,tr,tr,tr,tr,tr,tr,tr,tr,tr,tr,tr,tr,tr,tr,tr,fa] rfl rfl (any_of HT_.out (by kernel_rfl)) (fun _ _ _ h => h) (Or.inl ⟨by rfl, ?_⟩) ?_ ?_
        rotate_left
        ·intro w'
         go_simp
         with_reducible rfl
        rotate_left
        ·simp only [sP]
         rfl
        exact norm_ (by simp only [putAll, Act.put, List.setIfInBounds_toArray, List.set_cons_zero, List.set_cons_succ]) (hCont (gb223) _ ⟨(bf0 BK212.out), (bf0 BK223.out), GW223.out, GE223.out, NB213_223.out, NB223_213.out, NB212_223.out, NB223_212.out, (by repeat (first | (with_reducible first | exact HIB213.out | apply IsS69.alloc | apply IsS69.drewN | apply IsS69.drew | apply IsS69.set_0 | apply IsS69.set_1 | refine IsS69.far ?_ NB213_212.out _ | refine IsS69.far ?_ NB213_223.out _) | exact HIB213.out)), (bw3 HB.out (IsS69.ge HIB213.out) GE212.out GE223.out)⟩)
      ·skip
       refine box_step ?hg (N := 5) ?hd (cs := #[.int .u8 0, .int .i64 0, .int .u64 0, .int .i64 0, .bool false, .int .u64 0, .int .u64 0, .int .i64 0, .int .u8 0, .int .i64 0, .int .i64 0, .int .i64 0]) (t := 35) ?hr ?_; (case hd => rfl); (case hg => rfl); (case hr => first | (go_simp; done) | (go_simp; rfl))
       intro gb223 hg w16 hbox hb
       have n0_ := Bx0 BK212 hb
       have n1_ := Ax (IsS69.below (by repeat (first | (with_reducible first | exact HIB213.out | apply IsS69.alloc | apply IsS69.drewN | apply IsS69.drew | apply IsS69.set_0 | apply IsS69.set_1 | refine IsS69.far ?_ NB213_212.out _) | exact HIB213.out)) hb)
       have n2_ := Bs2 HB hb (IsS69.ge HIB213.out) GE212.out
       have n3_ := Ax (hbox)
       have n4_ := Gw2 HB hg (IsS69.ge HIB213.out) GE212.out
       have n5_ := Gw2 HB hg (IsS69.ge HIB213.out) GE212.out
       have n6_ := Nl0 BK212 hg
       have n7_ := Nr0 BK212 hg
       have n8_ := Ax ((by rw [hg]; exact Nat.ne_of_lt (IsS69.lt (show IsS69 w _ gb213 t215 t216 from by repeat (first | (with_reducible first | exact HIB213.out | apply IsS69.alloc | apply IsS69.drewN | apply IsS69.drew | apply IsS69.set_0 | apply IsS69.set_1 | refine IsS69.far ?_ NB213_212.out _) | exact HIB213.out))) : gb213 ≠ gb223))
       have n9_ := Ax ((by rw [hg]; exact Nat.ne_of_gt (IsS69.lt (show IsS69 w _ gb213 t215 t216 from by repeat (first | (with_reducible first | exact HIB213.out | apply IsS69.alloc | apply IsS69.drewN | apply IsS69.drew | apply IsS69.set_0 | apply IsS69.set_1 | refine IsS69.far ?_ NB213_212.out _) | exact HIB213.out))) : gb223 ≠ gb213))
       clear BK212
       clear HIB213
       clear HB
       have BK212 := n0_
       have HIB213 := n1_
       have HB := n2_
       have BK223 := n3_
       have GW223 := n4_
       have GE223 := n5_
       have NB212_223 := n6_
       have NB223_212 := n7_
       have NB213_223 := n8_
       have NB223_213 := n9_
       clear n0_ n1_ n2_ n3_ n4_ n5_ n6_ n7_ n8_ n9_
       clear hb hbox hg
       refine hK.out _ _ trivial (fun hHeld => ?_)
       clear hK K
       refine norm_ (a' := ?_) ?_ ?_
       rotate_left
       ·show Act.put _ (some 5) _ = _
        simp only [sP]
        rfl
       refine one_ (i := 9) (N := some 23) #[tr,tr,tr,tr,tr,tr,tr,tr,tr,tr,tr,tr,tr,fa,fa,fa,tr,fa] rfl rfl (one_of HT_.out (by kernel_rfl)) (by decide) (fun K hK => ?_)
       refine goes_ Try.func22 (by kernel_rfl) rfl #[.pointer (some ⟨gb213, 0, none⟩)] (by rfl) rfl rfl gS ?_
       with_reducible refine (num_Reader_Num.calls69 k gb213 t215 t216 t217 t218 t219 w _ ?side1 ?side2 A9.out).mono ?_
       (case side1 => repeat (first | (with_reducible first | exact HIB213.out | apply IsS69.alloc | apply IsS69.drewN | apply IsS69.drew | apply IsS69.set_0 | apply IsS69.set_1 | refine IsS69.far ?_ NB213_212.out _ | refine IsS69.far ?_ NB213_223.out _) | exact HIB213.out))
       (case side2 => repeat (first | (with_reducible first | exact HB.out | apply below_alloc | apply pw_below_drewN | apply below_drew1 | refine below_set ?_ (IsS69.ge HIB213.out) | refine below_set ?_ GE212.out | refine below_set ?_ GE223.out) | exact HB.out))
       rintro e w17 ⟨rfl, hi, hb, hk⟩
       refine ⟨_, rfl, ?_⟩
       replace BK212 := Ax (KeepBut.blk hk (g' := gb212) (o := .cells #[.int .u8 0, .int .i64 0, .int .u64 0, .int .i64 0, .bool false, .int .u64 0, .int .u64 0, .int .i64 0, .int .u8 0, .int .i64 0, .int .i64 0, .int .i64 0] 35 (0, 0)) (bf0 BK212.out) NB212_213.out (by simp))
       replace BK223 := Ax (KeepBut.blk hk (g' := gb223) (o := .cells #[.int .u8 0, .int .i64 0, .int .u64 0, .int .i64 0, .bool false, .int .u64 0, .int .u64 0, .int .i64 0, .int .u8 0, .int .i64 0, .int .i64 0, .int .i64 0] 35 (0, 0)) (bf0 BK223.out) NB223_213.out (by simp))
       replace HB := Ax (hb)
       replace HIB213 := Ax (hi)
       (try clear hb)
       (try clear hb2)
       (try clear hk)
       (try clear hi)
       refine hK.out _ _ trivial (fun hHeld => ?_)
       clear hK K
       refine norm_ (a' := ?_) ?_ ?_
       rotate_left
       ·show Act.put _ (some 23) _ = _
        simp only [sP]
        rfl
       refine one_ (i := 13) (N := some 27) #[tr,tr,tr,tr,tr,tr,tr,tr,tr,tr,tr,tr,tr,tr,fa,fa,tr,fa] rfl rfl (one_of HT_.out (by kernel_rfl)) (by decide) (fun K hK => ?_)
       refine goes_ Try.func22 (by kernel_rfl) rfl #[.pointer (some ⟨gb213, 0, none⟩)] (by rfl) rfl rfl gS ?_
       with_reducible refine (num_Reader_Num.calls69 k gb213 t218 t219 t220 t221 t222 w _ ?side1 ?side2 A10.out).mono ?_
       (case side1 => repeat (first | (with_reducible first | exact HIB213.out | apply IsS69.alloc | apply IsS69.drewN | apply IsS69.drew | apply IsS69.set_0 | apply IsS69.set_1 | refine IsS69.far ?_ NB213_212.out _ | refine IsS69.far ?_ NB213_223.out _) | exact HIB213.out))
       (case side2 => repeat (first | (with_reducible first | exact HB.out | apply below_alloc | apply pw_below_drewN | apply below_drew1 | refine below_set ?_ (IsS69.ge HIB213.out) | refine below_set ?_ GE212.out | refine below_set ?_ GE223.out) | exact HB.out))
       rintro e w18 ⟨rfl, hi, hb, hk⟩
       refine ⟨_, rfl, ?_⟩
       replace BK212 := Ax (KeepBut.blk hk (g' := gb212) (o := .cells #[.int .u8 0, .int .i64 0, .int .u64 0, .int .i64 0, .bool false, .int .u64 0, .int .u64 0, .int .i64 0, .int .u8 0, .int .i64 0, .int .i64 0, .int .i64 0] 35 (0, 0)) (bf0 BK212.out) NB212_213.out (by simp))
       replace BK223 := Ax (KeepBut.blk hk (g' := gb223) (o := .cells #[.int .u8 0, .int .i64 0, .int .u64 0, .int .i64 0, .bool false, .int .u64 0, .int .u64 0, .int .i64 0, .int .u8 0, .int .i64 0, .int .i64 0, .int .i64 0] 35 (0, 0)) (bf0 BK223.out) NB223_213.out (by simp))
       replace HB := Ax (hb)
       replace HIB213 := Ax (hi)
       (try clear hb)
       (try clear hb2)
       (try clear hk)
       (try clear hi)
       refine hK.out _ _ trivial (fun hHeld => ?_)
       clear hK K
       refine norm_ (a' := ?_) ?_ ?_
       rotate_left
       ·show Act.put _ (some 27) _ = _
        simp only [sP]
        rfl
       refine pure_ (i := 14) (N := some 28) (v := ?_) (a' := ?_) #[tr,tr,tr,tr,tr,tr,tr,tr,tr,tr,tr,tr,tr,tr,tr,fa,tr,fa] rfl rfl (any_of HT_.out (by kernel_rfl)) (fun _ _ _ h => h) (Or.inl ⟨by rfl, ?_⟩) ?_ ?_
       rotate_left
       ·intro w'
        go_simp
        with_reducible rfl
       rotate_left
       ·simp only [sP]
        rfl
       refine pure_ (i := 15) (N := some 29) (v := ?_) (a' := ?_) #[tr,tr,tr,tr,tr,tr,tr,tr,tr,tr,tr,tr,tr,tr,tr,tr,tr,fa] rfl rfl (any_of HT_.out (by kernel_rfl)) (fun _ _ _ h => h) (Or.inl ⟨by rfl, ?_⟩) ?_ ?_
       rotate_left
       ·intro w'
        go_simp
        with_reducible rfl
       rotate_left
       ·simp only [sP]
        rfl
       exact norm_ (by simp only [putAll, Act.put, List.setIfInBounds_toArray, List.set_cons_zero, List.set_cons_succ]) (hCont (gb223) _ ⟨(bf0 BK212.out), (bf0 BK223.out), GW223.out, GE223.out, NB213_223.out, NB223_213.out, NB212_223.out, NB223_212.out, (by repeat (first | (with_reducible first | exact HIB213.out | apply IsS69.alloc | apply IsS69.drewN | apply IsS69.drew | apply IsS69.set_0 | apply IsS69.set_1 | refine IsS69.far ?_ NB213_212.out _ | refine IsS69.far ?_ NB213_223.out _) | exact HIB213.out)), (bw3 HB.out (IsS69.ge HIB213.out) GE212.out GE223.out)⟩)
     ·skip
      refine box_step ?hg (N := 5) ?hd (cs := #[.int .u8 0, .int .i64 0, .int .u64 0, .int .i64 0, .bool false, .int .u64 0, .int .u64 0, .int .i64 0, .int .u8 0, .int .i64 0, .int .i64 0, .int .i64 0]) (t := 35) ?hr ?_; (case hd => rfl); (case hg => rfl); (case hr => first | (go_simp; done) | (go_simp; rfl))
      intro gb223 hg w15 hbox hb
      have n0_ := Bx0 BK212 hb
      have n1_ := Ax (IsS69.below (by repeat (first | (with_reducible first | exact HIB213.out | apply IsS69.alloc | apply IsS69.drewN | apply IsS69.drew | apply IsS69.set_0 | apply IsS69.set_1 | refine IsS69.far ?_ NB213_212.out _) | exact HIB213.out)) hb)
      have n2_ := Bs2 HB hb (IsS69.ge HIB213.out) GE212.out
      have n3_ := Ax (hbox)
      have n4_ := Gw2 HB hg (IsS69.ge HIB213.out) GE212.out
      have n5_ := Gw2 HB hg (IsS69.ge HIB213.out) GE212.out
      have n6_ := Nl0 BK212 hg
      have n7_ := Nr0 BK212 hg
      have n8_ := Ax ((by rw [hg]; exact Nat.ne_of_lt (IsS69.lt (show IsS69 w _ gb213 (a0.extract 1 a0.size) 0 from by repeat (first | (with_reducible first | exact HIB213.out | apply IsS69.alloc | apply IsS69.drewN | apply IsS69.drew | apply IsS69.set_0 | apply IsS69.set_1 | refine IsS69.far ?_ NB213_212.out _) | exact HIB213.out))) : gb213 ≠ gb223))
      have n9_ := Ax ((by rw [hg]; exact Nat.ne_of_gt (IsS69.lt (show IsS69 w _ gb213 (a0.extract 1 a0.size) 0 from by repeat (first | (with_reducible first | exact HIB213.out | apply IsS69.alloc | apply IsS69.drewN | apply IsS69.drew | apply IsS69.set_0 | apply IsS69.set_1 | refine IsS69.far ?_ NB213_212.out _) | exact HIB213.out))) : gb223 ≠ gb213))
      clear BK212
      clear HIB213
      clear HB
      have BK212 := n0_
      have HIB213 := n1_
      have HB := n2_
      have BK223 := n3_
      have GW223 := n4_
      have GE223 := n5_
      have NB212_223 := n6_
      have NB223_212 := n7_
      have NB213_223 := n8_
      have NB223_213 := n9_
      clear n0_ n1_ n2_ n3_ n4_ n5_ n6_ n7_ n8_ n9_
      clear hb hbox hg
      refine hK.out _ _ trivial (fun hHeld => ?_)
      clear hK K
      refine norm_ (a' := ?_) ?_ ?_
      rotate_left
      ·show Act.put _ (some 5) _ = _
       simp only [sP]
       rfl
      refine one_ (i := 5) (N := some 19) #[tr,tr,tr,tr,tr,tr,tr,tr,tr,fa,tr,tr,tr,fa,fa,fa,tr,fa] rfl rfl (one_of HT_.out (by kernel_rfl)) (by decide) (fun K hK => ?_)
      refine goes_ Try.func21 (by kernel_rfl) rfl #[.pointer (some ⟨gb213, 0, none⟩), .int .i64 1048576] (by rfl) rfl rfl gS ?_
      with_reducible refine (num_Reader_Many.calls69 k gb213 (a0.extract 1 a0.size) 0 1048576 t214 t215 t216 w _ ?side1 ?side2 A8.out).mono ?_
      (case side1 => repeat (first | (with_reducible first | exact HIB213.out | apply IsS69.alloc | apply IsS69.drewN | apply IsS69.drew | apply IsS69.set_0 | apply IsS69.set_1 | refine IsS69.far ?_ NB213_212.out _ | refine IsS69.far ?_ NB213_223.out _) | exact HIB213.out))
      (case side2 => repeat (first | (with_reducible first | exact HB.out | apply below_alloc | apply pw_below_drewN | apply below_drew1 | refine below_set ?_ (IsS69.ge HIB213.out) | refine below_set ?_ GE212.out | refine below_set ?_ GE223.out) | exact HB.out))
      rintro e w16 ⟨rfl, hi, hb, hk⟩
      refine ⟨_, rfl, ?_⟩
      replace BK212 := Ax (KeepBut.blk hk (g' := gb212) (o := .cells #[.int .u8 0, .int .i64 0, .int .u64 0, .int .i64 0, .bool false, .int .u64 0, .int .u64 0, .int .i64 0, .int .u8 0, .int .i64 0, .int .i64 0, .int .i64 0] 35 (0, 0)) (bf0 BK212.out) NB212_213.out (by simp))
      replace BK223 := Ax (KeepBut.blk hk (g' := gb223) (o := .cells #[.int .u8 0, .int .i64 0, .int .u64 0, .int .i64 0, .bool false, .int .u64 0, .int .u64 0, .int .i64 0, .int .u8 0, .int .i64 0, .int .i64 0, .int .i64 0] 35 (0, 0)) (bf0 BK223.out) NB223_213.out (by simp))
      replace HB := Ax (hb)
      replace HIB213 := Ax (hi)
      (try clear hb)
      (try clear hb2)
      (try clear hk)
      (try clear hi)
      refine hK.out _ _ trivial (fun hHeld => ?_)
      clear hK K
      refine norm_ (a' := ?_) ?_ ?_
      rotate_left
      ·show Act.put _ (some 19) _ = _
       simp only [sP]
       rfl
      refine one_ (i := 9) (N := some 23) #[tr,tr,tr,tr,tr,tr,tr,tr,tr,tr,tr,tr,tr,fa,fa,fa,tr,fa] rfl rfl (one_of HT_.out (by kernel_rfl)) (by decide) (fun K hK => ?_)
      refine goes_ Try.func22 (by kernel_rfl) rfl #[.pointer (some ⟨gb213, 0, none⟩)] (by rfl) rfl rfl gS ?_
      with_reducible refine (num_Reader_Num.calls69 k gb213 t215 t216 t217 t218 t219 w _ ?side1 ?side2 A9.out).mono ?_
      (case side1 => repeat (first | (with_reducible first | exact HIB213.out | apply IsS69.alloc | apply IsS69.drewN | apply IsS69.drew | apply IsS69.set_0 | apply IsS69.set_1 | refine IsS69.far ?_ NB213_212.out _ | refine IsS69.far ?_ NB213_223.out _) | exact HIB213.out))
      (case side2 => repeat (first | (with_reducible first | exact HB.out | apply below_alloc | apply pw_below_drewN | apply below_drew1 | refine below_set ?_ (IsS69.ge HIB213.out) | refine below_set ?_ GE212.out | refine below_set ?_ GE223.out) | exact HB.out))
      rintro e w17 ⟨rfl, hi, hb, hk⟩
      refine ⟨_, rfl, ?_⟩
      replace BK212 := Ax (KeepBut.blk hk (g' := gb212) (o := .cells #[.int .u8 0, .int .i64 0, .int .u64 0, .int .i64 0, .bool false, .int .u64 0, .int .u64 0, .int .i64 0, .int .u8 0, .int .i64 0, .int .i64 0, .int .i64 0] 35 (0, 0)) (bf0 BK212.out) NB212_213.out (by simp))
      replace BK223 := Ax (KeepBut.blk hk (g' := gb223) (o := .cells #[.int .u8 0, .int .i64 0, .int .u64 0, .int .i64 0, .bool false, .int .u64 0, .int .u64 0, .int .i64 0, .int .u8 0, .int .i64 0, .int .i64 0, .int .i64 0] 35 (0, 0)) (bf0 BK223.out) NB223_213.out (by simp))
      replace HB := Ax (hb)
      replace HIB213 := Ax (hi)
      (try clear hb)
      (try clear hb2)
      (try clear hk)
      (try clear hi)
      refine hK.out _ _ trivial (fun hHeld => ?_)
      clear hK K
      refine norm_ (a' := ?_) ?_ ?_
      rotate_left
      ·show Act.put _ (some 23) _ = _
       simp only [sP]
       rfl
      refine one_ (i := 13) (N := some 27) #[tr,tr,tr,tr,tr,tr,tr,tr,tr,tr,tr,tr,tr,tr,fa,fa,tr,fa] rfl rfl (one_of HT_.out (by kernel_rfl)) (by decide) (fun K hK => ?_)
      refine goes_ Try.func22 (by kernel_rfl) rfl #[.pointer (some ⟨gb213, 0, none⟩)] (by rfl) rfl rfl gS ?_
      with_reducible refine (num_Reader_Num.calls69 k gb213 t218 t219 t220 t221 t222 w _ ?side1 ?side2 A10.out).mono ?_
      (case side1 => repeat (first | (with_reducible first | exact HIB213.out | apply IsS69.alloc | apply IsS69.drewN | apply IsS69.drew | apply IsS69.set_0 | apply IsS69.set_1 | refine IsS69.far ?_ NB213_212.out _ | refine IsS69.far ?_ NB213_223.out _) | exact HIB213.out))
      (case side2 => repeat (first | (with_reducible first | exact HB.out | apply below_alloc | apply pw_below_drewN | apply below_drew1 | refine below_set ?_ (IsS69.ge HIB213.out) | refine below_set ?_ GE212.out | refine below_set ?_ GE223.out) | exact HB.out))
      rintro e w18 ⟨rfl, hi, hb, hk⟩
      refine ⟨_, rfl, ?_⟩
      replace BK212 := Ax (KeepBut.blk hk (g' := gb212) (o := .cells #[.int .u8 0, .int .i64 0, .int .u64 0, .int .i64 0, .bool false, .int .u64 0, .int .u64 0, .int .i64 0, .int .u8 0, .int .i64 0, .int .i64 0, .int .i64 0] 35 (0, 0)) (bf0 BK212.out) NB212_213.out (by simp))
      replace BK223 := Ax (KeepBut.blk hk (g' := gb223) (o := .cells #[.int .u8 0, .int .i64 0, .int .u64 0, .int .i64 0, .bool false, .int .u64 0, .int .u64 0, .int .i64 0, .int .u8 0, .int .i64 0, .int .i64 0, .int .i64 0] 35 (0, 0)) (bf0 BK223.out) NB223_213.out (by simp))
      replace HB := Ax (hb)
      replace HIB213 := Ax (hi)
      (try clear hb)
      (try clear hb2)
      (try clear hk)
      (try clear hi)
      refine hK.out _ _ trivial (fun hHeld => ?_)
      clear hK K
      refine norm_ (a' := ?_) ?_ ?_
      rotate_left
      ·show Act.put _ (some 27) _ = _
       simp only [sP]
       rfl
      refine pure_ (i := 14) (N := some 28) (v := ?_) (a' := ?_) #[tr,tr,tr,tr,tr,tr,tr,tr,tr,tr,tr,tr,tr,tr,tr,fa,tr,fa] rfl rfl (any_of HT_.out (by kernel_rfl)) (fun _ _ _ h => h) (Or.inl ⟨by rfl, ?_⟩) ?_ ?_
      rotate_left
      ·intro w'
       go_simp
       with_reducible rfl
      rotate_left
      ·simp only [sP]
       rfl
      refine pure_ (i := 15) (N := some 29) (v := ?_) (a' := ?_) #[tr,tr,tr,tr,tr,tr,tr,tr,tr,tr,tr,tr,tr,tr,tr,tr,tr,fa] rfl rfl (any_of HT_.out (by kernel_rfl)) (fun _ _ _ h => h) (Or.inl ⟨by rfl, ?_⟩) ?_ ?_
      rotate_left
      ·intro w'
       go_simp
       with_reducible rfl
      rotate_left
      ·simp only [sP]
       rfl
      exact norm_ (by simp only [putAll, Act.put, List.setIfInBounds_toArray, List.set_cons_zero, List.set_cons_succ]) (hCont (gb223) _ ⟨(bf0 BK212.out), (bf0 BK223.out), GW223.out, GE223.out, NB213_223.out, NB223_213.out, NB212_223.out, NB223_212.out, (by repeat (first | (with_reducible first | exact HIB213.out | apply IsS69.alloc | apply IsS69.drewN | apply IsS69.drew | apply IsS69.set_0 | apply IsS69.set_1 | refine IsS69.far ?_ NB213_212.out _ | refine IsS69.far ?_ NB213_223.out _) | exact HIB213.out)), (bw3 HB.out (IsS69.ge HIB213.out) GE212.out GE223.out)⟩)
    rintro gb223 w19 ⟨h0_, h1_, h2_, h3_, h4_, h5_, h6_, h7_, h8_, h9_⟩
    have n0_ : Aside0 (w19.heap[gb212]? = some (.cells #[.int .u8 0, .int .i64 0, .int .u64 0, .int .i64 0, .bool false, .int .u64 0, .int .u64 0, .int .i64 0, .int .u8 0, .int .i64 0, .int .i64 0, .int .i64 0] 35 (0, 0))) := ⟨h0_⟩
    have n1_ : Aside0 (w19.heap[gb223]? = some (.cells #[.int .u8 0, .int .i64 0, .int .u64 0, .int .i64 0, .bool false, .int .u64 0, .int .u64 0, .int .i64 0, .int .u8 0, .int .i64 0, .int .i64 0, .int .i64 0] 35 (0, 0))) := ⟨h1_⟩
    have n2_ : Aside0 (w.heap.size ≤ gb223) := ⟨h2_⟩
    have n3_ : Aside0 (w.heap.size ≤ gb223) := ⟨h3_⟩
    have n4_ : Aside0 (gb213 ≠ gb223) := ⟨h4_⟩
    have n5_ : Aside0 (gb223 ≠ gb213) := ⟨h5_⟩
    have n6_ : Aside0 (gb212 ≠ gb223) := ⟨h6_⟩
    have n7_ : Aside0 (gb223 ≠ gb212) := ⟨h7_⟩
    have n8_ : Aside0 (IsS69 w w19 gb213 t221 t222) := ⟨h8_⟩
    have n9_ : Aside0 (Below w.heap.size w w19) := ⟨h9_⟩
    clear BK212
    clear HIB213
    clear HB
    clear h0_ h1_ h2_ h3_ h4_ h5_ h6_ h7_ h8_ h9_
    have BK212 := n0_
    have BK223 := n1_
    have GW223 := n2_
    have GE223 := n3_
    have NB213_223 := n4_
    have NB223_213 := n5_
    have NB212_223 := n6_
    have NB223_212 := n7_
    have HIB213 := n8_
    have HB := n9_
    clear n0_ n1_ n2_ n3_ n4_ n5_ n6_ n7_ n8_ n9_
    have hHeld := trivial
    refine norm_ (a' := ?_) ?_ ?_
    rotate_left
    ·simp only [putAll, Act.put, List.setIfInBounds_toArray, List.set_cons_zero, List.set_cons_succ]
     rfl
    refine one_ (i := 17) (N := none) #[tr,tr,tr,tr,tr,tr,tr,tr,tr,tr,tr,tr,tr,tr,tr,tr,tr,tr] rfl rfl (one_of HT_.out (by kernel_rfl)) (by decide) (fun K hK => ?_)
    have hs20 : w19.cell? ⟨gb223, 0, none⟩ = some (.int .u8 0) := (blk_cell BK223.out 0).trans rfl
    have hfs20 := blk_frozen BK223.out 0
    have hns20_0 := NB212_223.out
    have hms20_0 := NB223_212.out
    have hs21 : w19.cell? ⟨gb223, 1, none⟩ = some (.int .i64 0) := (blk_cell BK223.out 1).trans rfl
    have hfs21 := blk_frozen BK223.out 1
    have hns21_0 := NB212_223.out
    have hms21_0 := NB223_212.out
    have hs22 : w19.cell? ⟨gb223, 2, none⟩ = some (.int .u64 0) := (blk_cell BK223.out 2).trans rfl
    have hfs22 := blk_frozen BK223.out 2
    have hns22_0 := NB212_223.out
    have hms22_0 := NB223_212.out
    have hs23 : w19.cell? ⟨gb223, 3, none⟩ = some (.int .i64 0) := (blk_cell BK223.out 3).trans rfl
    have hfs23 := blk_frozen BK223.out 3
    have hns23_0 := NB212_223.out
    have hms23_0 := NB223_212.out
    have hs24 : w19.cell? ⟨gb223, 4, none⟩ = some (.bool false) := (blk_cell BK223.out 4).trans rfl
    have hfs24 := blk_frozen BK223.out 4
    have hns24_0 := NB212_223.out
    have hms24_0 := NB223_212.out
    have hs25 : w19.cell? ⟨gb223, 5, none⟩ = some (.int .u64 0) := (blk_cell BK223.out 5).trans rfl
    have hfs25 := blk_frozen BK223.out 5
    have hns25_0 := NB212_223.out
    have hms25_0 := NB223_212.out
    have hs26 : w19.cell? ⟨gb223, 6, none⟩ = some (.int .u64 0) := (blk_cell BK223.out 6).trans rfl
    have hfs26 := blk_frozen BK223.out 6
    have hns26_0 := NB212_223.out
    have hms26_0 := NB223_212.out
    have hs27 : w19.cell? ⟨gb223, 7, none⟩ = some (.int .i64 0) := (blk_cell BK223.out 7).trans rfl
    have hfs27 := blk_frozen BK223.out 7
    have hns27_0 := NB212_223.out
    have hms27_0 := NB223_212.out
    have hs28 : w19.cell? ⟨gb223, 8, none⟩ = some (.int .u8 0) := (blk_cell BK223.out 8).trans rfl
    have hfs28 := blk_frozen BK223.out 8
    have hns28_0 := NB212_223.out
    have hms28_0 := NB223_212.out
    have hs29 : w19.cell? ⟨gb223, 9, none⟩ = some (.int .i64 0) := (blk_cell BK223.out 9).trans rfl
    have hfs29 := blk_frozen BK223.out 9
    have hns29_0 := NB212_223.out
    have hms29_0 := NB223_212.out
    have hs30 : w19.cell? ⟨gb223, 10, none⟩ = some (.int .i64 0) := (blk_cell BK223.out 10).trans rfl
    have hfs30 := blk_frozen BK223.out 10
    have hns30_0 := NB212_223.out
    have hms30_0 := NB223_212.out
    have hs31 : w19.cell? ⟨gb223, 11, none⟩ = some (.int .i64 0) := (blk_cell BK223.out 11).trans rfl
    have hfs31 := blk_frozen BK223.out 11
    have hns31_0 := NB212_223.out
    have hms31_0 := NB223_212.out
    refine skip_ (w1 := ?_) (by rfl) rfl ?_ ?_
    rotate_left
    ·go_simp
     rfl
    refine hK.out _ _ trivial (fun hHeld => ?_)
    clear hK K
    refine done_ (done_of HT_.out (by kernel_rfl)) ?_
    have hnb32 := NB223_212.out
    have hnc32 := NB212_223.out
    have hnb33 := NB223_213.out
    have hnc33 := NB213_223.out
    obtain ⟨hcz34_0, hcz34_1, hcz34_2, hcz34_3, hcz34_4, hcz34_5, hcz34_6, hcz34_7, hcz34_8, hcz34_9, hcz34_10, hcz34_11, hfz34_0, hfz34_1, hfz34_2, hfz34_3, hfz34_4, hfz34_5, hfz34_6, hfz34_7, hfz34_8, hfz34_9, hfz34_10, hfz34_11⟩ := cl12 BK223
    go_upto_block 0 with (fail)
    go_cut [] (fun wc => ∃ (kq : Nat) (x214000_10 : ByteArray) (x214001_10 : Int) (x224004_10 : Bool) (x224005_10 : Int) (x224006_10 : Int) (x224007_10 : Int) (x224008_10 : Int) (x224009_10 : Int) (x224010_10 : Int) (x224011_10 : Int), Aside0 (msg_Get.j0 kq x214000_10 x214001_10 (bt a0 0) t214 t217 (wrap64 (t220)) x224004_10 x224005_10 x224006_10 x224007_10 x224008_10 x224009_10 x224010_10 x224011_10 = some (r1, r2, r3, r4, r5, r6, r7, r8, r9, r10, r11, r12, r13)) ∧ Aside0 (kq ≤ k) ∧ Aside0 (wc.heap[gb212]? = some (.cells #[.int .u8 0, .int .i64 0, .int .u64 0, .int .i64 0, .bool false, .int .u64 0, .int .u64 0, .int .i64 0, .int .u8 0, .int .i64 0, .int .i64 0, .int .i64 0] 35 (0, 0))) ∧ Aside0 (wc.heap[gb223]? = some (.cells #[.int .u8 (bt a0 0), .int .i64 t214, .int .u64 t217, .int .i64 (wrap64 (t220)), .bool x224004_10, .int .u64 x224005_10, .int .u64 x224006_10, .int .i64 x224007_10, .int .u8 x224008_10, .int .i64 x224009_10, .int .i64 x224010_10, .int .i64 x224011_10] 35 (0, 0))) ∧ Aside0 (IsS69 w wc gb213 x214000_10 x214001_10) ∧ Aside0 (Below w.heap.size w wc))
    case first =>
     have H := HC11.out
     clear HC11
     by_cases c35 : (bt a0 0) = 3
     ·rw [if_pos c35] at H
      have c35b0 : ((bt a0 0) == 3) = true := beq_iff_eq.mpr c35
      have c35b1 : ((bt a0 0) != 3) = false := bne_eq_false_iff_eq.mpr c35
      clear c35
      (first | rw [c35b0] | (simp only [i64_w, i32_w]; rw [c35b0]) | skip)
      replace H := Option.bind_eq_some_iff.mp H
      obtain ⟨⟨t224, t225, t226, t227, t228, t229⟩, A360, H⟩ := H
      replace H : ((api_Action.f k t228 t229).bind fun bt230 => (msg_Get.j0 k bt230.2.2.1 bt230.2.2.2 (bt a0 0) t214 t217 (wrap64 (t220)) t224 t225 t226 t227 bt230.1 bt230.2.1 0 0)) = some (r1, r2, r3, r4, r5, r6, r7, r8, r9, r10, r11, r12, r13) := H
      have A36 := Ax A360
      clear A360
      replace H := Option.bind_eq_some_iff.mp H
      obtain ⟨⟨t230, t231, t232, t233⟩, A370, H⟩ := H
      replace H : (msg_Get.j0 k t232 t233 (bt a0 0) t214 t217 (wrap64 (t220)) t224 t225 t226 t227 t230 t231 0 0) = some (r1, r2, r3, r4, r5, r6, r7, r8, r9, r10, r11, r12, r13) := H
      have A37 := Ax A370
      clear A370
      have H' := Ax H
      clear H
      go_wp2_with (first | ((with_reducible refine gate_callee (f := 23) rfl ?_); refine goesL_ (some 35) rfl rfl Try.func23 (by kernel_rfl) rfl #[.pointer (some ⟨gb213, 0, none⟩), .func (.func 24) #[] #[]] rfl gS ?_; (with_reducible refine (api_Prefix.calls k gb213 t221 t222 t224 t225 t226 t227 t228 t229 w _ ?side1 ?side2 A36.out).mono ?_); (case side1 => repeat (first | (with_reducible first | exact HIB213.out | apply IsS69.alloc | apply IsS69.drewN | apply IsS69.drew | apply IsS69.set_0 | apply IsS69.set_1 | refine IsS69.far ?_ NB213_212.out _ | refine IsS69.far ?_ NB213_223.out _) | exact HIB213.out)); (case side2 => repeat (first | (with_reducible first | exact HB.out | apply below_alloc | apply pw_below_drewN | apply below_drew1 | refine below_set ?_ (IsS69.ge HIB213.out) | refine below_set ?_ GE212.out | refine below_set ?_ GE223.out) | exact HB.out)); rintro e w38 ⟨rfl, hi, hb, hk⟩; refine ⟨_, rfl, ?_⟩; have n0_ := Ax (KeepBut.blk hk (g' := gb212) (o := .cells #[.int .u8 0, .int .i64 0, .int .u64 0, .int .i64 0, .bool false, .int .u64 0, .int .u64 0, .int .i64 0, .int .u8 0, .int .i64 0, .int .i64 0, .int .i64 0] 35 (0, 0)) (by (with_reducible repeat (first | refine blk_drewN ?_ _ | refine blk_drew ?_ | refine blk_alloc ?_ _)); refine blk_far ?_ NB212_223.out _; (with_reducible repeat (first | refine blk_drewN ?_ _ | refine blk_drew ?_ | refine blk_alloc ?_ _)); refine blk_far ?_ NB212_223.out _; (with_reducible repeat (first | refine blk_drewN ?_ _ | refine blk_drew ?_ | refine blk_alloc ?_ _)); refine blk_far ?_ NB212_223.out _; (with_reducible repeat (first | refine blk_drewN ?_ _ | refine blk_drew ?_ | refine blk_alloc ?_ _)); refine blk_far ?_ NB212_223.out _; (with_reducible repeat (first | refine blk_drewN ?_ _ | refine blk_drew ?_ | refine blk_alloc ?_ _)); refine blk_far ?_ NB212_223.out _; (with_reducible repeat (first | refine blk_drewN ?_ _ | refine blk_drew ?_ | refine blk_alloc ?_ _)); refine blk_far ?_ NB212_223.out _; (with_reducible repeat (first | refine blk_drewN ?_ _ | refine blk_drew ?_ | refine blk_alloc ?_ _)); refine blk_far ?_ NB212_223.out _; (with_reducible repeat (first | refine blk_drewN ?_ _ | refine blk_drew ?_ | refine blk_alloc ?_ _)); refine blk_far ?_ NB212_223.out _; (with_reducible repeat (first | refine blk_drewN ?_ _ | refine blk_drew ?_ | refine blk_alloc ?_ _)); refine blk_far ?_ NB212_223.out _; (with_reducible repeat (first | refine blk_drewN ?_ _ | refine blk_drew ?_ | refine blk_alloc ?_ _)); refine blk_far ?_ NB212_223.out _; (with_reducible repeat (first | refine blk_drewN ?_ _ | refine blk_drew ?_ | refine blk_alloc ?_ _)); refine blk_far ?_ NB212_223.out _; (with_reducible repeat (first | refine blk_drewN ?_ _ | refine blk_drew ?_ | refine blk_alloc ?_ _)); refine blk_far ?_ NB212_223.out _; (with_reducible repeat (first | refine blk_drewN ?_ _ | refine blk_drew ?_ | refine blk_alloc ?_ _)); exact BK212.out) NB212_213.out (by simp)); have n1_ := Ax (KeepBut.blk hk (g' := gb223) (o := .cells #[.int .u8 (bt a0 0), .int .i64 t214, .int .u64 t217, .int .i64 (wrap64 (t220)), .bool false, .int .u64 0, .int .u64 0, .int .i64 0, .int .u8 0, .int .i64 0, .int .i64 0, .int .i64 0] 35 (0, 0)) (by (with_reducible repeat (first | refine blk_drewN ?_ _ | refine blk_drew ?_ | refine blk_alloc ?_ _)); refine blk_put (cs := #[.int .u8 (bt a0 0), .int .i64 t214, .int .u64 t217, .int .i64 (wrap64 (t220)), .bool false, .int .u64 0, .int .u64 0, .int .i64 0, .int .u8 0, .int .i64 0, .int .i64 0, .int .i64 0]) ?_ 11 _ rfl; (with_reducible repeat (first | refine blk_drewN ?_ _ | refine blk_drew ?_ | refine blk_alloc ?_ _)); refine blk_put (cs := #[.int .u8 (bt a0 0), .int .i64 t214, .int .u64 t217, .int .i64 (wrap64 (t220)), .bool false, .int .u64 0, .int .u64 0, .int .i64 0, .int .u8 0, .int .i64 0, .int .i64 0, .int .i64 0]) ?_ 10 _ rfl; (with_reducible repeat (first | refine blk_drewN ?_ _ | refine blk_drew ?_ | refine blk_alloc ?_ _)); refine blk_put (cs := #[.int .u8 (bt a0 0), .int .i64 t214, .int .u64 t217, .int .i64 (wrap64 (t220)), .bool false, .int .u64 0, .int .u64 0, .int .i64 0, .int .u8 0, .int .i64 0, .int .i64 0, .int .i64 0]) ?_ 9 _ rfl; (with_reducible repeat (first | refine blk_drewN ?_ _ | refine blk_drew ?_ | refine blk_alloc ?_ _)); refine blk_put (cs := #[.int .u8 (bt a0 0), .int .i64 t214, .int .u64 t217, .int .i64 (wrap64 (t220)), .bool false, .int .u64 0, .int .u64 0, .int .i64 0, .int .u8 0, .int .i64 0, .int .i64 0, .int .i64 0]) ?_ 8 _ rfl; (with_reducible repeat (first | refine blk_drewN ?_ _ | refine blk_drew ?_ | refine blk_alloc ?_ _)); refine blk_put (cs := #[.int .u8 (bt a0 0), .int .i64 t214, .int .u64 t217, .int .i64 (wrap64 (t220)), .bool false, .int .u64 0, .int .u64 0, .int .i64 0, .int .u8 0, .int .i64 0, .int .i64 0, .int .i64 0]) ?_ 7 _ rfl; (with_reducible repeat (first | refine blk_drewN ?_ _ | refine blk_drew ?_ | refine blk_alloc ?_ _)); refine blk_put (cs := #[.int .u8 (bt a0 0), .int .i64 t214, .int .u64 t217, .int .i64 (wrap64 (t220)), .bool false, .int .u64 0, .int .u64 0, .int .i64 0, .int .u8 0, .int .i64 0, .int .i64 0, .int .i64 0]) ?_ 6 _ rfl; (with_reducible repeat (first | refine blk_drewN ?_ _ | refine blk_drew ?_ | refine blk_alloc ?_ _)); refine blk_put (cs := #[.int .u8 (bt a0 0), .int .i64 t214, .int .u64 t217, .int .i64 (wrap64 (t220)), .bool false, .int .u64 0, .int .u64 0, .int .i64 0, .int .u8 0, .int .i64 0, .int .i64 0, .int .i64 0]) ?_ 5 _ rfl; (with_reducible repeat (first | refine blk_drewN ?_ _ | refine blk_drew ?_ | refine blk_alloc ?_ _)); refine blk_put (cs := #[.int .u8 (bt a0 0), .int .i64 t214, .int .u64 t217, .int .i64 (wrap64 (t220)), .bool false, .int .u64 0, .int .u64 0, .int .i64 0, .int .u8 0, .int .i64 0, .int .i64 0, .int .i64 0]) ?_ 4 _ rfl; (with_reducible repeat (first | refine blk_drewN ?_ _ | refine blk_drew ?_ | refine blk_alloc ?_ _)); refine blk_put (cs := #[.int .u8 (bt a0 0), .int .i64 t214, .int .u64 t217, .int .i64 0, .bool false, .int .u64 0, .int .u64 0, .int .i64 0, .int .u8 0, .int .i64 0, .int .i64 0, .int .i64 0]) ?_ 3 _ rfl; (with_reducible repeat (first | refine blk_drewN ?_ _ | refine blk_drew ?_ | refine blk_alloc ?_ _)); refine blk_put (cs := #[.int .u8 (bt a0 0), .int .i64 t214, .int .u64 0, .int .i64 0, .bool false, .int .u64 0, .int .u64 0, .int .i64 0, .int .u8 0, .int .i64 0, .int .i64 0, .int .i64 0]) ?_ 2 _ rfl; (with_reducible repeat (first | refine blk_drewN ?_ _ | refine blk_drew ?_ | refine blk_alloc ?_ _)); refine blk_put (cs := #[.int .u8 (bt a0 0), .int .i64 0, .int .u64 0, .int .i64 0, .bool false, .int .u64 0, .int .u64 0, .int .i64 0, .int .u8 0, .int .i64 0, .int .i64 0, .int .i64 0]) ?_ 1 _ rfl; (with_reducible repeat (first | refine blk_drewN ?_ _ | refine blk_drew ?_ | refine blk_alloc ?_ _)); refine blk_put (cs := #[.int .u8 0, .int .i64 0, .int .u64 0, .int .i64 0, .bool false, .int .u64 0, .int .u64 0, .int .i64 0, .int .u8 0, .int .i64 0, .int .i64 0, .int .i64 0]) ?_ 0 _ rfl; (with_reducible repeat (first | refine blk_drewN ?_ _ | refine blk_drew ?_ | refine blk_alloc ?_ _)); exact BK223.out) NB223_213.out (by simp)); have n2_ := Ax (hb); have n3_ := Ax (hi); clear BK212; clear BK223; clear HB; clear HIB213; have BK212 := n0_; have BK223 := n1_; have HB := n2_; have HIB213 := n3_; clear n0_ n1_ n2_ n3_; (try clear hb); (try clear hb2); (try clear hk); (try clear hi)) | ((with_reducible refine gate_callee (f := 25) rfl ?_); refine goesL_ (some 37) rfl rfl Try.func25 (by kernel_rfl) rfl #[.pointer (some ⟨gb213, 0, none⟩), .func (.func 26) #[] #[]] rfl gS ?_; (with_reducible refine (api_Action.calls k gb213 t228 t229 t230 t231 t232 t233 w _ ?side1 ?side2 A37.out).mono ?_); (case side1 => repeat (first | (with_reducible first | exact HIB213.out | apply IsS69.alloc | apply IsS69.drewN | apply IsS69.drew | apply IsS69.set_0 | apply IsS69.set_1 | refine IsS69.far ?_ NB213_212.out _ | refine IsS69.far ?_ NB213_223.out _) | exact HIB213.out)); (case side2 => repeat (first | (with_reducible first | exact HB.out | apply below_alloc | apply pw_below_drewN | apply below_drew1 | refine below_set ?_ (IsS69.ge HIB213.out) | refine below_set ?_ GE212.out | refine below_set ?_ GE223.out) | exact HB.out)); rintro e w39 ⟨rfl, hi, hb, hk⟩; refine ⟨_, rfl, ?_⟩; replace BK212 := Ax (KeepBut.blk hk (g' := gb212) (o := .cells #[.int .u8 0, .int .i64 0, .int .u64 0, .int .i64 0, .bool false, .int .u64 0, .int .u64 0, .int .i64 0, .int .u8 0, .int .i64 0, .int .i64 0, .int .i64 0] 35 (0, 0)) (bf0 BK212.out) NB212_213.out (by simp)); replace BK223 := Ax (KeepBut.blk hk (g' := gb223) (o := .cells #[.int .u8 (bt a0 0), .int .i64 t214, .int .u64 t217, .int .i64 (wrap64 (t220)), .bool false, .int .u64 0, .int .u64 0, .int .i64 0, .int .u8 0, .int .i64 0, .int .i64 0, .int .i64 0] 35 (0, 0)) (bf0 BK223.out) NB223_213.out (by simp)); replace HB := Ax (hb); replace HIB213 := Ax (hi); (try clear hb); (try clear hb2); (try clear hk); (try clear hi); have hnb40 := NB223_212.out; have hnc40 := NB212_223.out; have hnb41 := NB223_213.out; have hnc41 := NB213_223.out; obtain ⟨hcz42_0, hcz42_1, hcz42_2, hcz42_3, hcz42_4, hcz42_5, hcz42_6, hcz42_7, hcz42_8, hcz42_9, hcz42_10, hcz42_11, hfz42_0, hfz42_1, hfz42_2, hfz42_3, hfz42_4, hfz42_5, hfz42_6, hfz42_7, hfz42_8, hfz42_9, hfz42_10, hfz42_11⟩ := cl12 BK223))
      go_meet
      case rel => exact ⟨_, (t232), (t233), (t224), (t225), (t226), (t227), (t230), (t231), (0), (0), H', ⟨by first | omega | exact Nat.le_refl _⟩, ⟨bf6 BK212.out NB212_223.out NB212_223.out NB212_223.out NB212_223.out NB212_223.out NB212_223.out⟩, ⟨by (with_reducible repeat (first | refine blk_drewN ?_ _ | refine blk_drew ?_ | refine blk_alloc ?_ _)); refine blk_put (cs := #[.int .u8 (bt a0 0), .int .i64 t214, .int .u64 t217, .int .i64 (wrap64 (t220)), .bool t224, .int .u64 t225, .int .u64 t226, .int .i64 t227, .int .u8 t230, .int .i64 0, .int .i64 0, .int .i64 0]) ?_ 9 _ rfl; (with_reducible repeat (first | refine blk_drewN ?_ _ | refine blk_drew ?_ | refine blk_alloc ?_ _)); refine blk_put (cs := #[.int .u8 (bt a0 0), .int .i64 t214, .int .u64 t217, .int .i64 (wrap64 (t220)), .bool t224, .int .u64 t225, .int .u64 t226, .int .i64 t227, .int .u8 0, .int .i64 0, .int .i64 0, .int .i64 0]) ?_ 8 _ rfl; (with_reducible repeat (first | refine blk_drewN ?_ _ | refine blk_drew ?_ | refine blk_alloc ?_ _)); refine blk_put (cs := #[.int .u8 (bt a0 0), .int .i64 t214, .int .u64 t217, .int .i64 (wrap64 (t220)), .bool t224, .int .u64 t225, .int .u64 t226, .int .i64 0, .int .u8 0, .int .i64 0, .int .i64 0, .int .i64 0]) ?_ 7 _ rfl; (with_reducible repeat (first | refine blk_drewN ?_ _ | refine blk_drew ?_ | refine blk_alloc ?_ _)); refine blk_put (cs := #[.int .u8 (bt a0 0), .int .i64 t214, .int .u64 t217, .int .i64 (wrap64 (t220)), .bool t224, .int .u64 t225, .int .u64 0, .int .i64 0, .int .u8 0, .int .i64 0, .int .i64 0, .int .i64 0]) ?_ 6 _ rfl; (with_reducible repeat (first | refine blk_drewN ?_ _ | refine blk_drew ?_ | refine blk_alloc ?_ _)); refine blk_put (cs := #[.int .u8 (bt a0 0), .int .i64 t214, .int .u64 t217, .int .i64 (wrap64 (t220)), .bool t224, .int .u64 0, .int .u64 0, .int .i64 0, .int .u8 0, .int .i64 0, .int .i64 0, .int .i64 0]) ?_ 5 _ rfl; (with_reducible repeat (first | refine blk_drewN ?_ _ | refine blk_drew ?_ | refine blk_alloc ?_ _)); refine blk_put (cs := #[.int .u8 (bt a0 0), .int .i64 t214, .int .u64 t217, .int .i64 (wrap64 (t220)), .bool false, .int .u64 0, .int .u64 0, .int .i64 0, .int .u8 0, .int .i64 0, .int .i64 0, .int .i64 0]) ?_ 4 _ rfl; (with_reducible repeat (first | refine blk_drewN ?_ _ | refine blk_drew ?_ | refine blk_alloc ?_ _)); exact BK223.out⟩, ⟨by repeat (first | (with_reducible first | exact HIB213.out | apply IsS69.alloc | apply IsS69.drewN | apply IsS69.drew | apply IsS69.set_0 | apply IsS69.set_1 | refine IsS69.far ?_ NB213_212.out _ | refine IsS69.far ?_ NB213_223.out _) | exact HIB213.out)⟩, ⟨bw3 HB.out (IsS69.ge HIB213.out) GE212.out GE223.out⟩⟩
     ·rw [if_neg c35] at H
      have c35b0 : ((bt a0 0) == 3) = false := beq_eq_false_iff_ne.mpr c35
      have c35b1 : ((bt a0 0) != 3) = true := bne_iff_ne.mpr c35
      (first | rw [c35b0] | (simp only [i64_w, i32_w]; rw [c35b0]) | skip)
      by_cases c43 : (bt a0 0) = 4
      ·rw [if_pos c43] at H
       have c43b0 : ((bt a0 0) == 4) = true := beq_iff_eq.mpr c43
       have c43b1 : ((bt a0 0) != 4) = false := bne_eq_false_iff_eq.mpr c43
       clear c43
       replace H := Option.bind_eq_some_iff.mp H
       obtain ⟨⟨t234, t235, t236, t237, t238, t239⟩, A440, H⟩ := H
       replace H : (msg_Get.j0 k t238 t239 (bt a0 0) t214 t217 (wrap64 (t220)) t234 t235 t236 t237 0 0 0 0) = some (r1, r2, r3, r4, r5, r6, r7, r8, r9, r10, r11, r12, r13) := H
       have A44 := Ax A440
       clear A440
       have H' := Ax H
       clear H
       go_wp2_with (first | ((with_reducible refine gate_callee (f := 23) rfl ?_); refine goesL_ (some 43) rfl rfl Try.func23 (by kernel_rfl) rfl #[.pointer (some ⟨gb213, 0, none⟩), .func (.func 24) #[] #[]] rfl gS ?_; (with_reducible refine (api_Prefix.calls k gb213 t221 t222 t234 t235 t236 t237 t238 t239 w _ ?side1 ?side2 A44.out).mono ?_); (case side1 => repeat (first | (with_reducible first | exact HIB213.out | apply IsS69.alloc | apply IsS69.drewN | apply IsS69.drew | apply IsS69.set_0 | apply IsS69.set_1 | refine IsS69.far ?_ NB213_212.out _ | refine IsS69.far ?_ NB213_223.out _) | exact HIB213.out)); (case side2 => repeat (first | (with_reducible first | exact HB.out | apply below_alloc | apply pw_below_drewN | apply below_drew1 | refine below_set ?_ (IsS69.ge HIB213.out) | refine below_set ?_ GE212.out | refine below_set ?_ GE223.out) | exact HB.out)); rintro e w45 ⟨rfl, hi, hb, hk⟩; refine ⟨_, rfl, ?_⟩; have n0_ := Ax (KeepBut.blk hk (g' := gb212) (o := .cells #[.int .u8 0, .int .i64 0, .int .u64 0, .int .i64 0, .bool false, .int .u64 0, .int .u64 0, .int .i64 0, .int .u8 0, .int .i64 0, .int .i64 0, .int .i64 0] 35 (0, 0)) (by (with_reducible repeat (first | refine blk_drewN ?_ _ | refine blk_drew ?_ | refine blk_alloc ?_ _)); refine blk_far ?_ NB212_223.out _; (with_reducible repeat (first | refine blk_drewN ?_ _ | refine blk_drew ?_ | refine blk_alloc ?_ _)); refine blk_far ?_ NB212_223.out _; (with_reducible repeat (first | refine blk_drewN ?_ _ | refine blk_drew ?_ | refine blk_alloc ?_ _)); refine blk_far ?_ NB212_223.out _; (with_reducible repeat (first | refine blk_drewN ?_ _ | refine blk_drew ?_ | refine blk_alloc ?_ _)); refine blk_far ?_ NB212_223.out _; (with_reducible repeat (first | refine blk_drewN ?_ _ | refine blk_drew ?_ | refine blk_alloc ?_ _)); refine blk_far ?_ NB212_223.out _; (with_reducible repeat (first | refine blk_drewN ?_ _ | refine blk_drew ?_ | refine blk_alloc ?_ _)); refine blk_far ?_ NB212_223.out _; (with_reducible repeat (first | refine blk_drewN ?_ _ | refine blk_drew ?_ | refine blk_alloc ?_ _)); refine blk_far ?_ NB212_223.out _; (with_reducible repeat (first | refine blk_drewN ?_ _ | refine blk_drew ?_ | refine blk_alloc ?_ _)); refine blk_far ?_ NB212_223.out _; (with_reducible repeat (first | refine blk_drewN ?_ _ | refine blk_drew ?_ | refine blk_alloc ?_ _)); refine blk_far ?_ NB212_223.out _; (with_reducible repeat (first | refine blk_drewN ?_ _ | refine blk_drew ?_ | refine blk_alloc ?_ _)); refine blk_far ?_ NB212_223.out _; (with_reducible repeat (first | refine blk_drewN ?_ _ | refine blk_drew ?_ | refine blk_alloc ?_ _)); refine blk_far ?_ NB212_223.out _; (with_reducible repeat (first | refine blk_drewN ?_ _ | refine blk_drew ?_ | refine blk_alloc ?_ _)); refine blk_far ?_ NB212_223.out _; (with_reducible repeat (first | refine blk_drewN ?_ _ | refine blk_drew ?_ | refine blk_alloc ?_ _)); exact BK212.out) NB212_213.out (by simp)); have n1_ := Ax (KeepBut.blk hk (g' := gb223) (o := .cells #[.int .u8 (bt a0 0), .int .i64 t214, .int .u64 t217, .int .i64 (wrap64 (t220)), .bool false, .int .u64 0, .int .u64 0, .int .i64 0, .int .u8 0, .int .i64 0, .int .i64 0, .int .i64 0] 35 (0, 0)) (by (with_reducible repeat (first | refine blk_drewN ?_ _ | refine blk_drew ?_ | refine blk_alloc ?_ _)); refine blk_put (cs := #[.int .u8 (bt a0 0), .int .i64 t214, .int .u64 t217, .int .i64 (wrap64 (t220)), .bool false, .int .u64 0, .int .u64 0, .int .i64 0, .int .u8 0, .int .i64 0, .int .i64 0, .int .i64 0]) ?_ 11 _ rfl; (with_reducible repeat (first | refine blk_drewN ?_ _ | refine blk_drew ?_ | refine blk_alloc ?_ _)); refine blk_put (cs := #[.int .u8 (bt a0 0), .int .i64 t214, .int .u64 t217, .int .i64 (wrap64 (t220)), .bool false, .int .u64 0, .int .u64 0, .int .i64 0, .int .u8 0, .int .i64 0, .int .i64 0, .int .i64 0]) ?_ 10 _ rfl; (with_reducible repeat (first | refine blk_drewN ?_ _ | refine blk_drew ?_ | refine blk_alloc ?_ _)); refine blk_put (cs := #[.int .u8 (bt a0 0), .int .i64 t214, .int .u64 t217, .int .i64 (wrap64 (t220)), .bool false, .int .u64 0, .int .u64 0, .int .i64 0, .int .u8 0, .int .i64 0, .int .i64 0, .int .i64 0]) ?_ 9 _ rfl; (with_reducible repeat (first | refine blk_drewN ?_ _ | refine blk_drew ?_ | refine blk_alloc ?_ _)); refine blk_put (cs := #[.int .u8 (bt a0 0), .int .i64 t214, .int .u64 t217, .int .i64 (wrap64 (t220)), .bool false, .int .u64 0, .int .u64 0, .int .i64 0, .int .u8 0, .int .i64 0, .int .i64 0, .int .i64 0]) ?_ 8 _ rfl; (with_reducible repeat (first | refine blk_drewN ?_ _ | refine blk_drew ?_ | refine blk_alloc ?_ _)); refine blk_put (cs := #[.int .u8 (bt a0 0), .int .i64 t214, .int .u64 t217, .int .i64 (wrap64 (t220)), .bool false, .int .u64 0, .int .u64 0, .int .i64 0, .int .u8 0, .int .i64 0, .int .i64 0, .int .i64 0]) ?_ 7 _ rfl; (with_reducible repeat (first | refine blk_drewN ?_ _ | refine blk_drew ?_ | refine blk_alloc ?_ _)); refine blk_put (cs := #[.int .u8 (bt a0 0), .int .i64 t214, .int .u64 t217, .int .i64 (wrap64 (t220)), .bool false, .int .u64 0, .int .u64 0, .int .i64 0, .int .u8 0, .int .i64 0, .int .i64 0, .int .i64 0]) ?_ 6 _ rfl; (with_reducible repeat (first | refine blk_drewN ?_ _ | refine blk_drew ?_ | refine blk_alloc ?_ _)); refine blk_put (cs := #[.int .u8 (bt a0 0), .int .i64 t214, .int .u64 t217, .int .i64 (wrap64 (t220)), .bool false, .int .u64 0, .int .u64 0, .int .i64 0, .int .u8 0, .int .i64 0, .int .i64 0, .int .i64 0]) ?_ 5 _ rfl; (with_reducible repeat (first | refine blk_drewN ?_ _ | refine blk_drew ?_ | refine blk_alloc ?_ _)); refine blk_put (cs := #[.int .u8 (bt a0 0), .int .i64 t214, .int .u64 t217, .int .i64 (wrap64 (t220)), .bool false, .int .u64 0, .int .u64 0, .int .i64 0, .int .u8 0, .int .i64 0, .int .i64 0, .int .i64 0]) ?_ 4 _ rfl; (with_reducible repeat (first | refine blk_drewN ?_ _ | refine blk_drew ?_ | refine blk_alloc ?_ _)); refine blk_put (cs := #[.int .u8 (bt a0 0), .int .i64 t214, .int .u64 t217, .int .i64 0, .bool false, .int .u64 0, .int .u64 0, .int .i64 0, .int .u8 0, .int .i64 0, .int .i64 0, .int .i64 0]) ?_ 3 _ rfl; (with_reducible repeat (first | refine blk_drewN ?_ _ | refine blk_drew ?_ | refine blk_alloc ?_ _)); refine blk_put (cs := #[.int .u8 (bt a0 0), .int .i64 t214, .int .u64 0, .int .i64 0, .bool false, .int .u64 0, .int .u64 0, .int .i64 0, .int .u8 0, .int .i64 0, .int .i64 0, .int .i64 0]) ?_ 2 _ rfl; (with_reducible repeat (first | refine blk_drewN ?_ _ | refine blk_drew ?_ | refine blk_alloc ?_ _)); refine blk_put (cs := #[.int .u8 (bt a0 0), .int .i64 0, .int .u64 0, .int .i64 0, .bool false, .int .u64 0, .int .u64 0, .int .i64 0, .int .u8 0, .int .i64 0, .int .i64 0, .int .i64 0]) ?_ 1 _ rfl; (with_reducible repeat (first | refine blk_drewN ?_ _ | refine blk_drew ?_ | refine blk_alloc ?_ _)); refine blk_put (cs := #[.int .u8 0, .int .i64 0, .int .u64 0, .int .i64 0, .bool false, .int .u64 0, .int .u64 0, .int .i64 0, .int .u8 0, .int .i64 0, .int .i64 0, .int .i64 0]) ?_ 0 _ rfl; (with_reducible repeat (first | refine blk_drewN ?_ _ | refine blk_drew ?_ | refine blk_alloc ?_ _)); exact BK223.out) NB223_213.out (by simp)); have n2_ := Ax (hb); have n3_ := Ax (hi); clear BK212; clear BK223; clear HB; clear HIB213; have BK212 := n0_; have BK223 := n1_; have HB := n2_; have HIB213 := n3_; clear n0_ n1_ n2_ n3_; (try clear hb); (try clear hb2); (try clear hk); (try clear hi); have hnb46 := NB223_212.out; have hnc46 := NB212_223.out; have hnb47 := NB223_213.out; have hnc47 := NB213_223.out; obtain ⟨hcz48_0, hcz48_1, hcz48_2, hcz48_3, hcz48_4, hcz48_5, hcz48_6, hcz48_7, hcz48_8, hcz48_9, hcz48_10, hcz48_11, hfz48_0, hfz48_1, hfz48_2, hfz48_3, hfz48_4, hfz48_5, hfz48_6, hfz48_7, hfz48_8, hfz48_9, hfz48_10, hfz48_11⟩ := cl12 BK223))
       go_meet
       case rel => exact ⟨_, (t238), (t239), (t234), (t235), (t236), (t237), (0), (0), (0), (0), H', ⟨by first | omega | exact Nat.le_refl _⟩, ⟨bf4 BK212.out NB212_223.out NB212_223.out NB212_223.out NB212_223.out⟩, ⟨by (with_reducible repeat (first | refine blk_drewN ?_ _ | refine blk_drew ?_ | refine blk_alloc ?_ _)); refine blk_put (cs := #[.int .u8 (bt a0 0), .int .i64 t214, .int .u64 t217, .int .i64 (wrap64 (t220)), .bool t234, .int .u64 t235, .int .u64 t236, .int .i64 0, .int .u8 0, .int .i64 0, .int .i64 0, .int .i64 0]) ?_ 7 _ rfl; (with_reducible repeat (first | refine blk_drewN ?_ _ | refine blk_drew ?_ | refine blk_alloc ?_ _)); refine blk_put (cs := #[.int .u8 (bt a0 0), .int .i64 t214, .int .u64 t217, .int .i64 (wrap64 (t220)), .bool t234, .int .u64 t235, .int .u64 0, .int .i64 0, .int .u8 0, .int .i64 0, .int .i64 0, .int .i64 0]) ?_ 6 _ rfl; (with_reducible repeat (first | refine blk_drewN ?_ _ | refine blk_drew ?_ | refine blk_alloc ?_ _)); refine blk_put (cs := #[.int .u8 (bt a0 0), .int .i64 t214, .int .u64 t217, .int .i64 (wrap64 (t220)), .bool t234, .int .u64 0, .int .u64 0, .int .i64 0, .int .u8 0, .int .i64 0, .int .i64 0, .int .i64 0]) ?_ 5 _ rfl; (with_reducible repeat (first | refine blk_drewN ?_ _ | refine blk_drew ?_ | refine blk_alloc ?_ _)); refine blk_put (cs := #[.int .u8 (bt a0 0), .int .i64 t214, .int .u64 t217, .int .i64 (wrap64 (t220)), .bool false, .int .u64 0, .int .u64 0, .int .i64 0, .int .u8 0, .int .i64 0, .int .i64 0, .int .i64 0]) ?_ 4 _ rfl; (with_reducible repeat (first | refine blk_drewN ?_ _ | refine blk_drew ?_ | refine blk_alloc ?_ _)); exact BK223.out⟩, ⟨by repeat (first | (with_reducible first | exact HIB213.out | apply IsS69.alloc | apply IsS69.drewN | apply IsS69.drew | apply IsS69.set_0 | apply IsS69.set_1 | refine IsS69.far ?_ NB213_212.out _ | refine IsS69.far ?_ NB213_223.out _) | exact HIB213.out)⟩, ⟨bw3 HB.out (IsS69.ge HIB213.out) GE212.out GE223.out⟩⟩
      ·rw [if_neg c43] at H
       have c43b0 : ((bt a0 0) == 4) = false := beq_eq_false_iff_ne.mpr c43
       have c43b1 : ((bt a0 0) != 4) = true := bne_iff_ne.mpr c43
       by_cases c49 : (bt a0 0) = 5
       ·rw [if_pos c49] at H
        have c49b0 : ((bt a0 0) == 5) = true := beq_iff_eq.mpr c49
        have c49b1 : ((bt a0 0) != 5) = false := bne_eq_false_iff_eq.mpr c49
        clear c49
        replace H := Option.bind_eq_some_iff.mp H
        obtain ⟨⟨t240, t241, t242⟩, A500, H⟩ := H
        replace H : ((num_Reader_Many.f k t241 t242 1048576).bind fun bt243 => (msg_Get.j0 k bt243.2.1 bt243.2.2 (bt a0 0) t214 t217 (wrap64 (t220)) false 0 0 0 0 0 t240 bt243.1)) = some (r1, r2, r3, r4, r5, r6, r7, r8, r9, r10, r11, r12, r13) := H
        have A50 := Ax A500
        clear A500
        replace H := Option.bind_eq_some_iff.mp H
        obtain ⟨⟨t243, t244, t245⟩, A510, H⟩ := H
        replace H : (msg_Get.j0 k t244 t245 (bt a0 0) t214 t217 (wrap64 (t220)) false 0 0 0 0 0 t240 t243) = some (r1, r2, r3, r4, r5, r6, r7, r8, r9, r10, r11, r12, r13) := H
        have A51 := Ax A510
        clear A510
        have H' := Ax H
        clear H
        try go_wp2
        have n0_ : Aside0 (((((((((((((w19.setCell ⟨gb223, 0, none⟩ (.int .u8 (bt a0 0))).setCell ⟨gb223, 1, none⟩ (.int .i64 t214)).setCell ⟨gb223, 2, none⟩ (.int .u64 t217)).setCell ⟨gb223, 3, none⟩ (.int .i64 (wrap64 (t220)))).setCell ⟨gb223, 4, none⟩ (.bool false)).setCell ⟨gb223, 5, none⟩ (.int .u64 0)).setCell ⟨gb223, 6, none⟩ (.int .u64 0)).setCell ⟨gb223, 7, none⟩ (.int .i64 0)).setCell ⟨gb223, 8, none⟩ (.int .u8 0)).setCell ⟨gb223, 9, none⟩ (.int .i64 0)).setCell ⟨gb223, 10, none⟩ (.int .i64 0)).setCell ⟨gb223, 11, none⟩ (.int .i64 0)).heap[gb212]? = some (.cells #[.int .u8 0, .int .i64 0, .int .u64 0, .int .i64 0, .bool false, .int .u64 0, .int .u64 0, .int .i64 0, .int .u8 0, .int .i64 0, .int .i64 0, .int .i64 0] 35 (0, 0))) := ⟨by (with_reducible repeat (first | refine blk_drewN ?_ _ | refine blk_drew ?_ | refine blk_alloc ?_ _)); refine blk_far ?_ NB212_223.out _; (with_reducible repeat (first | refine blk_drewN ?_ _ | refine blk_drew ?_ | refine blk_alloc ?_ _)); refine blk_far ?_ NB212_223.out _; (with_reducible repeat (first | refine blk_drewN ?_ _ | refine blk_drew ?_ | refine blk_alloc ?_ _)); refine blk_far ?_ NB212_223.out _; (with_reducible repeat (first | refine blk_drewN ?_ _ | refine blk_drew ?_ | refine blk_alloc ?_ _)); refine blk_far ?_ NB212_223.out _; (with_reducible repeat (first | refine blk_drewN ?_ _ | refine blk_drew ?_ | refine blk_alloc ?_ _)); refine blk_far ?_ NB212_223.out _; (with_reducible repeat (first | refine blk_drewN ?_ _ | refine blk_drew ?_ | refine blk_alloc ?_ _)); refine blk_far ?_ NB212_223.out _; (with_reducible repeat (first | refine blk_drewN ?_ _ | refine blk_drew ?_ | refine blk_alloc ?_ _)); refine blk_far ?_ NB212_223.out _; (with_reducible repeat (first | refine blk_drewN ?_ _ | refine blk_drew ?_ | refine blk_alloc ?_ _)); refine blk_far ?_ NB212_223.out _; (with_reducible repeat (first | refine blk_drewN ?_ _ | refine blk_drew ?_ | refine blk_alloc ?_ _)); refine blk_far ?_ NB212_223.out _; (with_reducible repeat (first | refine blk_drewN ?_ _ | refine blk_drew ?_ | refine blk_alloc ?_ _)); refine blk_far ?_ NB212_223.out _; (with_reducible repeat (first | refine blk_drewN ?_ _ | refine blk_drew ?_ | refine blk_alloc ?_ _)); refine blk_far ?_ NB212_223.out _; (with_reducible repeat (first | refine blk_drewN ?_ _ | refine blk_drew ?_ | refine blk_alloc ?_ _)); refine blk_far ?_ NB212_223.out _; (with_reducible repeat (first | refine blk_drewN ?_ _ | refine blk_drew ?_ | refine blk_alloc ?_ _)); exact BK212.out⟩
        have n1_ : Aside0 (((((((((((((w19.setCell ⟨gb223, 0, none⟩ (.int .u8 (bt a0 0))).setCell ⟨gb223, 1, none⟩ (.int .i64 t214)).setCell ⟨gb223, 2, none⟩ (.int .u64 t217)).setCell ⟨gb223, 3, none⟩ (.int .i64 (wrap64 (t220)))).setCell ⟨gb223, 4, none⟩ (.bool false)).setCell ⟨gb223, 5, none⟩ (.int .u64 0)).setCell ⟨gb223, 6, none⟩ (.int .u64 0)).setCell ⟨gb223, 7, none⟩ (.int .i64 0)).setCell ⟨gb223, 8, none⟩ (.int .u8 0)).setCell ⟨gb223, 9, none⟩ (.int .i64 0)).setCell ⟨gb223, 10, none⟩ (.int .i64 0)).setCell ⟨gb223, 11, none⟩ (.int .i64 0)).heap[gb223]? = some (.cells #[.int .u8 (bt a0 0), .int .i64 t214, .int .u64 t217, .int .i64 (wrap64 (t220)), .bool false, .int .u64 0, .int .u64 0, .int .i64 0, .int .u8 0, .int .i64 0, .int .i64 0, .int .i64 0] 35 (0, 0))) := ⟨by (with_reducible repeat (first | refine blk_drewN ?_ _ | refine blk_drew ?_ | refine blk_alloc ?_ _)); refine blk_put (cs := #[.int .u8 (bt a0 0), .int .i64 t214, .int .u64 t217, .int .i64 (wrap64 (t220)), .bool false, .int .u64 0, .int .u64 0, .int .i64 0, .int .u8 0, .int .i64 0, .int .i64 0, .int .i64 0]) ?_ 11 _ rfl; (with_reducible repeat (first | refine blk_drewN ?_ _ | refine blk_drew ?_ | refine blk_alloc ?_ _)); refine blk_put (cs := #[.int .u8 (bt a0 0), .int .i64 t214, .int .u64 t217, .int .i64 (wrap64 (t220)), .bool false, .int .u64 0, .int .u64 0, .int .i64 0, .int .u8 0, .int .i64 0, .int .i64 0, .int .i64 0]) ?_ 10 _ rfl; (with_reducible repeat (first | refine blk_drewN ?_ _ | refine blk_drew ?_ | refine blk_alloc ?_ _)); refine blk_put (cs := #[.int .u8 (bt a0 0), .int .i64 t214, .int .u64 t217, .int .i64 (wrap64 (t220)), .bool false, .int .u64 0, .int .u64 0, .int .i64 0, .int .u8 0, .int .i64 0, .int .i64 0, .int .i64 0]) ?_ 9 _ rfl; (with_reducible repeat (first | refine blk_drewN ?_ _ | refine blk_drew ?_ | refine blk_alloc ?_ _)); refine blk_put (cs := #[.int .u8 (bt a0 0), .int .i64 t214, .int .u64 t217, .int .i64 (wrap64 (t220)), .bool false, .int .u64 0, .int .u64 0, .int .i64 0, .int .u8 0, .int .i64 0, .int .i64 0, .int .i64 0]) ?_ 8 _ rfl; (with_reducible repeat (first | refine blk_drewN ?_ _ | refine blk_drew ?_ | refine blk_alloc ?_ _)); refine blk_put (cs := #[.int .u8 (bt a0 0), .int .i64 t214, .int .u64 t217, .int .i64 (wrap64 (t220)), .bool false, .int .u64 0, .int .u64 0, .int .i64 0, .int .u8 0, .int .i64 0, .int .i64 0, .int .i64 0]) ?_ 7 _ rfl; (with_reducible repeat (first | refine blk_drewN ?_ _ | refine blk_drew ?_ | refine blk_alloc ?_ _)); refine blk_put (cs := #[.int .u8 (bt a0 0), .int .i64 t214, .int .u64 t217, .int .i64 (wrap64 (t220)), .bool false, .int .u64 0, .int .u64 0, .int .i64 0, .int .u8 0, .int .i64 0, .int .i64 0, .int .i64 0]) ?_ 6 _ rfl; (with_reducible repeat (first | refine blk_drewN ?_ _ | refine blk_drew ?_ | refine blk_alloc ?_ _)); refine blk_put (cs := #[.int .u8 (bt a0 0), .int .i64 t214, .int .u64 t217, .int .i64 (wrap64 (t220)), .bool false, .int .u64 0, .int .u64 0, .int .i64 0, .int .u8 0, .int .i64 0, .int .i64 0, .int .i64 0]) ?_ 5 _ rfl; (with_reducible repeat (first | refine blk_drewN ?_ _ | refine blk_drew ?_ | refine blk_alloc ?_ _)); refine blk_put (cs := #[.int .u8 (bt a0 0), .int .i64 t214, .int .u64 t217, .int .i64 (wrap64 (t220)), .bool false, .int .u64 0, .int .u64 0, .int .i64 0, .int .u8 0, .int .i64 0, .int .i64 0, .int .i64 0]) ?_ 4 _ rfl; (with_reducible repeat (first | refine blk_drewN ?_ _ | refine blk_drew ?_ | refine blk_alloc ?_ _)); refine blk_put (cs := #[.int .u8 (bt a0 0), .int .i64 t214, .int .u64 t217, .int .i64 0, .bool false, .int .u64 0, .int .u64 0, .int .i64 0, .int .u8 0, .int .i64 0, .int .i64 0, .int .i64 0]) ?_ 3 _ rfl; (with_reducible repeat (first | refine blk_drewN ?_ _ | refine blk_drew ?_ | refine blk_alloc ?_ _)); refine blk_put (cs := #[.int .u8 (bt a0 0), .int .i64 t214, .int .u64 0, .int .i64 0, .bool false, .int .u64 0, .int .u64 0, .int .i64 0, .int .u8 0, .int .i64 0, .int .i64 0, .int .i64 0]) ?_ 2 _ rfl; (with_reducible repeat (first | refine blk_drewN ?_ _ | refine blk_drew ?_ | refine blk_alloc ?_ _)); refine blk_put (cs := #[.int .u8 (bt a0 0), .int .i64 0, .int .u64 0, .int .i64 0, .bool false, .int .u64 0, .int .u64 0, .int .i64 0, .int .u8 0, .int .i64 0, .int .i64 0, .int .i64 0]) ?_ 1 _ rfl; (with_reducible repeat (first | refine blk_drewN ?_ _ | refine blk_drew ?_ | refine blk_alloc ?_ _)); refine blk_put (cs := #[.int .u8 0, .int .i64 0, .int .u64 0, .int .i64 0, .bool false, .int .u64 0, .int .u64 0, .int .i64 0, .int .u8 0, .int .i64 0, .int .i64 0, .int .i64 0]) ?_ 0 _ rfl; (with_reducible repeat (first | refine blk_drewN ?_ _ | refine blk_drew ?_ | refine blk_alloc ?_ _)); exact BK223.out⟩
        have n2_ : Aside0 (IsS69 w ((((((((((((w19.setCell ⟨gb223, 0, none⟩ (.int .u8 (bt a0 0))).setCell ⟨gb223, 1, none⟩ (.int .i64 t214)).setCell ⟨gb223, 2, none⟩ (.int .u64 t217)).setCell ⟨gb223, 3, none⟩ (.int .i64 (wrap64 (t220)))).setCell ⟨gb223, 4, none⟩ (.bool false)).setCell ⟨gb223, 5, none⟩ (.int .u64 0)).setCell ⟨gb223, 6, none⟩ (.int .u64 0)).setCell ⟨gb223, 7, none⟩ (.int .i64 0)).setCell ⟨gb223, 8, none⟩ (.int .u8 0)).setCell ⟨gb223, 9, none⟩ (.int .i64 0)).setCell ⟨gb223, 10, none⟩ (.int .i64 0)).setCell ⟨gb223, 11, none⟩ (.int .i64 0)) gb213 t221 t222) := ⟨by repeat (first | (with_reducible first | exact HIB213.out | apply IsS69.alloc | apply IsS69.drewN | apply IsS69.drew | apply IsS69.set_0 | apply IsS69.set_1 | refine IsS69.far ?_ NB213_212.out _ | refine IsS69.far ?_ NB213_223.out _) | exact HIB213.out)⟩
        have n3_ : Aside0 (Below w.heap.size w ((((((((((((w19.setCell ⟨gb223, 0, none⟩ (.int .u8 (bt a0 0))).setCell ⟨gb223, 1, none⟩ (.int .i64 t214)).setCell ⟨gb223, 2, none⟩ (.int .u64 t217)).setCell ⟨gb223, 3, none⟩ (.int .i64 (wrap64 (t220)))).setCell ⟨gb223, 4, none⟩ (.bool false)).setCell ⟨gb223, 5, none⟩ (.int .u64 0)).setCell ⟨gb223, 6, none⟩ (.int .u64 0)).setCell ⟨gb223, 7, none⟩ (.int .i64 0)).setCell ⟨gb223, 8, none⟩ (.int .u8 0)).setCell ⟨gb223, 9, none⟩ (.int .i64 0)).setCell ⟨gb223, 10, none⟩ (.int .i64 0)).setCell ⟨gb223, 11, none⟩ (.int .i64 0))) := ⟨bw3 HB.out (IsS69.ge HIB213.out) GE212.out GE223.out⟩
        (try clear BK212)
        (try clear BK223)
        (try clear HIB213)
        (try clear HB)
        generalize ((((((((((((w19.setCell ⟨gb223, 0, none⟩ (.int .u8 (bt a0 0))).setCell ⟨gb223, 1, none⟩ (.int .i64 t214)).setCell ⟨gb223, 2, none⟩ (.int .u64 t217)).setCell ⟨gb223, 3, none⟩ (.int .i64 (wrap64 (t220)))).setCell ⟨gb223, 4, none⟩ (.bool false)).setCell ⟨gb223, 5, none⟩ (.int .u64 0)).setCell ⟨gb223, 6, none⟩ (.int .u64 0)).setCell ⟨gb223, 7, none⟩ (.int .i64 0)).setCell ⟨gb223, 8, none⟩ (.int .u8 0)).setCell ⟨gb223, 9, none⟩ (.int .i64 0)).setCell ⟨gb223, 10, none⟩ (.int .i64 0)).setCell ⟨gb223, 11, none⟩ (.int .i64 0)) = w52 at n0_ n1_ n2_ n3_ ⊢
        have BK212 := n0_
        have BK223 := n1_
        have HIB213 := n2_
        have HB := n3_
        clear n0_ n1_ n2_ n3_
        replace BK212 := Ax (blk_drew BK212.out)
        replace BK223 := Ax (blk_drew BK223.out)
        replace HIB213 := Ax (IsS69.drew HIB213.out)
        replace HB := Ax (below_drew1 HB.out)
        refine start_ (n := 12) (S := fun w' => True) (ds := []) #[fa,fa,fa,fa,fa,fa,fa,fa,fa,fa,fa,fa] (by kernel_rfl) rfl rfl trivial (fun hHeld => ?_); refine with_tabW msg_Get.tab11 msg_Get.bits11 (fun HT_ HW_ => ?_)
        generalize w52.drew = w53 at BK212 BK223 HIB213 HB hHeld ⊢
        refine pure_ (i := 0) (N := some 47) (v := ?_) (a' := ?_) #[tr,fa,fa,fa,fa,fa,fa,fa,fa,fa,fa,fa] rfl rfl (any_of HT_.out (by kernel_rfl)) (fun _ _ _ h => h) (Or.inl ⟨by rfl, ?_⟩) ?_ ?_
        rotate_left
        ·intro w'
         go_simp
         with_reducible rfl
        rotate_left
        ·simp only [sP]
         rfl
        refine pure_ (i := 1) (N := some 48) (v := ?_) (a' := ?_) #[tr,tr,fa,fa,fa,fa,fa,fa,fa,fa,fa,fa] rfl rfl (any_of HT_.out (by kernel_rfl)) (fun _ _ _ h => h) (Or.inl ⟨by rfl, ?_⟩) ?_ ?_
        rotate_left
        ·intro w'
         go_simp
         with_reducible rfl
        rotate_left
        ·simp only [sP]
         rfl
        refine pure_ (i := 2) (N := some 49) (v := ?_) (a' := ?_) #[tr,tr,tr,fa,fa,fa,fa,fa,fa,fa,fa,fa] rfl rfl (any_of HT_.out (by kernel_rfl)) (fun _ _ _ h => h) (Or.inl ⟨by rfl, ?_⟩) ?_ ?_
        rotate_left
        ·intro w'
         go_simp
         with_reducible rfl
        rotate_left
        ·simp only [sP]
         rfl
        refine pure_ (i := 4) (N := some 51) (v := ?_) (a' := ?_) #[tr,tr,tr,fa,tr,fa,fa,fa,fa,fa,fa,fa] rfl rfl (any_of HT_.out (by kernel_rfl)) (fun _ _ _ h => h) (Or.inl ⟨by rfl, ?_⟩) ?_ ?_
        rotate_left
        ·intro w'
         go_simp
         with_reducible rfl
        rotate_left
        ·simp only [sP]
         rfl
        refine pure_ (i := 5) (N := some 52) (v := ?_) (a' := ?_) #[tr,tr,tr,fa,tr,tr,fa,fa,fa,fa,fa,fa] rfl rfl (any_of HT_.out (by kernel_rfl)) (fun _ _ _ h => h) (Or.inl ⟨by rfl, ?_⟩) ?_ ?_
        rotate_left
        ·intro w'
         go_simp
         with_reducible rfl
        rotate_left
        ·simp only [sP]
         rfl
        refine pure_ (i := 6) (N := some 53) (v := ?_) (a' := ?_) #[tr,tr,tr,fa,tr,tr,tr,fa,fa,fa,fa,fa] rfl rfl (any_of HT_.out (by kernel_rfl)) (fun _ _ _ h => h) (Or.inl ⟨by rfl, ?_⟩) ?_ ?_
        rotate_left
        ·intro w'
         go_simp
         with_reducible rfl
        rotate_left
        ·simp only [sP]
         rfl
        refine one_ (i := 3) (N := some 50) #[tr,tr,tr,tr,tr,tr,tr,fa,fa,fa,fa,fa] rfl rfl (one_of HT_.out (by kernel_rfl)) (by decide) (fun K hK => ?_)
        refine goes_ Try.func21 (by kernel_rfl) rfl #[.pointer (some ⟨gb213, 0, none⟩), .int .i64 65536] (by rfl) rfl rfl gS ?_
        with_reducible refine (num_Reader_Many.calls69 k gb213 t221 t222 65536 t240 t241 t242 w _ ?side1 ?side2 A50.out).mono ?_
        (case side1 => repeat (first | (with_reducible first | exact HIB213.out | apply IsS69.alloc | apply IsS69.drewN | apply IsS69.drew | apply IsS69.set_0 | apply IsS69.set_1 | refine IsS69.far ?_ NB213_212.out _ | refine IsS69.far ?_ NB213_223.out _) | exact HIB213.out))
        (case side2 => repeat (first | (with_reducible first | exact HB.out | apply below_alloc | apply pw_below_drewN | apply below_drew1 | refine below_set ?_ (IsS69.ge HIB213.out) | refine below_set ?_ GE212.out | refine below_set ?_ GE223.out) | exact HB.out))
        rintro e w54 ⟨rfl, hi, hb, hk⟩
        refine ⟨_, rfl, ?_⟩
        replace BK212 := Ax (KeepBut.blk hk (g' := gb212) (o := .cells #[.int .u8 0, .int .i64 0, .int .u64 0, .int .i64 0, .bool false, .int .u64 0, .int .u64 0, .int .i64 0, .int .u8 0, .int .i64 0, .int .i64 0, .int .i64 0] 35 (0, 0)) (bf0 BK212.out) NB212_213.out (by simp))
        replace BK223 := Ax (KeepBut.blk hk (g' := gb223) (o := .cells #[.int .u8 (bt a0 0), .int .i64 t214, .int .u64 t217, .int .i64 (wrap64 (t220)), .bool false, .int .u64 0, .int .u64 0, .int .i64 0, .int .u8 0, .int .i64 0, .int .i64 0, .int .i64 0] 35 (0, 0)) (bf0 BK223.out) NB223_213.out (by simp))
        replace HB := Ax (hb)
        replace HIB213 := Ax (hi)
        (try clear hb)
        (try clear hb2)
        (try clear hk)
        (try clear hi)
        refine hK.out _ _ trivial (fun hHeld => ?_)
        clear hK K
        refine norm_ (a' := ?_) ?_ ?_
        rotate_left
        ·show Act.put _ (some 50) _ = _
         simp only [sP]
         rfl
        refine pure_ (i := 8) (N := some 55) (v := ?_) (a' := ?_) #[tr,tr,tr,tr,tr,tr,tr,fa,tr,fa,fa,fa] rfl rfl (any_of HT_.out (by kernel_rfl)) (fun _ _ _ h => h) (Or.inl ⟨by rfl, ?_⟩) ?_ ?_
        rotate_left
        ·intro w'
         go_simp
         with_reducible rfl
        rotate_left
        ·simp only [sP]
         rfl
        refine one_ (i := 7) (N := some 54) #[tr,tr,tr,tr,tr,tr,tr,tr,tr,fa,fa,fa] rfl rfl (one_of HT_.out (by kernel_rfl)) (by decide) (fun K hK => ?_)
        refine goes_ Try.func21 (by kernel_rfl) rfl #[.pointer (some ⟨gb213, 0, none⟩), .int .i64 1048576] (by rfl) rfl rfl gS ?_
        with_reducible refine (num_Reader_Many.calls69 k gb213 t241 t242 1048576 t243 t244 t245 w _ ?side1 ?side2 A51.out).mono ?_
        (case side1 => repeat (first | (with_reducible first | exact HIB213.out | apply IsS69.alloc | apply IsS69.drewN | apply IsS69.drew | apply IsS69.set_0 | apply IsS69.set_1 | refine IsS69.far ?_ NB213_212.out _ | refine IsS69.far ?_ NB213_223.out _) | exact HIB213.out))
        (case side2 => repeat (first | (with_reducible first | exact HB.out | apply below_alloc | apply pw_below_drewN | apply below_drew1 | refine below_set ?_ (IsS69.ge HIB213.out) | refine below_set ?_ GE212.out | refine below_set ?_ GE223.out) | exact HB.out))
        rintro e w55 ⟨rfl, hi, hb, hk⟩
        refine ⟨_, rfl, ?_⟩
        replace BK212 := Ax (KeepBut.blk hk (g' := gb212) (o := .cells #[.int .u8 0, .int .i64 0, .int .u64 0, .int .i64 0, .bool false, .int .u64 0, .int .u64 0, .int .i64 0, .int .u8 0, .int .i64 0, .int .i64 0, .int .i64 0] 35 (0, 0)) (bf0 BK212.out) NB212_213.out (by simp))
        replace BK223 := Ax (KeepBut.blk hk (g' := gb223) (o := .cells #[.int .u8 (bt a0 0), .int .i64 t214, .int .u64 t217, .int .i64 (wrap64 (t220)), .bool false, .int .u64 0, .int .u64 0, .int .i64 0, .int .u8 0, .int .i64 0, .int .i64 0, .int .i64 0] 35 (0, 0)) (bf0 BK223.out) NB223_213.out (by simp))
        replace HB := Ax (hb)
        replace HIB213 := Ax (hi)
        (try clear hb)
        (try clear hb2)
        (try clear hk)
        (try clear hi)
        refine hK.out _ _ trivial (fun hHeld => ?_)
        clear hK K
        refine norm_ (a' := ?_) ?_ ?_
        rotate_left
        ·show Act.put _ (some 54) _ = _
         simp only [sP]
         rfl
        refine one_ (i := 9) (N := none) #[tr,tr,tr,tr,tr,tr,tr,tr,tr,tr,fa,fa] rfl rfl (one_of HT_.out (by kernel_rfl)) (by decide) (fun K hK => ?_)
        have hs56 : w55.cell? ⟨gb223, 10, none⟩ = some (.int .i64 0) := (blk_cell BK223.out 10).trans rfl
        have hfs56 := blk_frozen BK223.out 10
        have hns56_0 := NB212_223.out
        have hms56_0 := NB223_212.out
        refine skip_ (w1 := ?_) (by rfl) rfl ?_ ?_
        rotate_left
        ·go_simp
         rfl
        refine hK.out _ _ trivial (fun hHeld => ?_)
        clear hK K
        refine pure_ (i := 10) (N := some 56) (v := ?_) (a' := ?_) #[tr,tr,tr,tr,tr,tr,tr,tr,tr,tr,tr,fa] rfl rfl (any_of HT_.out (by kernel_rfl)) (fun _ _ _ h => h) (Or.inl ⟨by rfl, ?_⟩) ?_ ?_
        rotate_left
        ·intro w'
         go_simp
         with_reducible rfl
        rotate_left
        ·simp only [sP]
         rfl
        refine one_ (i := 11) (N := none) #[tr,tr,tr,tr,tr,tr,tr,tr,tr,tr,tr,tr] rfl rfl (one_of HT_.out (by kernel_rfl)) (by decide) (fun K hK => ?_)
        have hs57 : w55.cell? ⟨gb223, 11, none⟩ = some (.int .i64 0) := (blk_cell BK223.out 11).trans rfl
        have hfs57 := blk_frozen BK223.out 11
        have hns57_0 := NB212_223.out
        have hms57_0 := NB223_212.out
        refine skip_ (w1 := ?_) (by rfl) rfl ?_ ?_
        rotate_left
        ·go_simp
         rfl
        refine hK.out _ _ trivial (fun hHeld => ?_)
        clear hK K
        refine done_ (done_of HT_.out (by kernel_rfl)) ?_
        try go_wp2
        go_meet
        case rel => exact ⟨_, (t244), (t245), (false), (0), (0), (0), (0), (0), (t240), (t243), H', ⟨by first | omega | exact Nat.le_refl _⟩, ⟨bf2 BK212.out NB212_223.out NB212_223.out⟩, ⟨by (with_reducible repeat (first | refine blk_drewN ?_ _ | refine blk_drew ?_ | refine blk_alloc ?_ _)); refine blk_put (cs := #[.int .u8 (bt a0 0), .int .i64 t214, .int .u64 t217, .int .i64 (wrap64 (t220)), .bool false, .int .u64 0, .int .u64 0, .int .i64 0, .int .u8 0, .int .i64 0, .int .i64 t240, .int .i64 0]) ?_ 11 _ rfl; (with_reducible repeat (first | refine blk_drewN ?_ _ | refine blk_drew ?_ | refine blk_alloc ?_ _)); refine blk_put (cs := #[.int .u8 (bt a0 0), .int .i64 t214, .int .u64 t217, .int .i64 (wrap64 (t220)), .bool false, .int .u64 0, .int .u64 0, .int .i64 0, .int .u8 0, .int .i64 0, .int .i64 0, .int .i64 0]) ?_ 10 _ rfl; (with_reducible repeat (first | refine blk_drewN ?_ _ | refine blk_drew ?_ | refine blk_alloc ?_ _)); exact BK223.out⟩, ⟨by repeat (first | (with_reducible first | exact HIB213.out | apply IsS69.alloc | apply IsS69.drewN | apply IsS69.drew | apply IsS69.set_0 | apply IsS69.set_1 | refine IsS69.far ?_ NB213_212.out _ | refine IsS69.far ?_ NB213_223.out _) | exact HIB213.out)⟩, ⟨bw3 HB.out (IsS69.ge HIB213.out) GE212.out GE223.out⟩⟩
       ·rw [if_neg c49] at H
        have c49b0 : ((bt a0 0) == 5) = false := beq_eq_false_iff_ne.mpr c49
        have c49b1 : ((bt a0 0) != 5) = true := bne_iff_ne.mpr c49
        by_cases c58 : (bt a0 0) = 6
        ·rw [if_pos c58] at H
         have c58b0 : ((bt a0 0) == 6) = true := beq_iff_eq.mpr c58
         have c58b1 : ((bt a0 0) != 6) = false := bne_eq_false_iff_eq.mpr c58
         clear c58
         replace H := Option.bind_eq_some_iff.mp H
         obtain ⟨⟨t246, t247, t248⟩, A590, H⟩ := H
         replace H : (msg_Get.j0 k t247 t248 (bt a0 0) t214 t217 (wrap64 (t220)) false 0 0 0 0 0 t246 0) = some (r1, r2, r3, r4, r5, r6, r7, r8, r9, r10, r11, r12, r13) := H
         have A59 := Ax A590
         clear A590
         have H' := Ax H
         clear H
         go_wp2_with (first | ((with_reducible refine gate_callee (f := 21) rfl ?_); refine goesL_ (some 62) rfl rfl Try.func21 (by kernel_rfl) rfl #[.pointer (some ⟨gb213, 0, none⟩), .int .i64 65536] rfl gS ?_; (with_reducible refine (num_Reader_Many.calls69 k gb213 t221 t222 65536 t246 t247 t248 w _ ?side1 ?side2 A59.out).mono ?_); (case side1 => repeat (first | (with_reducible first | exact HIB213.out | apply IsS69.alloc | apply IsS69.drewN | apply IsS69.drew | apply IsS69.set_0 | apply IsS69.set_1 | refine IsS69.far ?_ NB213_212.out _ | refine IsS69.far ?_ NB213_223.out _) | exact HIB213.out)); (case side2 => repeat (first | (with_reducible first | exact HB.out | apply below_alloc | apply pw_below_drewN | apply below_drew1 | refine below_set ?_ (IsS69.ge HIB213.out) | refine below_set ?_ GE212.out | refine below_set ?_ GE223.out) | exact HB.out)); rintro e w60 ⟨rfl, hi, hb, hk⟩; refine ⟨_, rfl, ?_⟩; have n0_ := Ax (KeepBut.blk hk (g' := gb212) (o := .cells #[.int .u8 0, .int .i64 0, .int .u64 0, .int .i64 0, .bool false, .int .u64 0, .int .u64 0, .int .i64 0, .int .u8 0, .int .i64 0, .int .i64 0, .int .i64 0] 35 (0, 0)) (by (with_reducible repeat (first | refine blk_drewN ?_ _ | refine blk_drew ?_ | refine blk_alloc ?_ _)); refine blk_far ?_ NB212_223.out _; (with_reducible repeat (first | refine blk_drewN ?_ _ | refine blk_drew ?_ | refine blk_alloc ?_ _)); refine blk_far ?_ NB212_223.out _; (with_reducible repeat (first | refine blk_drewN ?_ _ | refine blk_drew ?_ | refine blk_alloc ?_ _)); refine blk_far ?_ NB212_223.out _; (with_reducible repeat (first | refine blk_drewN ?_ _ | refine blk_drew ?_ | refine blk_alloc ?_ _)); refine blk_far ?_ NB212_223.out _; (with_reducible repeat (first | refine blk_drewN ?_ _ | refine blk_drew ?_ | refine blk_alloc ?_ _)); refine blk_far ?_ NB212_223.out _; (with_reducible repeat (first | refine blk_drewN ?_ _ | refine blk_drew ?_ | refine blk_alloc ?_ _)); refine blk_far ?_ NB212_223.out _; (with_reducible repeat (first | refine blk_drewN ?_ _ | refine blk_drew ?_ | refine blk_alloc ?_ _)); refine blk_far ?_ NB212_223.out _; (with_reducible repeat (first | refine blk_drewN ?_ _ | refine blk_drew ?_ | refine blk_alloc ?_ _)); refine blk_far ?_ NB212_223.out _; (with_reducible repeat (first | refine blk_drewN ?_ _ | refine blk_drew ?_ | refine blk_alloc ?_ _)); refine blk_far ?_ NB212_223.out _; (with_reducible repeat (first | refine blk_drewN ?_ _ | refine blk_drew ?_ | refine blk_alloc ?_ _)); refine blk_far ?_ NB212_223.out _; (with_reducible repeat (first | refine blk_drewN ?_ _ | refine blk_drew ?_ | refine blk_alloc ?_ _)); refine blk_far ?_ NB212_223.out _; (with_reducible repeat (first | refine blk_drewN ?_ _ | refine blk_drew ?_ | refine blk_alloc ?_ _)); refine blk_far ?_ NB212_223.out _; (with_reducible repeat (first | refine blk_drewN ?_ _ | refine blk_drew ?_ | refine blk_alloc ?_ _)); exact BK212.out) NB212_213.out (by simp)); have n1_ := Ax (KeepBut.blk hk (g' := gb223) (o := .cells #[.int .u8 (bt a0 0), .int .i64 t214, .int .u64 t217, .int .i64 (wrap64 (t220)), .bool false, .int .u64 0, .int .u64 0, .int .i64 0, .int .u8 0, .int .i64 0, .int .i64 0, .int .i64 0] 35 (0, 0)) (by (with_reducible repeat (first | refine blk_drewN ?_ _ | refine blk_drew ?_ | refine blk_alloc ?_ _)); refine blk_put (cs := #[.int .u8 (bt a0 0), .int .i64 t214, .int .u64 t217, .int .i64 (wrap64 (t220)), .bool false, .int .u64 0, .int .u64 0, .int .i64 0, .int .u8 0, .int .i64 0, .int .i64 0, .int .i64 0]) ?_ 11 _ rfl; (with_reducible repeat (first | refine blk_drewN ?_ _ | refine blk_drew ?_ | refine blk_alloc ?_ _)); refine blk_put (cs := #[.int .u8 (bt a0 0), .int .i64 t214, .int .u64 t217, .int .i64 (wrap64 (t220)), .bool false, .int .u64 0, .int .u64 0, .int .i64 0, .int .u8 0, .int .i64 0, .int .i64 0, .int .i64 0]) ?_ 10 _ rfl; (with_reducible repeat (first | refine blk_drewN ?_ _ | refine blk_drew ?_ | refine blk_alloc ?_ _)); refine blk_put (cs := #[.int .u8 (bt a0 0), .int .i64 t214, .int .u64 t217, .int .i64 (wrap64 (t220)), .bool false, .int .u64 0, .int .u64 0, .int .i64 0, .int .u8 0, .int .i64 0, .int .i64 0, .int .i64 0]) ?_ 9 _ rfl; (with_reducible repeat (first | refine blk_drewN ?_ _ | refine blk_drew ?_ | refine blk_alloc ?_ _)); refine blk_put (cs := #[.int .u8 (bt a0 0), .int .i64 t214, .int .u64 t217, .int .i64 (wrap64 (t220)), .bool false, .int .u64 0, .int .u64 0, .int .i64 0, .int .u8 0, .int .i64 0, .int .i64 0, .int .i64 0]) ?_ 8 _ rfl; (with_reducible repeat (first | refine blk_drewN ?_ _ | refine blk_drew ?_ | refine blk_alloc ?_ _)); refine blk_put (cs := #[.int .u8 (bt a0 0), .int .i64 t214, .int .u64 t217, .int .i64 (wrap64 (t220)), .bool false, .int .u64 0, .int .u64 0, .int .i64 0, .int .u8 0, .int .i64 0, .int .i64 0, .int .i64 0]) ?_ 7 _ rfl; (with_reducible repeat (first | refine blk_drewN ?_ _ | refine blk_drew ?_ | refine blk_alloc ?_ _)); refine blk_put (cs := #[.int .u8 (bt a0 0), .int .i64 t214, .int .u64 t217, .int .i64 (wrap64 (t220)), .bool false, .int .u64 0, .int .u64 0, .int .i64 0, .int .u8 0, .int .i64 0, .int .i64 0, .int .i64 0]) ?_ 6 _ rfl; (with_reducible repeat (first | refine blk_drewN ?_ _ | refine blk_drew ?_ | refine blk_alloc ?_ _)); refine blk_put (cs := #[.int .u8 (bt a0 0), .int .i64 t214, .int .u64 t217, .int .i64 (wrap64 (t220)), .bool false, .int .u64 0, .int .u64 0, .int .i64 0, .int .u8 0, .int .i64 0, .int .i64 0, .int .i64 0]) ?_ 5 _ rfl; (with_reducible repeat (first | refine blk_drewN ?_ _ | refine blk_drew ?_ | refine blk_alloc ?_ _)); refine blk_put (cs := #[.int .u8 (bt a0 0), .int .i64 t214, .int .u64 t217, .int .i64 (wrap64 (t220)), .bool false, .int .u64 0, .int .u64 0, .int .i64 0, .int .u8 0, .int .i64 0, .int .i64 0, .int .i64 0]) ?_ 4 _ rfl; (with_reducible repeat (first | refine blk_drewN ?_ _ | refine blk_drew ?_ | refine blk_alloc ?_ _)); refine blk_put (cs := #[.int .u8 (bt a0 0), .int .i64 t214, .int .u64 t217, .int .i64 0, .bool false, .int .u64 0, .int .u64 0, .int .i64 0, .int .u8 0, .int .i64 0, .int .i64 0, .int .i64 0]) ?_ 3 _ rfl; (with_reducible repeat (first | refine blk_drewN ?_ _ | refine blk_drew ?_ | refine blk_alloc ?_ _)); refine blk_put (cs := #[.int .u8 (bt a0 0), .int .i64 t214, .int .u64 0, .int .i64 0, .bool false, .int .u64 0, .int .u64 0, .int .i64 0, .int .u8 0, .int .i64 0, .int .i64 0, .int .i64 0]) ?_ 2 _ rfl; (with_reducible repeat (first | refine blk_drewN ?_ _ | refine blk_drew ?_ | refine blk_alloc ?_ _)); refine blk_put (cs := #[.int .u8 (bt a0 0), .int .i64 0, .int .u64 0, .int .i64 0, .bool false, .int .u64 0, .int .u64 0, .int .i64 0, .int .u8 0, .int .i64 0, .int .i64 0, .int .i64 0]) ?_ 1 _ rfl; (with_reducible repeat (first | refine blk_drewN ?_ _ | refine blk_drew ?_ | refine blk_alloc ?_ _)); refine blk_put (cs := #[.int .u8 0, .int .i64 0, .int .u64 0, .int .i64 0, .bool false, .int .u64 0, .int .u64 0, .int .i64 0, .int .u8 0, .int .i64 0, .int .i64 0, .int .i64 0]) ?_ 0 _ rfl; (with_reducible repeat (first | refine blk_drewN ?_ _ | refine blk_drew ?_ | refine blk_alloc ?_ _)); exact BK223.out) NB223_213.out (by simp)); have n2_ := Ax (hb); have n3_ := Ax (hi); clear BK212; clear BK223; clear HB; clear HIB213; have BK212 := n0_; have BK223 := n1_; have HB := n2_; have HIB213 := n3_; clear n0_ n1_ n2_ n3_; (try clear hb); (try clear hb2); (try clear hk); (try clear hi); have hnb61 := NB223_212.out; have hnc61 := NB212_223.out; have hnb62 := NB223_213.out; have hnc62 := NB213_223.out; obtain ⟨hcz63_0, hcz63_1, hcz63_2, hcz63_3, hcz63_4, hcz63_5, hcz63_6, hcz63_7, hcz63_8, hcz63_9, hcz63_10, hcz63_11, hfz63_0, hfz63_1, hfz63_2, hfz63_3, hfz63_4, hfz63_5, hfz63_6, hfz63_7, hfz63_8, hfz63_9, hfz63_10, hfz63_11⟩ := cl12 BK223))
         go_meet
         case rel => exact ⟨_, (t247), (t248), (false), (0), (0), (0), (0), (0), (t246), (0), H', ⟨by first | omega | exact Nat.le_refl _⟩, ⟨bf1 BK212.out NB212_223.out⟩, ⟨by (with_reducible repeat (first | refine blk_drewN ?_ _ | refine blk_drew ?_ | refine blk_alloc ?_ _)); refine blk_put (cs := #[.int .u8 (bt a0 0), .int .i64 t214, .int .u64 t217, .int .i64 (wrap64 (t220)), .bool false, .int .u64 0, .int .u64 0, .int .i64 0, .int .u8 0, .int .i64 0, .int .i64 0, .int .i64 0]) ?_ 10 _ rfl; (with_reducible repeat (first | refine blk_drewN ?_ _ | refine blk_drew ?_ | refine blk_alloc ?_ _)); exact BK223.out⟩, ⟨by repeat (first | (with_reducible first | exact HIB213.out | apply IsS69.alloc | apply IsS69.drewN | apply IsS69.drew | apply IsS69.set_0 | apply IsS69.set_1 | refine IsS69.far ?_ NB213_212.out _ | refine IsS69.far ?_ NB213_223.out _) | exact HIB213.out)⟩, ⟨bw3 HB.out (IsS69.ge HIB213.out) GE212.out GE223.out⟩⟩
        ·rw [if_neg c58] at H
         have c58b0 : ((bt a0 0) == 6) = false := beq_eq_false_iff_ne.mpr c58
         have c58b1 : ((bt a0 0) != 6) = true := bne_iff_ne.mpr c58
         have H' := Ax H
         clear H
         go_wp2
         go_meet
         case rel => exact ⟨_, (t221), (t222), (false), (0), (0), (0), (0), (0), (0), (0), H', ⟨by first | omega | exact Nat.le_refl _⟩, ⟨by (with_reducible repeat (first | refine blk_drewN ?_ _ | refine blk_drew ?_ | refine blk_alloc ?_ _)); refine blk_far ?_ NB212_223.out _; (with_reducible repeat (first | refine blk_drewN ?_ _ | refine blk_drew ?_ | refine blk_alloc ?_ _)); refine blk_far ?_ NB212_223.out _; (with_reducible repeat (first | refine blk_drewN ?_ _ | refine blk_drew ?_ | refine blk_alloc ?_ _)); refine blk_far ?_ NB212_223.out _; (with_reducible repeat (first | refine blk_drewN ?_ _ | refine blk_drew ?_ | refine blk_alloc ?_ _)); refine blk_far ?_ NB212_223.out _; (with_reducible repeat (first | refine blk_drewN ?_ _ | refine blk_drew ?_ | refine blk_alloc ?_ _)); refine blk_far ?_ NB212_223.out _; (with_reducible repeat (first | refine blk_drewN ?_ _ | refine blk_drew ?_ | refine blk_alloc ?_ _)); refine blk_far ?_ NB212_223.out _; (with_reducible repeat (first | refine blk_drewN ?_ _ | refine blk_drew ?_ | refine blk_alloc ?_ _)); refine blk_far ?_ NB212_223.out _; (with_reducible repeat (first | refine blk_drewN ?_ _ | refine blk_drew ?_ | refine blk_alloc ?_ _)); refine blk_far ?_ NB212_223.out _; (with_reducible repeat (first | refine blk_drewN ?_ _ | refine blk_drew ?_ | refine blk_alloc ?_ _)); refine blk_far ?_ NB212_223.out _; (with_reducible repeat (first | refine blk_drewN ?_ _ | refine blk_drew ?_ | refine blk_alloc ?_ _)); refine blk_far ?_ NB212_223.out _; (with_reducible repeat (first | refine blk_drewN ?_ _ | refine blk_drew ?_ | refine blk_alloc ?_ _)); refine blk_far ?_ NB212_223.out _; (with_reducible repeat (first | refine blk_drewN ?_ _ | refine blk_drew ?_ | refine blk_alloc ?_ _)); refine blk_far ?_ NB212_223.out _; (with_reducible repeat (first | refine blk_drewN ?_ _ | refine blk_drew ?_ | refine blk_alloc ?_ _)); exact BK212.out⟩, ⟨by (with_reducible repeat (first | refine blk_drewN ?_ _ | refine blk_drew ?_ | refine blk_alloc ?_ _)); refine blk_put (cs := #[.int .u8 (bt a0 0), .int .i64 t214, .int .u64 t217, .int .i64 (wrap64 (t220)), .bool false, .int .u64 0, .int .u64 0, .int .i64 0, .int .u8 0, .int .i64 0, .int .i64 0, .int .i64 0]) ?_ 11 _ rfl; (with_reducible repeat (first | refine blk_drewN ?_ _ | refine blk_drew ?_ | refine blk_alloc ?_ _)); refine blk_put (cs := #[.int .u8 (bt a0 0), .int .i64 t214, .int .u64 t217, .int .i64 (wrap64 (t220)), .bool false, .int .u64 0, .int .u64 0, .int .i64 0, .int .u8 0, .int .i64 0, .int .i64 0, .int .i64 0]) ?_ 10 _ rfl; (with_reducible repeat (first | refine blk_drewN ?_ _ | refine blk_drew ?_ | refine blk_alloc ?_ _)); refine blk_put (cs := #[.int .u8 (bt a0 0), .int .i64 t214, .int .u64 t217, .int .i64 (wrap64 (t220)), .bool false, .int .u64 0, .int .u64 0, .int .i64 0, .int .u8 0, .int .i64 0, .int .i64 0, .int .i64 0]) ?_ 9 _ rfl; (with_reducible repeat (first | refine blk_drewN ?_ _ | refine blk_drew ?_ | refine blk_alloc ?_ _)); refine blk_put (cs := #[.int .u8 (bt a0 0), .int .i64 t214, .int .u64 t217, .int .i64 (wrap64 (t220)), .bool false, .int .u64 0, .int .u64 0, .int .i64 0, .int .u8 0, .int .i64 0, .int .i64 0, .int .i64 0]) ?_ 8 _ rfl; (with_reducible repeat (first | refine blk_drewN ?_ _ | refine blk_drew ?_ | refine blk_alloc ?_ _)); refine blk_put (cs := #[.int .u8 (bt a0 0), .int .i64 t214, .int .u64 t217, .int .i64 (wrap64 (t220)), .bool false, .int .u64 0, .int .u64 0, .int .i64 0, .int .u8 0, .int .i64 0, .int .i64 0, .int .i64 0]) ?_ 7 _ rfl; (with_reducible repeat (first | refine blk_drewN ?_ _ | refine blk_drew ?_ | refine blk_alloc ?_ _)); refine blk_put (cs := #[.int .u8 (bt a0 0), .int .i64 t214, .int .u64 t217, .int .i64 (wrap64 (t220)), .bool false, .int .u64 0, .int .u64 0, .int .i64 0, .int .u8 0, .int .i64 0, .int .i64 0, .int .i64 0]) ?_ 6 _ rfl; (with_reducible repeat (first | refine blk_drewN ?_ _ | refine blk_drew ?_ | refine blk_alloc ?_ _)); refine blk_put (cs := #[.int .u8 (bt a0 0), .int .i64 t214, .int .u64 t217, .int .i64 (wrap64 (t220)), .bool false, .int .u64 0, .int .u64 0, .int .i64 0, .int .u8 0, .int .i64 0, .int .i64 0, .int .i64 0]) ?_ 5 _ rfl; (with_reducible repeat (first | refine blk_drewN ?_ _ | refine blk_drew ?_ | refine blk_alloc ?_ _)); refine blk_put (cs := #[.int .u8 (bt a0 0), .int .i64 t214, .int .u64 t217, .int .i64 (wrap64 (t220)), .bool false, .int .u64 0, .int .u64 0, .int .i64 0, .int .u8 0, .int .i64 0, .int .i64 0, .int .i64 0]) ?_ 4 _ rfl; (with_reducible repeat (first | refine blk_drewN ?_ _ | refine blk_drew ?_ | refine blk_alloc ?_ _)); refine blk_put (cs := #[.int .u8 (bt a0 0), .int .i64 t214, .int .u64 t217, .int .i64 0, .bool false, .int .u64 0, .int .u64 0, .int .i64 0, .int .u8 0, .int .i64 0, .int .i64 0, .int .i64 0]) ?_ 3 _ rfl; (with_reducible repeat (first | refine blk_drewN ?_ _ | refine blk_drew ?_ | refine blk_alloc ?_ _)); refine blk_put (cs := #[.int .u8 (bt a0 0), .int .i64 t214, .int .u64 0, .int .i64 0, .bool false, .int .u64 0, .int .u64 0, .int .i64 0, .int .u8 0, .int .i64 0, .int .i64 0, .int .i64 0]) ?_ 2 _ rfl; (with_reducible repeat (first | refine blk_drewN ?_ _ | refine blk_drew ?_ | refine blk_alloc ?_ _)); refine blk_put (cs := #[.int .u8 (bt a0 0), .int .i64 0, .int .u64 0, .int .i64 0, .bool false, .int .u64 0, .int .u64 0, .int .i64 0, .int .u8 0, .int .i64 0, .int .i64 0, .int .i64 0]) ?_ 1 _ rfl; (with_reducible repeat (first | refine blk_drewN ?_ _ | refine blk_drew ?_ | refine blk_alloc ?_ _)); refine blk_put (cs := #[.int .u8 0, .int .i64 0, .int .u64 0, .int .i64 0, .bool false, .int .u64 0, .int .u64 0, .int .i64 0, .int .u8 0, .int .i64 0, .int .i64 0, .int .i64 0]) ?_ 0 _ rfl; (with_reducible repeat (first | refine blk_drewN ?_ _ | refine blk_drew ?_ | refine blk_alloc ?_ _)); exact BK223.out⟩, ⟨by repeat (first | (with_reducible first | exact HIB213.out | apply IsS69.alloc | apply IsS69.drewN | apply IsS69.drew | apply IsS69.set_0 | apply IsS69.set_1 | refine IsS69.far ?_ NB213_212.out _ | refine IsS69.far ?_ NB213_223.out _) | exact HIB213.out)⟩, ⟨bw3 HB.out (IsS69.ge HIB213.out) GE212.out GE223.out⟩⟩
    case rest =>
     clear HC11
     try clear c2
     try clear p2
     try clear c3
     try clear c4
     try clear c5
     try clear c6
     try clear p6
     try clear c21
     try clear c22
     try clear c23
     try clear c25
     try clear c32
     try clear c33
     try clear c35
     try clear c35b0
     try clear c35b1
     try clear c40
     try clear c41
     try clear c43
     try clear c43b0
     try clear c43b1
     try clear c46
     try clear c47
     try clear c49
     try clear c49b0
     try clear c49b1
     try clear c58
     try clear c58b0
     try clear c58b1
     try clear c61
     try clear c62
     try clear hcz34_0
     try clear hcz34_1
     try clear hcz34_10
     try clear hcz34_11
     try clear hcz34_2
     try clear hcz34_3
     try clear hcz34_4
     try clear hcz34_5
     try clear hcz34_6
     try clear hcz34_7
     try clear hcz34_8
     try clear hcz34_9
     try clear hcz42_0
     try clear hcz42_1
     try clear hcz42_10
     try clear hcz42_11
     try clear hcz42_2
     try clear hcz42_3
     try clear hcz42_4
     try clear hcz42_5
     try clear hcz42_6
     try clear hcz42_7
     try clear hcz42_8
     try clear hcz42_9
     try clear hcz48_0
     try clear hcz48_1
     try clear hcz48_10
     try clear hcz48_11
     try clear hcz48_2
     try clear hcz48_3
     try clear hcz48_4
     try clear hcz48_5
     try clear hcz48_6
     try clear hcz48_7
     try clear hcz48_8
     try clear hcz48_9
     try clear hcz63_0
     try clear hcz63_1
     try clear hcz63_10
     try clear hcz63_11
     try clear hcz63_2
     try clear hcz63_3
     try clear hcz63_4
     try clear hcz63_5
     try clear hcz63_6
     try clear hcz63_7
     try clear hcz63_8
     try clear hcz63_9
     try clear hfz34_0
     try clear hfz34_1
     try clear hfz34_10
     try clear hfz34_11
     try clear hfz34_2
     try clear hfz34_3
     try clear hfz34_4
     try clear hfz34_5
     try clear hfz34_6
     try clear hfz34_7
     try clear hfz34_8
     try clear hfz34_9
     try clear hfz42_0
     try clear hfz42_1
     try clear hfz42_10
     try clear hfz42_11
     try clear hfz42_2
     try clear hfz42_3
     try clear hfz42_4
     try clear hfz42_5
     try clear hfz42_6
     try clear hfz42_7
     try clear hfz42_8
     try clear hfz42_9
     try clear hfz48_0
     try clear hfz48_1
     try clear hfz48_10
     try clear hfz48_11
     try clear hfz48_2
     try clear hfz48_3
     try clear hfz48_4
     try clear hfz48_5
     try clear hfz48_6
     try clear hfz48_7
     try clear hfz48_8
     try clear hfz48_9
     try clear hfz63_0
     try clear hfz63_1
     try clear hfz63_10
     try clear hfz63_11
     try clear hfz63_2
     try clear hfz63_3
     try clear hfz63_4
     try clear hfz63_5
     try clear hfz63_6
     try clear hfz63_7
     try clear hfz63_8
     try clear hfz63_9
     obtain ⟨kq, x214000_10, x214001_10, x224004_10, x224005_10, x224006_10, x224007_10, x224008_10, x224009_10, x224010_10, x224011_10, HA, HJ10, BK212, BK223, HIB213, HB⟩ := hcut
     cases kq with
     | zero => exact absurd HA.out (by simp [msg_Get.j0])
     | succ kj10 =>
      have H := HA.out
      clear HA
      simp only [msg_Get.j0] at H
      have HC64 := Ax H
      clear H
      go_upto_region 14 with (fail)
      go_cut [82] (fun v82 wc => ∃ (kq : Nat) (x82_63 : Bool), v82 = .bool x82_63 ∧ Aside0 (msg_Get.j1 kq x82_63 (bt a0 0) t214 t217 (wrap64 (t220)) x224004_10 x224005_10 x224006_10 x224007_10 x224008_10 x224009_10 x224010_10 x224011_10 = some (r1, r2, r3, r4, r5, r6, r7, r8, r9, r10, r11, r12, r13)) ∧ Aside0 (kq ≤ kj10) ∧ Aside0 (wc.heap[gb212]? = some (.cells #[.int .u8 0, .int .i64 0, .int .u64 0, .int .i64 0, .bool false, .int .u64 0, .int .u64 0, .int .i64 0, .int .u8 0, .int .i64 0, .int .i64 0, .int .i64 0] 35 (0, 0))) ∧ Aside0 (wc.heap[gb223]? = some (.cells #[.int .u8 (bt a0 0), .int .i64 t214, .int .u64 t217, .int .i64 (wrap64 (t220)), .bool x224004_10, .int .u64 x224005_10, .int .u64 x224006_10, .int .i64 x224007_10, .int .u8 x224008_10, .int .i64 x224009_10, .int .i64 x224010_10, .int .i64 x224011_10] 35 (0, 0))) ∧ Aside0 (Below w.heap.size w wc))
      case first =>
       have H := HC64.out
       clear HC64
       by_cases c65 : x214001_10 = 0
       ·rw [if_pos c65] at H
        have c65b0 : (x214001_10 == 0) = true := beq_iff_eq.mpr c65
        have c65b1 : (x214001_10 != 0) = false := bne_eq_false_iff_eq.mpr c65
        clear c65
        (first | rw [c65b0] | (simp only [i64_w, i32_w]; rw [c65b0]) | skip)
        by_cases c66 : x214000_10.toList = ([] : List UInt8)
        ·rw [if_pos c66] at H
         have c66b0 : (x214000_10.toList == ([] : List UInt8)) = true := beq_iff_eq.mpr c66
         have c66b1 : (x214000_10.toList != ([] : List UInt8)) = false := bne_eq_false_iff_eq.mpr c66
         clear c66
         replace H := Option.bind_eq_some_iff.mp H
         obtain ⟨t249, A670, H⟩ := H
         replace H : (msg_Get.j1 kj10 (t249 != 0) (bt a0 0) t214 t217 (wrap64 (t220)) x224004_10 x224005_10 x224006_10 x224007_10 x224008_10 x224009_10 x224010_10 x224011_10) = some (r1, r2, r3, r4, r5, r6, r7, r8, r9, r10, r11, r12, r13) := H
         have A67 := Ax A670
         clear A670
         have H' := Ax H
         clear H
         obtain ⟨HGz68, hgz68⟩ := HIB213.out
         have hcz68_0 := cellS69_0 HGz68
         have hcz68_1 := cellS69_1 HGz68
         have hfz68_0 := blk_frozen HGz68 0
         have hfz68_1 := blk_frozen HGz68 1
         clear HGz68 hgz68
         have hnb69 := NB223_212.out
         have hnc69 := NB212_223.out
         have hnb70 := NB223_213.out
         have hnc70 := NB213_223.out
         obtain ⟨hcz71_0, hcz71_1, hcz71_2, hcz71_3, hcz71_4, hcz71_5, hcz71_6, hcz71_7, hcz71_8, hcz71_9, hcz71_10, hcz71_11, hfz71_0, hfz71_1, hfz71_2, hfz71_3, hfz71_4, hfz71_5, hfz71_6, hfz71_7, hfz71_8, hfz71_9, hfz71_10, hfz71_11⟩ := cl12 BK223
         go_wp2_with (first | (go_at_call 12; (with_reducible refine (msg_Check.calls kj10 (bt a0 0) t214 t217 (wrap64 (t220)) x224004_10 x224005_10 x224006_10 x224007_10 x224008_10 x224009_10 x224010_10 x224011_10 t249 _ A67.out).mono ?_); rintro e w72 ⟨rfl, hb⟩; have n0_ := Bx0 BK212 hb; have n1_ := Bx0 BK223 hb; have n2_ := Ax (IsS69.below (by repeat (first | (with_reducible first | exact HIB213.out | apply IsS69.alloc | apply IsS69.drewN | apply IsS69.drew | apply IsS69.set_0 | apply IsS69.set_1 | refine IsS69.far ?_ NB213_212.out _ | refine IsS69.far ?_ NB213_223.out _) | exact HIB213.out)) hb); have n3_ := Bs3 HB hb (IsS69.ge HIB213.out) GE212.out GE223.out; clear BK212; clear BK223; clear HIB213; clear HB; have BK212 := n0_; have BK223 := n1_; have HIB213 := n2_; have HB := n3_; clear n0_ n1_ n2_ n3_; (try clear hb); (try clear hb2); (try clear hk); (try clear hi)))
         go_meet
         case rel => exact ⟨_, ((t249 != 0)), rS, H', ⟨by have := HJ10.out; first | omega | exact Nat.le_refl _⟩, ⟨bf0 BK212.out⟩, ⟨bf0 BK223.out⟩, ⟨bw3 HB.out (IsS69.ge HIB213.out) GE212.out GE223.out⟩⟩
        ·rw [if_neg c66] at H
         have c66b0 : (x214000_10.toList == ([] : List UInt8)) = false := beq_eq_false_iff_ne.mpr c66
         have c66b1 : (x214000_10.toList != ([] : List UInt8)) = true := bne_iff_ne.mpr c66
         have H' := Ax H
         clear H
         obtain ⟨HGz73, hgz73⟩ := HIB213.out
         have hcz73_0 := cellS69_0 HGz73
         have hcz73_1 := cellS69_1 HGz73
         have hfz73_0 := blk_frozen HGz73 0
         have hfz73_1 := blk_frozen HGz73 1
         clear HGz73 hgz73
         go_wp2
         go_meet
         case rel => exact ⟨_, (true), rS, H', ⟨by have := HJ10.out; first | omega | exact Nat.le_refl _⟩, ⟨bf0 BK212.out⟩, ⟨bf0 BK223.out⟩, ⟨bw3 HB.out (IsS69.ge HIB213.out) GE212.out GE223.out⟩⟩
       ·rw [if_neg c65] at H
        have c65b0 : (x214001_10 == 0) = false := beq_eq_false_iff_ne.mpr c65
        have c65b1 : (x214001_10 != 0) = true := bne_iff_ne.mpr c65
        (first | rw [c65b0] | (simp only [i64_w, i32_w]; rw [c65b0]) | skip)
        have H' := Ax H
        clear H
        obtain ⟨HGz74, hgz74⟩ := HIB213.out
        have hcz74_0 := cellS69_0 HGz74
        have hcz74_1 := cellS69_1 HGz74
        have hfz74_0 := blk_frozen HGz74 0
        have hfz74_1 := blk_frozen HGz74 1
        clear HGz74 hgz74
        go_wp2
        go_meet
        case rel => exact ⟨_, (true), rS, H', ⟨by have := HJ10.out; first | omega | exact Nat.le_refl _⟩, ⟨bf0 BK212.out⟩, ⟨bf0 BK223.out⟩, ⟨bw3 HB.out (IsS69.ge HIB213.out) GE212.out GE223.out⟩⟩
      case rest =>
       clear HC64
       try clear c2
       try clear p2
       try clear c3
       try clear c4
       try clear c5
       try clear c6
       try clear p6
       try clear c7
       try clear c21
       try clear c22
       try clear c23
       try clear c25
       try clear c32
       try clear c33
       try clear c35
       try clear c35b0
       try clear c35b1
       try clear c40
       try clear c41
       try clear c43
       try clear c43b0
       try clear c43b1
       try clear c46
       try clear c47
       try clear c49
       try clear c49b0
       try clear c49b1
       try clear c58
       try clear c58b0
       try clear c58b1
       try clear c61
       try clear c62
       try clear p64
       try clear c65
       try clear c65b0
       try clear c65b1
       try clear c66
       try clear c66b0
       try clear c66b1
       try clear c69
       try clear c70
       try clear hcz34_0
       try clear hcz34_1
       try clear hcz34_10
       try clear hcz34_11
       try clear hcz34_2
       try clear hcz34_3
       try clear hcz34_4
       try clear hcz34_5
       try clear hcz34_6
       try clear hcz34_7
       try clear hcz34_8
       try clear hcz34_9
       try clear hcz42_0
       try clear hcz42_1
       try clear hcz42_10
       try clear hcz42_11
       try clear hcz42_2
       try clear hcz42_3
       try clear hcz42_4
       try clear hcz42_5
       try clear hcz42_6
       try clear hcz42_7
       try clear hcz42_8
       try clear hcz42_9
       try clear hcz48_0
       try clear hcz48_1
       try clear hcz48_10
       try clear hcz48_11
       try clear hcz48_2
       try clear hcz48_3
       try clear hcz48_4
       try clear hcz48_5
       try clear hcz48_6
       try clear hcz48_7
       try clear hcz48_8
       try clear hcz48_9
       try clear hcz63_0
       try clear hcz63_1
       try clear hcz63_10
       try clear hcz63_11
       try clear hcz63_2
       try clear hcz63_3
       try clear hcz63_4
       try clear hcz63_5
       try clear hcz63_6
       try clear hcz63_7
       try clear hcz63_8
       try clear hcz63_9
       try clear hcz68_0
       try clear hcz68_1
       try clear hcz71_0
       try clear hcz71_1
       try clear hcz71_10
       try clear hcz71_11
       try clear hcz71_2
       try clear hcz71_3
       try clear hcz71_4
       try clear hcz71_5
       try clear hcz71_6
       try clear hcz71_7
       try clear hcz71_8
       try clear hcz71_9
       try clear hcz73_0
       try clear hcz73_1
       try clear hcz74_0
       try clear hcz74_1
       try clear hfz34_0
       try clear hfz34_1
       try clear hfz34_10
       try clear hfz34_11
       try clear hfz34_2
       try clear hfz34_3
       try clear hfz34_4
       try clear hfz34_5
       try clear hfz34_6
       try clear hfz34_7
       try clear hfz34_8
       try clear hfz34_9
       try clear hfz42_0
       try clear hfz42_1
       try clear hfz42_10
       try clear hfz42_11
       try clear hfz42_2
       try clear hfz42_3
       try clear hfz42_4
       try clear hfz42_5
       try clear hfz42_6
       try clear hfz42_7
       try clear hfz42_8
       try clear hfz42_9
       try clear hfz48_0
       try clear hfz48_1
       try clear hfz48_10
       try clear hfz48_11
       try clear hfz48_2
       try clear hfz48_3
       try clear hfz48_4
       try clear hfz48_5
       try clear hfz48_6
       try clear hfz48_7
       try clear hfz48_8
       try clear hfz48_9
       try clear hfz63_0
       try clear hfz63_1
       try clear hfz63_10
       try clear hfz63_11
       try clear hfz63_2
       try clear hfz63_3
       try clear hfz63_4
       try clear hfz63_5
       try clear hfz63_6
       try clear hfz63_7
       try clear hfz63_8
       try clear hfz63_9
       try clear hfz68_0
       try clear hfz68_1
       try clear hfz71_0
       try clear hfz71_1
       try clear hfz71_10
       try clear hfz71_11
       try clear hfz71_2
       try clear hfz71_3
       try clear hfz71_4
       try clear hfz71_5
       try clear hfz71_6
       try clear hfz71_7
       try clear hfz71_8
       try clear hfz71_9
       try clear hfz73_0
       try clear hfz73_1
       try clear hfz74_0
       try clear hfz74_1
       try clear p2
       try clear p6
       obtain ⟨kq, x82_63, rfl, HA, HJ63, BK212, BK223, HB⟩ := hcut
       cases kq with
       | zero => exact absurd HA.out (by simp [msg_Get.j1])
       | succ kj63 =>
        have H := HA.out
        clear HA
        simp only [msg_Get.j1] at H
        by_cases c75 : x82_63 = true
        ·subst c75
         have H1 : (some (0, 0, 0, 0, false, 0, 0, 0, 0, 0, 0, 0, 7)) = some (r1, r2, r3, r4, r5, r6, r7, r8, r9, r10, r11, r12, r13) := by rw [if_pos rfl] at H; exact H
         clear H
         have H := H1
         clear H1
         simp only [Option.some.injEq, Prod.mk.injEq] at H
         obtain ⟨rfl, rfl, rfl, rfl, rfl, rfl, rfl, rfl, rfl, rfl, rfl, rfl, rfl⟩ := H
         have hnb76 := NB212_223.out
         have hnc76 := NB223_212.out
         obtain ⟨hcz77_0, hcz77_1, hcz77_2, hcz77_3, hcz77_4, hcz77_5, hcz77_6, hcz77_7, hcz77_8, hcz77_9, hcz77_10, hcz77_11, hfz77_0, hfz77_1, hfz77_2, hfz77_3, hfz77_4, hfz77_5, hfz77_6, hfz77_7, hfz77_8, hfz77_9, hfz77_10, hfz77_11⟩ := cl12 BK212
         go_wp2
         refine bodyPost_ret (results_ct rfl _ _ gb212 35 #[.int .u8 0, .int .i64 0, .int .u64 0, .int .i64 0, .bool false, .int .u64 0, .int .u64 0, .int .i64 0, .int .u8 0, .int .i64 0, .int .i64 0, .int .i64 0] (0, 0) _ rfl (by (with_reducible repeat (first | refine blk_drewN ?_ _ | refine blk_drew ?_ | refine blk_alloc ?_ _)); refine blk_put (cs := #[.int .u8 0, .int .i64 0, .int .u64 0, .int .i64 0, .bool false, .int .u64 0, .int .u64 0, .int .i64 0, .int .u8 0, .int .i64 0, .int .i64 0, .int .i64 0]) ?_ 11 _ rfl; (with_reducible repeat (first | refine blk_drewN ?_ _ | refine blk_drew ?_ | refine blk_alloc ?_ _)); refine blk_put (cs := #[.int .u8 0, .int .i64 0, .int .u64 0, .int .i64 0, .bool false, .int .u64 0, .int .u64 0, .int .i64 0, .int .u8 0, .int .i64 0, .int .i64 0, .int .i64 0]) ?_ 10 _ rfl; (with_reducible repeat (first | refine blk_drewN ?_ _ | refine blk_drew ?_ | refine blk_alloc ?_ _)); refine blk_put (cs := #[.int .u8 0, .int .i64 0, .int .u64 0, .int .i64 0, .bool false, .int .u64 0, .int .u64 0, .int .i64 0, .int .u8 0, .int .i64 0, .int .i64 0, .int .i64 0]) ?_ 9 _ rfl; (with_reducible repeat (first | refine blk_drewN ?_ _ | refine blk_drew ?_ | refine blk_alloc ?_ _)); refine blk_put (cs := #[.int .u8 0, .int .i64 0, .int .u64 0, .int .i64 0, .bool false, .int .u64 0, .int .u64 0, .int .i64 0, .int .u8 0, .int .i64 0, .int .i64 0, .int .i64 0]) ?_ 8 _ rfl; (with_reducible repeat (first | refine blk_drewN ?_ _ | refine blk_drew ?_ | refine blk_alloc ?_ _)); refine blk_put (cs := #[.int .u8 0, .int .i64 0, .int .u64 0, .int .i64 0, .bool false, .int .u64 0, .int .u64 0, .int .i64 0, .int .u8 0, .int .i64 0, .int .i64 0, .int .i64 0]) ?_ 7 _ rfl; (with_reducible repeat (first | refine blk_drewN ?_ _ | refine blk_drew ?_ | refine blk_alloc ?_ _)); refine blk_put (cs := #[.int .u8 0, .int .i64 0, .int .u64 0, .int .i64 0, .bool false, .int .u64 0, .int .u64 0, .int .i64 0, .int .u8 0, .int .i64 0, .int .i64 0, .int .i64 0]) ?_ 6 _ rfl; (with_reducible repeat (first | refine blk_drewN ?_ _ | refine blk_drew ?_ | refine blk_alloc ?_ _)); refine blk_put (cs := #[.int .u8 0, .int .i64 0, .int .u64 0, .int .i64 0, .bool false, .int .u64 0, .int .u64 0, .int .i64 0, .int .u8 0, .int .i64 0, .int .i64 0, .int .i64 0]) ?_ 5 _ rfl; (with_reducible repeat (first | refine blk_drewN ?_ _ | refine blk_drew ?_ | refine blk_alloc ?_ _)); refine blk_put (cs := #[.int .u8 0, .int .i64 0, .int .u64 0, .int .i64 0, .bool false, .int .u64 0, .int .u64 0, .int .i64 0, .int .u8 0, .int .i64 0, .int .i64 0, .int .i64 0]) ?_ 4 _ rfl; (with_reducible repeat (first | refine blk_drewN ?_ _ | refine blk_drew ?_ | refine blk_alloc ?_ _)); refine blk_put (cs := #[.int .u8 0, .int .i64 0, .int .u64 0, .int .i64 0, .bool false, .int .u64 0, .int .u64 0, .int .i64 0, .int .u8 0, .int .i64 0, .int .i64 0, .int .i64 0]) ?_ 3 _ rfl; (with_reducible repeat (first | refine blk_drewN ?_ _ | refine blk_drew ?_ | refine blk_alloc ?_ _)); refine blk_put (cs := #[.int .u8 0, .int .i64 0, .int .u64 0, .int .i64 0, .bool false, .int .u64 0, .int .u64 0, .int .i64 0, .int .u8 0, .int .i64 0, .int .i64 0, .int .i64 0]) ?_ 2 _ rfl; (with_reducible repeat (first | refine blk_drewN ?_ _ | refine blk_drew ?_ | refine blk_alloc ?_ _)); refine blk_put (cs := #[.int .u8 0, .int .i64 0, .int .u64 0, .int .i64 0, .bool false, .int .u64 0, .int .u64 0, .int .i64 0, .int .u8 0, .int .i64 0, .int .i64 0, .int .i64 0]) ?_ 1 _ rfl; (with_reducible repeat (first | refine blk_drewN ?_ _ | refine blk_drew ?_ | refine blk_alloc ?_ _)); refine blk_put (cs := #[.int .u8 0, .int .i64 0, .int .u64 0, .int .i64 0, .bool false, .int .u64 0, .int .u64 0, .int .i64 0, .int .u8 0, .int .i64 0, .int .i64 0, .int .i64 0]) ?_ 0 _ rfl; (with_reducible repeat (first | refine blk_drewN ?_ _ | refine blk_drew ?_ | refine blk_alloc ?_ _)); exact BK212.out) Try.underlying35 rfl (by kernel_rfl)) rfl ?_
         exact ⟨eS, bw2 HB.out GE212.out GE223.out⟩
        ·replace c75 := Bool.eq_false_iff.mpr c75
         subst c75
         have H1 : (some ((bt a0 0), t214, t217, (wrap64 (t220)), x224004_10, x224005_10, x224006_10, x224007_10, x224008_10, x224009_10, x224010_10, x224011_10, 0)) = some (r1, r2, r3, r4, r5, r6, r7, r8, r9, r10, r11, r12, r13) := by rw [if_neg (show ¬ (false = true) by decide)] at H; exact H
         clear H
         have H := H1
         clear H1
         simp only [Option.some.injEq, Prod.mk.injEq] at H
         obtain ⟨rfl, rfl, rfl, rfl, rfl, rfl, rfl, rfl, rfl, rfl, rfl, rfl, rfl⟩ := H
         have hnb78 := NB223_212.out
         have hnc78 := NB212_223.out
         obtain ⟨hcz79_0, hcz79_1, hcz79_2, hcz79_3, hcz79_4, hcz79_5, hcz79_6, hcz79_7, hcz79_8, hcz79_9, hcz79_10, hcz79_11, hfz79_0, hfz79_1, hfz79_2, hfz79_3, hfz79_4, hfz79_5, hfz79_6, hfz79_7, hfz79_8, hfz79_9, hfz79_10, hfz79_11⟩ := cl12 BK223
         obtain ⟨hcz80_0, hcz80_1, hcz80_2, hcz80_3, hcz80_4, hcz80_5, hcz80_6, hcz80_7, hcz80_8, hcz80_9, hcz80_10, hcz80_11, hfz80_0, hfz80_1, hfz80_2, hfz80_3, hfz80_4, hfz80_5, hfz80_6, hfz80_7, hfz80_8, hfz80_9, hfz80_10, hfz80_11⟩ := cl12 BK212
         go_wp2
         refine bodyPost_ret (results_ct rfl _ _ gb212 35 #[.int .u8 (bt a0 0), .int .i64 t214, .int .u64 t217, .int .i64 (wrap64 (t220)), .bool x224004_10, .int .u64 x224005_10, .int .u64 x224006_10, .int .i64 x224007_10, .int .u8 x224008_10, .int .i64 x224009_10, .int .i64 x224010_10, .int .i64 x224011_10] (0, 0) _ rfl (by (with_reducible repeat (first | refine blk_drewN ?_ _ | refine blk_drew ?_ | refine blk_alloc ?_ _)); refine blk_put (cs := #[.int .u8 (bt a0 0), .int .i64 t214, .int .u64 t217, .int .i64 (wrap64 (t220)), .bool x224004_10, .int .u64 x224005_10, .int .u64 x224006_10, .int .i64 x224007_10, .int .u8 x224008_10, .int .i64 x224009_10, .int .i64 x224010_10, .int .i64 0]) ?_ 11 _ rfl; (with_reducible repeat (first | refine blk_drewN ?_ _ | refine blk_drew ?_ | refine blk_alloc ?_ _)); refine blk_put (cs := #[.int .u8 (bt a0 0), .int .i64 t214, .int .u64 t217, .int .i64 (wrap64 (t220)), .bool x224004_10, .int .u64 x224005_10, .int .u64 x224006_10, .int .i64 x224007_10, .int .u8 x224008_10, .int .i64 x224009_10, .int .i64 0, .int .i64 0]) ?_ 10 _ rfl; (with_reducible repeat (first | refine blk_drewN ?_ _ | refine blk_drew ?_ | refine blk_alloc ?_ _)); refine blk_put (cs := #[.int .u8 (bt a0 0), .int .i64 t214, .int .u64 t217, .int .i64 (wrap64 (t220)), .bool x224004_10, .int .u64 x224005_10, .int .u64 x224006_10, .int .i64 x224007_10, .int .u8 x224008_10, .int .i64 0, .int .i64 0, .int .i64 0]) ?_ 9 _ rfl; (with_reducible repeat (first | refine blk_drewN ?_ _ | refine blk_drew ?_ | refine blk_alloc ?_ _)); refine blk_put (cs := #[.int .u8 (bt a0 0), .int .i64 t214, .int .u64 t217, .int .i64 (wrap64 (t220)), .bool x224004_10, .int .u64 x224005_10, .int .u64 x224006_10, .int .i64 x224007_10, .int .u8 0, .int .i64 0, .int .i64 0, .int .i64 0]) ?_ 8 _ rfl; (with_reducible repeat (first | refine blk_drewN ?_ _ | refine blk_drew ?_ | refine blk_alloc ?_ _)); refine blk_put (cs := #[.int .u8 (bt a0 0), .int .i64 t214, .int .u64 t217, .int .i64 (wrap64 (t220)), .bool x224004_10, .int .u64 x224005_10, .int .u64 x224006_10, .int .i64 0, .int .u8 0, .int .i64 0, .int .i64 0, .int .i64 0]) ?_ 7 _ rfl; (with_reducible repeat (first | refine blk_drewN ?_ _ | refine blk_drew ?_ | refine blk_alloc ?_ _)); refine blk_put (cs := #[.int .u8 (bt a0 0), .int .i64 t214, .int .u64 t217, .int .i64 (wrap64 (t220)), .bool x224004_10, .int .u64 x224005_10, .int .u64 0, .int .i64 0, .int .u8 0, .int .i64 0, .int .i64 0, .int .i64 0]) ?_ 6 _ rfl; (with_reducible repeat (first | refine blk_drewN ?_ _ | refine blk_drew ?_ | refine blk_alloc ?_ _)); refine blk_put (cs := #[.int .u8 (bt a0 0), .int .i64 t214, .int .u64 t217, .int .i64 (wrap64 (t220)), .bool x224004_10, .int .u64 0, .int .u64 0, .int .i64 0, .int .u8 0, .int .i64 0, .int .i64 0, .int .i64 0]) ?_ 5 _ rfl; (with_reducible repeat (first | refine blk_drewN ?_ _ | refine blk_drew ?_ | refine blk_alloc ?_ _)); refine blk_put (cs := #[.int .u8 (bt a0 0), .int .i64 t214, .int .u64 t217, .int .i64 (wrap64 (t220)), .bool false, .int .u64 0, .int .u64 0, .int .i64 0, .int .u8 0, .int .i64 0, .int .i64 0, .int .i64 0]) ?_ 4 _ rfl; (with_reducible repeat (first | refine blk_drewN ?_ _ | refine blk_drew ?_ | refine blk_alloc ?_ _)); refine blk_put (cs := #[.int .u8 (bt a0 0), .int .i64 t214, .int .u64 t217, .int .i64 0, .bool false, .int .u64 0, .int .u64 0, .int .i64 0, .int .u8 0, .int .i64 0, .int .i64 0, .int .i64 0]) ?_ 3 _ rfl; (with_reducible repeat (first | refine blk_drewN ?_ _ | refine blk_drew ?_ | refine blk_alloc ?_ _)); refine blk_put (cs := #[.int .u8 (bt a0 0), .int .i64 t214, .int .u64 0, .int .i64 0, .bool false, .int .u64 0, .int .u64 0, .int .i64 0, .int .u8 0, .int .i64 0, .int .i64 0, .int .i64 0]) ?_ 2 _ rfl; (with_reducible repeat (first | refine blk_drewN ?_ _ | refine blk_drew ?_ | refine blk_alloc ?_ _)); refine blk_put (cs := #[.int .u8 (bt a0 0), .int .i64 0, .int .u64 0, .int .i64 0, .bool false, .int .u64 0, .int .u64 0, .int .i64 0, .int .u8 0, .int .i64 0, .int .i64 0, .int .i64 0]) ?_ 1 _ rfl; (with_reducible repeat (first | refine blk_drewN ?_ _ | refine blk_drew ?_ | refine blk_alloc ?_ _)); refine blk_put (cs := #[.int .u8 0, .int .i64 0, .int .u64 0, .int .i64 0, .bool false, .int .u64 0, .int .u64 0, .int .i64 0, .int .u8 0, .int .i64 0, .int .i64 0, .int .i64 0]) ?_ 0 _ rfl; (with_reducible repeat (first | refine blk_drewN ?_ _ | refine blk_drew ?_ | refine blk_alloc ?_ _)); exact BK212.out) Try.underlying35 rfl (by kernel_rfl)) rfl ?_
         exact ⟨eS, bw2 HB.out GE212.out GE223.out⟩
   ·rw [if_neg c6] at H
    exact absurd H (by simp)
  ·rw [if_neg c5] at H
   exact absurd H (by simp)
end Go.Proofs.Ytcnkiigobcigbaa.Q
end
section
namespace Go.Proofs.Ytcnkiigobcigbaa.Q
open Go.RowKit Go.Proofs.YtcnkiigobcigbaaW.PrintWords Go.Proofs.YtcnkiigobcigbaaW.PrintLast Go.Proofs.YtcnkiigobcigbaaW.PrintMore
attribute [local go_sem] max2_int min2_int max_two min_two max_three min_three max_four min_four   -- for this text's walks alone
set_option linter.unusedVariables false
set_option linter.unusedSimpArgs false
attribute [local go_sem high] eqA35
mutual
def spoortop_TopStream.l0 : Nat → ByteArray → List (S35) → List Int → ByteArray → Int → Int → Option (Bool)
 | 0, _, _, _, _, _, _ => none
 | k + 1, x0, x1, x2, x7, x29, x30 => if x30 < x29 then (if 0 ≤ x30 then (if x30 < (x0.size : Int) then (if (bt x0 x30) = 245 then (some true) else (spoortop_TopStream.l0 k x0 x1 x2 x7 x29 (wrap64 (x30 + 1)))) else (none)) else (none)) else (spoortop_TopStream.l1 k x0 x1 x2 x7 x1 (x1.length : Int) 0)
def spoortop_TopStream.l1 : Nat → ByteArray → List (S35) → List Int → ByteArray → List (S35) → Int → Int → Option (Bool)
 | 0, _, _, _, _, _, _, _ => none
 | k + 1, x0, x1, x2, x7, x38, x39, x40 => if x40 < x39 then (if 0 ≤ x40 then (if x40 < (x38.length : Int) then ((msg_Put.f k ((rd_T35 x38 x40).f0) ((rd_T35 x38 x40).f1) ((rd_T35 x38 x40).f2) ((rd_T35 x38 x40).f3) ((rd_T35 x38 x40).f4.f0) ((rd_T35 x38 x40).f4.f1.f0) ((rd_T35 x38 x40).f4.f1.f1) ((rd_T35 x38 x40).f4.f2) ((rd_T35 x38 x40).f5.f0) ((rd_T35 x38 x40).f5.f1) ((rd_T35 x38 x40).f6) ((rd_T35 x38 x40).f7)).bind fun bt253 => ((cutter_Wrap.f bt253.1).bind fun bt255 => (if bt253.2 = 0 then (if bt255.2 = 0 then (if x7.size + bt255.1.size ≤ 9223372036854775807 then (spoortop_TopStream.l1 k x0 x1 x2 (x7 ++ bt255.1) x38 x39 (wrap64 (x40 + 1))) else (none)) else (none)) else (some (bt253.2 == 2))))) else (none)) else (none)) else (if x0.size + x7.size ≤ 9223372036854775807 then (spoortop_TopStream.l2 k x0 x1 x2 (x0 ++ x7) ([] : List (S47)) 0 (⟨#[]⟩ : ByteArray) false 0) else (none))
def spoortop_TopStream.l2 : Nat → ByteArray → List (S35) → List Int → ByteArray → List (S47) → Int → ByteArray → Bool → Int → Option (Bool)
 | 0, _, _, _, _, _, _, _, _, _ => none
 | k + 1, x0, x1, x2, x7, x16, x17, x258000, x258001, x258002 => if x7.toList = ([] : List UInt8) then (if x0.toList = ([] : List UInt8) then (spoortop_TopStream.j3 k x1 x16 x258000 x258001 x258002) else (if (x16.length : Int) = 0 then (none) else (if 0 < (x16.length : Int) then (if ((rd_T47 x16 0).f0) = 2 then (if 1 ≤ (x16.length : Int) then (spoortop_TopStream.j3 k x1 (x16.drop (1 : Int).toNat) x258000 x258001 x258002) else (none)) else (none)) else (none)))) else (if x17 < (x2.length : Int) then (if 0 ≤ x17 then (if 0 ≤ (mn (x7.size : Int) (wrap64 (rd x2 x17))) then (if (mn (x7.size : Int) (wrap64 (rd x2 x17))) ≤ (x7.size : Int) then ((cutter_Feed.f k x258000 x258001 x258002 (x7.extract 0 ((mn (x7.size : Int) (wrap64 (rd x2 x17))) : Int).toNat)).bind fun bt259 => (if bt259.2.2.2.2 = 0 then (if x16.length + bt259.2.2.2.1.length < 5864062014805 then (spoortop_TopStream.l2 k x0 x1 x2 (x7.extract ((mn (x7.size : Int) (wrap64 (rd x2 x17))) : Int).toNat x7.size) (x16 ++ bt259.2.2.2.1) (wrap64 (x17 + 1)) bt259.1 bt259.2.1 bt259.2.2.1) else (none)) else (none))) else (none)) else (none)) else (none)) else (if 0 ≤ (x7.size : Int) then (if (x7.size : Int) ≤ (x7.size : Int) then ((cutter_Feed.f k x258000 x258001 x258002 (x7.extract 0 ((x7.size : Int) : Int).toNat)).bind fun bt270 => (if bt270.2.2.2.2 = 0 then (if x16.length + bt270.2.2.2.1.length < 5864062014805 then (spoortop_TopStream.l2 k x0 x1 x2 (x7.extract ((x7.size : Int) : Int).toNat x7.size) (x16 ++ bt270.2.2.2.1) (wrap64 (x17 + 1)) bt270.1 bt270.2.1 bt270.2.2.1) else (none)) else (none))) else (none)) else (none)))
def spoortop_TopStream.j3 : Nat → List (S35) → List (S47) → ByteArray → Bool → Int → Option (Bool)
 | 0, _, _, _, _, _ => none
 | k + 1, x1, x16, x258000, x258001, x258002 => if (x16.length : Int) = (x1.length : Int) then (spoortop_TopStream.l3 k x1 x16 (x16.length : Int) 0 x258000 x258001 x258002) else (none)
def spoortop_TopStream.l3 : Nat → List (S35) → List (S47) → Int → Int → ByteArray → Bool → Int → Option (Bool)
 | 0, _, _, _, _, _, _, _ => none
 | k + 1, x1, x121, x122, x123, x258000, x258001, x258002 => if x123 < x122 then (if 0 ≤ x123 then (if x123 < (x121.length : Int) then ((msg_Get.f k ((rd_T47 x121 x123).f1)).bind fun bt287 => (if ((rd_T47 x121 x123).f0) = 1 then (if bt287.2.2.2.2.2.2.2.2.2.2.2.2 = 0 then (if x123 < (x1.length : Int) then (if (!(bt287.1 == ((rd_T35 x1 x123).f0)) || (!(bt287.2.1 == ((rd_T35 x1 x123).f1)) || (!(bt287.2.2.1 == ((rd_T35 x1 x123).f2)) || (!(bt287.2.2.2.1 == ((rd_T35 x1 x123).f3)) || ((!(bt287.2.2.2.2.1 == ((rd_T35 x1 x123).f4.f0)) || ((!(bt287.2.2.2.2.2.1 == ((rd_T35 x1 x123).f4.f1.f0)) || (!(bt287.2.2.2.2.2.2.1 == ((rd_T35 x1 x123).f4.f1.f1)))) || (!(bt287.2.2.2.2.2.2.2.1 == ((rd_T35 x1 x123).f4.f2))))) || ((!(bt287.2.2.2.2.2.2.2.2.1 == ((rd_T35 x1 x123).f5.f0)) || (!(bt287.2.2.2.2.2.2.2.2.2.1 == ((rd_T35 x1 x123).f5.f1)))) || (!(bt287.2.2.2.2.2.2.2.2.2.2.1 == ((rd_T35 x1 x123).f6)) || (!(bt287.2.2.2.2.2.2.2.2.2.2.2.1 == ((rd_T35 x1 x123).f7)))))))))) = true then (none) else (spoortop_TopStream.l3 k x1 x121 x122 (wrap64 (x123 + 1)) x258000 x258001 x258002)) else (none)) else (none)) else (none))) else (none)) else (none)) else (if x258000.toList = ([] : List UInt8) then (some (x258002 == 0)) else (none))
end
def spoortop_TopStream.f (k : Nat) (a0 : ByteArray) (l1 : List (S35)) (l2 : List Int) : Option (Bool) := (spoortop_begins.f k).bind fun t250 => (if t250 = true then (spoortop_TopStream.l0 k a0 l1 l2 (⟨#[]⟩ : ByteArray) (a0.size : Int) 0) else (none))
def spoortop_TopStream.T30 : Bool × List (List Nat × List Nat) := (true, [([], []), ([], []), ([], []), ([1, 2], [1, 2]), ([0, 3], [0, 3]), ([4], [4]), ([5], [5]), ([5], [5]), ([5], [5]), ([], []), ([9, 6, 4, 0, 1, 2, 3, 4, 5, 6, 9], [6, 9]), ([7, 10, 0, 1, 2, 3, 4, 5, 6, 7, 9, 10], [7]), ([8, 11, 0, 1, 2, 3, 4, 5, 6, 7, 8, 9, 10, 11], [8])])
def spoortop_TopStream.B30 : List Nat := [0, 0, 0, 6, 15, 31, 63, 63, 63, 0, 639, 1791, 4095]
theorem spoortop_TopStream.tab30 : rtab .any (opsOf Try.f3 30) = spoortop_TopStream.T30 := by kernel_rfl
theorem spoortop_TopStream.bits30 : waitsOk spoortop_TopStream.T30.2 spoortop_TopStream.B30 = true := by kernel_rfl
def spoortop_TopStream.T33 : Bool × List (List Nat × List Nat) := (true, [([], []), ([], []), ([], []), ([1, 2], [1, 2]), ([], []), ([], []), ([4, 5], [4, 5]), ([0, 3, 0], [0]), ([3, 7, 0, 1, 2, 3, 7], [1, 3]), ([6, 8, 0, 1, 2, 3, 4, 5, 6, 7, 8], [4, 6])])
def spoortop_TopStream.B33 : List Nat := [0, 0, 0, 6, 0, 0, 48, 15, 143, 511]
theorem spoortop_TopStream.tab33 : rtab .any (opsOf Try.f3 33) = spoortop_TopStream.T33 := by kernel_rfl
theorem spoortop_TopStream.bits33 : waitsOk spoortop_TopStream.T33.2 spoortop_TopStream.B33 = true := by kernel_rfl
def spoortop_TopStream.T44 : Bool × List (List Nat × List Nat) := (true, [([], []), ([0], [0]), ([1], [1]), ([2], [2]), ([3], [3]), ([4, 3], [3, 4]), ([3, 5], [3, 5]), ([6, 3], [6]), ([7], [7]), ([7], [7]), ([7], [7]), ([9, 10, 7], [7, 9, 10]), ([11, 7], [7, 11]), ([8, 12, 7], [7, 8, 12]), ([7, 13], [7, 13])])
def spoortop_TopStream.B44 : List Nat := [0, 1, 3, 7, 15, 31, 63, 127, 255, 255, 255, 1791, 3839, 8191, 16383]
theorem spoortop_TopStream.tab44 : rtab .any (opsOf Try.f3 44) = spoortop_TopStream.T44 := by kernel_rfl
theorem spoortop_TopStream.bits44 : waitsOk spoortop_TopStream.T44.2 spoortop_TopStream.B44 = true := by kernel_rfl
end Go.Proofs.Ytcnkiigobcigbaa.Q
end
