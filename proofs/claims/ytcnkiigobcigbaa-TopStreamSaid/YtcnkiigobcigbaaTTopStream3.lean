-- Merged and trimmed by this session's program wip/tools/trim.py.
import Derived.Test.YtcnkiigobcigbaaTTopStream2
section
namespace Go.Proofs.Ytcnkiigobcigbaa.Q
open Go.RowKit Go.Proofs.YtcnkiigobcigbaaW.PrintWords Go.Proofs.YtcnkiigobcigbaaW.PrintLast Go.Proofs.YtcnkiigobcigbaaW.PrintMore
attribute [local go_sem] max2_int min2_int max_two min_two max_three min_three max_four min_four   -- for this text's walks alone
set_option linter.unusedVariables false
set_option linter.unusedSimpArgs false
set_option maxHeartbeats 8000000 in
set_option maxRecDepth 100000 in
theorem msg_Put.calls (k : Nat) (a0_0 : Int) (a0_1 : Int) (a0_2 : Int) (a0_3 : Int) (a0_4 : Bool) (a0_5 : Int) (a0_6 : Int) (a0_7 : Int) (a0_8 : Int) (a0_9 : Int) (a0_10 : Int) (a0_11 : Int) (r1 : ByteArray) (r2 : Int) (w : World) (h : msg_Put.f k a0_0 a0_1 a0_2 a0_3 a0_4 a0_5 a0_6 a0_7 a0_8 a0_9 a0_10 a0_11 = some (r1, r2)) :
  Calls Try.prog 5 #[.agg #[.int .u8 a0_0, .int .i64 a0_1, .int .u64 a0_2, .int .i64 a0_3, .bool a0_4, .int .u64 a0_5, .int .u64 a0_6, .int .i64 a0_7, .int .u8 a0_8, .int .i64 a0_9, .int .i64 a0_10, .int .i64 a0_11]] w fun e w' => e = .returned (.tuple #[.string r1, .int .i64 r2]) ∧ Below w.heap.size w w' := by
 have hu35 := Try.underlying35
 have hu30 := Try.underlying30
 have hu33 := Try.underlying33
 have HB := Ax (Below.refl w.heap.size w)
 have H : ((msg_Check.f k a0_0 a0_1 a0_2 a0_3 a0_4 a0_5 a0_6 a0_7 a0_8 a0_9 a0_10 a0_11).bind fun t155 => (if t155 = 0 then ((num_Add.f k (([a0_0] : List Int)) (IntKind.u64.wrap (a0_1))).bind fun t159 => ((num_Add.f k t159 a0_2).bind fun t162 => ((num_Add.f k t162 (IntKind.u64.wrap (a0_3))).bind fun t165 => (if a0_0 = 3 then ((msg_prefix.f t165 a0_4 a0_5 a0_6 a0_7).bind fun t168 => ((msg_action.f k t168 a0_8 a0_9).bind fun t171 => (some (strOfNums t171, 0)))) else (if a0_0 = 4 then ((msg_prefix.f t165 a0_4 a0_5 a0_6 a0_7).bind fun t174 => (some (strOfNums t174, 0))) else (if a0_0 = 5 then ((num_Add.f k t165 (IntKind.u64.wrap (a0_10))).bind fun t177 => ((num_Add.f k t177 (IntKind.u64.wrap (a0_11))).bind fun t180 => (some (strOfNums t180, 0)))) else (if a0_0 = 6 then ((num_Add.f k t165 (IntKind.u64.wrap (a0_10))).bind fun t183 => (some (strOfNums t183, 0))) else (some (strOfNums t165, 0))))))))) else (some ((⟨#[]⟩ : ByteArray), t155)))) = some (r1, r2) := h
 clear h
 replace H := Option.bind_eq_some_iff.mp H
 obtain ⟨t155, A20, H⟩ := H
 replace H : (if t155 = 0 then ((num_Add.f k (([a0_0] : List Int)) (IntKind.u64.wrap (a0_1))).bind fun t159 => ((num_Add.f k t159 a0_2).bind fun t162 => ((num_Add.f k t162 (IntKind.u64.wrap (a0_3))).bind fun t165 => (if a0_0 = 3 then ((msg_prefix.f t165 a0_4 a0_5 a0_6 a0_7).bind fun t168 => ((msg_action.f k t168 a0_8 a0_9).bind fun t171 => (some (strOfNums t171, 0)))) else (if a0_0 = 4 then ((msg_prefix.f t165 a0_4 a0_5 a0_6 a0_7).bind fun t174 => (some (strOfNums t174, 0))) else (if a0_0 = 5 then ((num_Add.f k t165 (IntKind.u64.wrap (a0_10))).bind fun t177 => ((num_Add.f k t177 (IntKind.u64.wrap (a0_11))).bind fun t180 => (some (strOfNums t180, 0)))) else (if a0_0 = 6 then ((num_Add.f k t165 (IntKind.u64.wrap (a0_10))).bind fun t183 => (some (strOfNums t183, 0))) else (some (strOfNums t165, 0))))))))) else (some ((⟨#[]⟩ : ByteArray), t155))) = some (r1, r2) := H
 have A2 := Ax A20
 clear A20
 by_cases c3 : t155 = 0
 ·rw [if_pos c3] at H
  have c3b0 : (t155 == 0) = true := beq_iff_eq.mpr c3
  have c3b1 : (t155 != 0) = false := bne_eq_false_iff_eq.mpr c3
  clear c3
  obtain ⟨y156, hy156⟩ : ∃ y_ : List Int, y_ = (([a0_0] : List Int)) := ⟨_, rfl⟩
  replace H : ((num_Add.f k y156 (IntKind.u64.wrap (a0_1))).bind fun t159 => ((num_Add.f k t159 a0_2).bind fun t162 => ((num_Add.f k t162 (IntKind.u64.wrap (a0_3))).bind fun t165 => (if a0_0 = 3 then ((msg_prefix.f t165 a0_4 a0_5 a0_6 a0_7).bind fun t168 => ((msg_action.f k t168 a0_8 a0_9).bind fun t171 => (some (strOfNums t171, 0)))) else (if a0_0 = 4 then ((msg_prefix.f t165 a0_4 a0_5 a0_6 a0_7).bind fun t174 => (some (strOfNums t174, 0))) else (if a0_0 = 5 then ((num_Add.f k t165 (IntKind.u64.wrap (a0_10))).bind fun t177 => ((num_Add.f k t177 (IntKind.u64.wrap (a0_11))).bind fun t180 => (some (strOfNums t180, 0)))) else (if a0_0 = 6 then ((num_Add.f k t165 (IntKind.u64.wrap (a0_10))).bind fun t183 => (some (strOfNums t183, 0))) else (some (strOfNums t165, 0))))))))) = some (r1, r2) := by first | (rw [hy156]; with_reducible exact H) | (have H2_ := (Option.bind_some _ _).symm.trans H; rw [hy156]; with_reducible exact H2_) | (have H2_ := (Option.bind_some _ _).symm.trans H; with_reducible exact H2_) | with_reducible exact H | (rw [hy156]; exact H) | exact H
  have Ny156 := Ax hy156
  clear hy156
  replace H := Option.bind_eq_some_iff.mp H
  obtain ⟨t159, A40, H⟩ := H
  replace H : ((num_Add.f k t159 a0_2).bind fun t162 => ((num_Add.f k t162 (IntKind.u64.wrap (a0_3))).bind fun t165 => (if a0_0 = 3 then ((msg_prefix.f t165 a0_4 a0_5 a0_6 a0_7).bind fun t168 => ((msg_action.f k t168 a0_8 a0_9).bind fun t171 => (some (strOfNums t171, 0)))) else (if a0_0 = 4 then ((msg_prefix.f t165 a0_4 a0_5 a0_6 a0_7).bind fun t174 => (some (strOfNums t174, 0))) else (if a0_0 = 5 then ((num_Add.f k t165 (IntKind.u64.wrap (a0_10))).bind fun t177 => ((num_Add.f k t177 (IntKind.u64.wrap (a0_11))).bind fun t180 => (some (strOfNums t180, 0)))) else (if a0_0 = 6 then ((num_Add.f k t165 (IntKind.u64.wrap (a0_10))).bind fun t183 => (some (strOfNums t183, 0))) else (some (strOfNums t165, 0)))))))) = some (r1, r2) := H
  have A4 := Ax A40
  clear A40
  replace H := Option.bind_eq_some_iff.mp H
  obtain ⟨t162, A50, H⟩ := H
  replace H : ((num_Add.f k t162 (IntKind.u64.wrap (a0_3))).bind fun t165 => (if a0_0 = 3 then ((msg_prefix.f t165 a0_4 a0_5 a0_6 a0_7).bind fun t168 => ((msg_action.f k t168 a0_8 a0_9).bind fun t171 => (some (strOfNums t171, 0)))) else (if a0_0 = 4 then ((msg_prefix.f t165 a0_4 a0_5 a0_6 a0_7).bind fun t174 => (some (strOfNums t174, 0))) else (if a0_0 = 5 then ((num_Add.f k t165 (IntKind.u64.wrap (a0_10))).bind fun t177 => ((num_Add.f k t177 (IntKind.u64.wrap (a0_11))).bind fun t180 => (some (strOfNums t180, 0)))) else (if a0_0 = 6 then ((num_Add.f k t165 (IntKind.u64.wrap (a0_10))).bind fun t183 => (some (strOfNums t183, 0))) else (some (strOfNums t165, 0))))))) = some (r1, r2) := H
  have A5 := Ax A50
  clear A50
  replace H := Option.bind_eq_some_iff.mp H
  obtain ⟨t165, A60, H⟩ := H
  replace H : (if a0_0 = 3 then ((msg_prefix.f t165 a0_4 a0_5 a0_6 a0_7).bind fun t168 => ((msg_action.f k t168 a0_8 a0_9).bind fun t171 => (some (strOfNums t171, 0)))) else (if a0_0 = 4 then ((msg_prefix.f t165 a0_4 a0_5 a0_6 a0_7).bind fun t174 => (some (strOfNums t174, 0))) else (if a0_0 = 5 then ((num_Add.f k t165 (IntKind.u64.wrap (a0_10))).bind fun t177 => ((num_Add.f k t177 (IntKind.u64.wrap (a0_11))).bind fun t180 => (some (strOfNums t180, 0)))) else (if a0_0 = 6 then ((num_Add.f k t165 (IntKind.u64.wrap (a0_10))).bind fun t183 => (some (strOfNums t183, 0))) else (some (strOfNums t165, 0)))))) = some (r1, r2) := H
  have A6 := Ax A60
  clear A60
  by_cases c7 : a0_0 = 3
  ·rw [if_pos c7] at H
   have c7b0 : (a0_0 == 3) = true := beq_iff_eq.mpr c7
   have c7b1 : (a0_0 != 3) = false := bne_eq_false_iff_eq.mpr c7
   clear c7
   replace H := Option.bind_eq_some_iff.mp H
   obtain ⟨t168, A80, H⟩ := H
   replace H : ((msg_action.f k t168 a0_8 a0_9).bind fun t171 => (some (strOfNums t171, 0))) = some (r1, r2) := H
   have A8 := Ax A80
   clear A80
   replace H := Option.bind_eq_some_iff.mp H
   obtain ⟨t171, A90, H⟩ := H
   replace H : (some (strOfNums t171, 0)) = some (r1, r2) := H
   have A9 := Ax A90
   clear A90
   simp only [Option.some.injEq, Prod.mk.injEq] at H
   obtain ⟨rfl, rfl⟩ := H
   go_enter Try.func5, Try.ntmps5
   try go_wp2_with (first | ((with_reducible refine gate_dst (N := 1) rfl ?_); refine box_event ?hg (N := 1) ?hd (cs := #[.int .u8 a0_0, .int .i64 a0_1, .int .u64 a0_2, .int .i64 a0_3, .bool a0_4, .int .u64 a0_5, .int .u64 a0_6, .int .i64 a0_7, .int .u8 a0_8, .int .i64 a0_9, .int .i64 a0_10, .int .i64 a0_11]) (t := 35) ?hr ?_; (case hd => rfl); (case hg => rfl); (case hr => first | (go_simp; done) | (go_simp; rfl)); intro gb154 hg w10 hbox hb; have n0_ := Bs0 HB hb; have n1_ := Ax (hbox); have n2_ := Gw0 HB hg; have n3_ := Gw0 HB hg; clear HB; have HB := n0_; have BK154 := n1_; have GW154 := n2_; have GE154 := n3_; clear n0_ n1_ n2_ n3_; clear hb hbox hg; obtain ⟨hcz11_0, hcz11_1, hcz11_2, hcz11_3, hcz11_4, hcz11_5, hcz11_6, hcz11_7, hcz11_8, hcz11_9, hcz11_10, hcz11_11, hfz11_0, hfz11_1, hfz11_2, hfz11_3, hfz11_4, hfz11_5, hfz11_6, hfz11_7, hfz11_8, hfz11_9, hfz11_10, hfz11_11⟩ := cl12 BK154) | ((with_reducible refine gate_callee (f := 12) rfl ?_); refine goesL_ (some 7) rfl rfl Try.func12 (by kernel_rfl) rfl #[.agg #[.int .u8 a0_0, .int .i64 a0_1, .int .u64 a0_2, .int .i64 a0_3, .bool a0_4, .int .u64 a0_5, .int .u64 a0_6, .int .i64 a0_7, .int .u8 a0_8, .int .i64 a0_9, .int .i64 a0_10, .int .i64 a0_11]] rfl gS ?_; (with_reducible refine (msg_Check.calls k a0_0 a0_1 a0_2 a0_3 a0_4 a0_5 a0_6 a0_7 a0_8 a0_9 a0_10 a0_11 t155 _ A2.out).mono ?_); rintro e w12 ⟨rfl, hb⟩; refine ⟨_, rfl, ?_⟩; replace BK154 := Bx0 BK154 hb; replace HB := Bs1 HB hb GE154.out; (try clear hb)))
   replace BK154 := Ax (blk_drew BK154.out)
   replace HB := Ax (below_drew1 HB.out)
   refine start_ (n := 15) (S := fun w' => w'.cell? ⟨gb154, 0, none⟩ = some (.int .u8 a0_0) ∧ w'.cell? ⟨gb154, 1, none⟩ = some (.int .i64 a0_1) ∧ w'.cell? ⟨gb154, 2, none⟩ = some (.int .u64 a0_2) ∧ w'.cell? ⟨gb154, 3, none⟩ = some (.int .i64 a0_3) ∧ w'.cell? ⟨gb154, 4, none⟩ = some (.bool a0_4) ∧ w'.cell? ⟨gb154, 5, none⟩ = some (.int .u64 a0_5) ∧ w'.cell? ⟨gb154, 6, none⟩ = some (.int .u64 a0_6) ∧ w'.cell? ⟨gb154, 7, none⟩ = some (.int .i64 a0_7) ∧ w'.cell? ⟨gb154, 8, none⟩ = some (.int .u8 a0_8) ∧ w'.cell? ⟨gb154, 9, none⟩ = some (.int .i64 a0_9) ∧ w'.cell? ⟨gb154, 10, none⟩ = some (.int .i64 a0_10) ∧ w'.cell? ⟨gb154, 11, none⟩ = some (.int .i64 a0_11)) (ds := []) #[fa,fa,fa,fa,fa,fa,fa,fa,fa,fa,fa,fa,fa,fa,fa] (by kernel_rfl) rfl rfl ⟨(blk_cell BK154.out 0).trans rfl, (blk_cell BK154.out 1).trans rfl, (blk_cell BK154.out 2).trans rfl, (blk_cell BK154.out 3).trans rfl, (blk_cell BK154.out 4).trans rfl, (blk_cell BK154.out 5).trans rfl, (blk_cell BK154.out 6).trans rfl, (blk_cell BK154.out 7).trans rfl, (blk_cell BK154.out 8).trans rfl, (blk_cell BK154.out 9).trans rfl, (blk_cell BK154.out 10).trans rfl, (blk_cell BK154.out 11).trans rfl⟩ (fun hHeld => ?_); refine with_tabW msg_Put.tab4 msg_Put.bits4 (fun HT_ HW_ => ?_)
   generalize w12.drew = w13 at BK154 HB hHeld ⊢
   refine pure_ (i := 0) (N := some 11) (v := ?_) (a' := ?_) #[tr,fa,fa,fa,fa,fa,fa,fa,fa,fa,fa,fa,fa,fa,fa] rfl rfl (any_of HT_.out (by kernel_rfl)) (fun _ _ _ h => h) (Or.inl ⟨by rfl, ?_⟩) ?_ ?_
   rotate_left
   ·intro w'
    go_simp
    with_reducible rfl
   rotate_left
   ·simp only [sP]
    rfl
   refine pure_ (i := 3) (N := some 14) (v := ?_) (a' := ?_) #[tr,fa,fa,tr,fa,fa,fa,fa,fa,fa,fa,fa,fa,fa,fa] rfl rfl (any_of HT_.out (by kernel_rfl)) (fun _ _ _ h => h) (Or.inl ⟨by rfl, ?_⟩) ?_ ?_
   rotate_left
   ·intro w'
    go_simp
    with_reducible rfl
   rotate_left
   ·simp only [sP]
    rfl
   refine pure_ (i := 7) (N := some 18) (v := ?_) (a' := ?_) #[tr,fa,fa,tr,fa,fa,fa,tr,fa,fa,fa,fa,fa,fa,fa] rfl rfl (any_of HT_.out (by kernel_rfl)) (fun _ _ _ h => h) (Or.inl ⟨by rfl, ?_⟩) ?_ ?_
   rotate_left
   ·intro w'
    go_simp
    with_reducible rfl
   rotate_left
   ·simp only [sP]
    rfl
   refine pure_ (i := 10) (N := some 21) (v := ?_) (a' := ?_) #[tr,fa,fa,tr,fa,fa,fa,tr,fa,fa,tr,fa,fa,fa,fa] rfl rfl (any_of HT_.out (by kernel_rfl)) (fun _ _ _ h => h) (Or.inl ⟨by rfl, ?_⟩) ?_ ?_
   rotate_left
   ·intro w'
    go_simp
    with_reducible rfl
   rotate_left
   ·simp only [sP]
    rfl
   refine take_ (i := 1) (N := some 12) (v := ?_) (a' := ?_) #[tr,tr,fa,tr,fa,fa,fa,tr,fa,fa,tr,fa,fa,fa,fa] rfl rfl (take_ofW HT_.out HW_.out (by kernel_rfl)) (fun _ _ _ h => h) (Or.inl ⟨by rfl, ?_⟩) hHeld ?_ ?_
   rotate_left
   ·rintro w' ⟨s0, s1, s2, s3, s4, s5, s6, s7, s8, s9, s10, s11⟩
    go_simp
    with_reducible rfl
   rotate_left
   ·simp only [sP]
    rfl
   refine take_ (i := 4) (N := some 15) (v := ?_) (a' := ?_) #[tr,tr,fa,tr,tr,fa,fa,tr,fa,fa,tr,fa,fa,fa,fa] rfl rfl (take_ofW HT_.out HW_.out (by kernel_rfl)) (fun _ _ _ h => h) (Or.inl ⟨by rfl, ?_⟩) hHeld ?_ ?_
   rotate_left
   ·rintro w' ⟨s0, s1, s2, s3, s4, s5, s6, s7, s8, s9, s10, s11⟩
    go_simp
    with_reducible rfl
   rotate_left
   ·simp only [sP]
    rfl
   refine pure_ (i := 5) (N := some 16) (v := ?_) (a' := ?_) #[tr,tr,fa,tr,tr,tr,fa,tr,fa,fa,tr,fa,fa,fa,fa] rfl rfl (any_of HT_.out (by kernel_rfl)) (fun _ _ _ h => h) (Or.inl ⟨by rfl, ?_⟩) ?_ ?_
   rotate_left
   ·intro w'
    go_simp
    with_reducible rfl
   rotate_left
   ·simp only [sP]
    rfl
   refine take_ (i := 8) (N := some 19) (v := ?_) (a' := ?_) #[tr,tr,fa,tr,tr,tr,fa,tr,tr,fa,tr,fa,fa,fa,fa] rfl rfl (take_ofW HT_.out HW_.out (by kernel_rfl)) (fun _ _ _ h => h) (Or.inl ⟨by rfl, ?_⟩) hHeld ?_ ?_
   rotate_left
   ·rintro w' ⟨s0, s1, s2, s3, s4, s5, s6, s7, s8, s9, s10, s11⟩
    go_simp
    with_reducible rfl
   rotate_left
   ·simp only [sP]
    rfl
   refine take_ (i := 11) (N := some 22) (v := ?_) (a' := ?_) #[tr,tr,fa,tr,tr,tr,fa,tr,tr,fa,tr,tr,fa,fa,fa] rfl rfl (take_ofW HT_.out HW_.out (by kernel_rfl)) (fun _ _ _ h => h) (Or.inl ⟨by rfl, ?_⟩) hHeld ?_ ?_
   rotate_left
   ·rintro w' ⟨s0, s1, s2, s3, s4, s5, s6, s7, s8, s9, s10, s11⟩
    go_simp
    with_reducible rfl
   rotate_left
   ·simp only [sP]
    rfl
   refine pure_ (i := 12) (N := some 23) (v := ?_) (a' := ?_) #[tr,tr,fa,tr,tr,tr,fa,tr,tr,fa,tr,tr,tr,fa,fa] rfl rfl (any_of HT_.out (by kernel_rfl)) (fun _ _ _ h => h) (Or.inl ⟨by rfl, ?_⟩) ?_ ?_
   rotate_left
   ·intro w'
    go_simp
    with_reducible rfl
   rotate_left
   ·simp only [sP]
    rfl
   refine one_ (i := 2) (N := some 13) #[tr,tr,tr,tr,tr,tr,fa,tr,tr,fa,tr,tr,tr,fa,fa] rfl rfl (one_of HT_.out (by kernel_rfl)) (by decide) (fun K hK => ?_)
   refine Kd.R_lit_step (Kd.int .u8) _ 5 ?hg (N := 13) ?hd (xs := ([a0_0] : List Int)) (inner := [.int .u8 a0_0]) (ok := fun _ => True) (okp := fun _ => True) ?hr ?hp (fun _ hk => hk) trivial (Below.refl _ _) (Nat.le_refl _) (by simp) ?_; (case hd => rfl); (case hg => rfl); (case hr => first | (go_simp; done) | (go_simp; rfl)); (case hp => exact (Reps.one (show Kd.M (Kd.int .u8) _ _ _ a0_0 [.int .u8 a0_0] from rfl) (Reps.none _ _)))
   intro v157 w14 ho15 hb hg_ hnew_
   clear hg_ hnew_
   (first | rw [← Ny156.out] at ho15 | (simp only [Int.reduceToNat] at ho15; rw [← Ny156.out] at ho15))
   have HO158 := Ax (Kd.R_lower ho15 (below_size (bw1 HB.out GE154.out)))
   replace BK154 := Bx0 BK154 hb
   replace HB := Bs1 HB hb GE154.out
   clear hb ho15
   obtain ⟨Ao16, co16, eo16⟩ := Kd.R_slice HO158.out
   (first | subst eo16 | (injection eo16 with f1_ f2_ f3_; have f4_ := f1_.symm; have f5_ := f3_.symm; clear f1_ f2_ f3_; subst f4_; subst f5_))
   refine hK.out _ _ ⟨(blk_cell BK154.out 0).trans rfl, (blk_cell BK154.out 1).trans rfl, (blk_cell BK154.out 2).trans rfl, (blk_cell BK154.out 3).trans rfl, (blk_cell BK154.out 4).trans rfl, (blk_cell BK154.out 5).trans rfl, (blk_cell BK154.out 6).trans rfl, (blk_cell BK154.out 7).trans rfl, (blk_cell BK154.out 8).trans rfl, (blk_cell BK154.out 9).trans rfl, (blk_cell BK154.out 10).trans rfl, (blk_cell BK154.out 11).trans rfl⟩ (fun hHeld => ?_)
   clear hK K
   refine norm_ (a' := ?_) ?_ ?_
   rotate_left
   ·show Act.put _ (some 13) _ = _
    simp only [sP]
    rfl
   refine one_ (i := 6) (N := some 17) #[tr,tr,tr,tr,tr,tr,tr,tr,tr,fa,tr,tr,tr,fa,fa] rfl rfl (one_of HT_.out (by kernel_rfl)) (by decide) (fun K hK => ?_)
   refine goes_ Try.func13 (by kernel_rfl) rfl #[.slice Ao16 y156.length co16, .int .u64 (IntKind.u64.wrap (a0_1))] (by rfl) rfl rfl gS ?_
   with_reducible refine (num_Add.calls k (fun k_ => some k_ = (.slice Ao16 y156.length co16 : Value).ownBlock) (.slice Ao16 y156.length co16) y156 (IntKind.u64.wrap (a0_1)) t159 w _ ?side1 ?side2 A4.out).mono ?_
   (case side1 => repeat (first | (with_reducible first | exact HB.out | apply below_alloc | apply pw_below_drewN | apply below_drew1 | refine below_set ?_ GE154.out) | exact HB.out))
   (case side2 => exact Kd.R_tight rfl HO158.out)
   rintro e w17 ⟨v160, rfl, ho0, hb, hkp⟩
   refine ⟨_, rfl, ?_⟩
   have n0_ := Ax (blk_kept (bf0 BK154.out) hkp (fun hs_ => (fun e_ => (Kd.R_ne HO158.out BK154.out (by decide)) e_) hs_))
   have n1_ := Ax (Kd.R_mono (ok' := fun k_ => True) ho0 (fun k_ hk_ => trivial))
   have n2_ := Ax (hb)
   clear BK154
   clear HB
   clear HO158
   have BK154 := n0_
   have HO161 := n1_
   have HB := n2_
   clear n0_ n1_ n2_
   (try clear hb)
   (try clear hkp)
   (try clear ho0)
   obtain ⟨Ao18, co18, eo18⟩ := Kd.R_slice HO161.out
   (first | subst eo18 | (injection eo18 with f1_ f2_ f3_; have f4_ := f1_.symm; have f5_ := f3_.symm; clear f1_ f2_ f3_; subst f4_; subst f5_))
   refine hK.out _ _ ⟨(blk_cell BK154.out 0).trans rfl, (blk_cell BK154.out 1).trans rfl, (blk_cell BK154.out 2).trans rfl, (blk_cell BK154.out 3).trans rfl, (blk_cell BK154.out 4).trans rfl, (blk_cell BK154.out 5).trans rfl, (blk_cell BK154.out 6).trans rfl, (blk_cell BK154.out 7).trans rfl, (blk_cell BK154.out 8).trans rfl, (blk_cell BK154.out 9).trans rfl, (blk_cell BK154.out 10).trans rfl, (blk_cell BK154.out 11).trans rfl⟩ (fun hHeld => ?_)
   clear hK K
   refine norm_ (a' := ?_) ?_ ?_
   rotate_left
   ·show Act.put _ (some 17) _ = _
    simp only [sP]
    rfl
   refine one_ (i := 9) (N := some 20) #[tr,tr,tr,tr,tr,tr,tr,tr,tr,tr,tr,tr,tr,fa,fa] rfl rfl (one_of HT_.out (by kernel_rfl)) (by decide) (fun K hK => ?_)
   refine goes_ Try.func13 (by kernel_rfl) rfl #[.slice Ao18 t159.length co18, .int .u64 a0_2] (by rfl) rfl rfl gS ?_
   with_reducible refine (num_Add.calls k (fun k_ => some k_ = (.slice Ao18 t159.length co18 : Value).ownBlock) (.slice Ao18 t159.length co18) t159 a0_2 t162 w _ ?side1 ?side2 A5.out).mono ?_
   (case side1 => repeat (first | (with_reducible first | exact HB.out | apply below_alloc | apply pw_below_drewN | apply below_drew1 | refine below_set ?_ GE154.out) | exact HB.out))
   (case side2 => exact Kd.R_tight rfl HO161.out)
   rintro e w19 ⟨v163, rfl, ho0, hb, hkp⟩
   refine ⟨_, rfl, ?_⟩
   have n0_ := Ax (blk_kept (bf0 BK154.out) hkp (fun hs_ => (fun e_ => (Kd.R_ne HO161.out BK154.out (by decide)) e_) hs_))
   have n1_ := Ax (Kd.R_mono (ok' := fun k_ => True) ho0 (fun k_ hk_ => trivial))
   have n2_ := Ax (hb)
   clear BK154
   clear HB
   clear HO161
   have BK154 := n0_
   have HO164 := n1_
   have HB := n2_
   clear n0_ n1_ n2_
   (try clear hb)
   (try clear hkp)
   (try clear ho0)
   obtain ⟨Ao20, co20, eo20⟩ := Kd.R_slice HO164.out
   (first | subst eo20 | (injection eo20 with f1_ f2_ f3_; have f4_ := f1_.symm; have f5_ := f3_.symm; clear f1_ f2_ f3_; subst f4_; subst f5_))
   refine hK.out _ _ ⟨(blk_cell BK154.out 0).trans rfl, (blk_cell BK154.out 1).trans rfl, (blk_cell BK154.out 2).trans rfl, (blk_cell BK154.out 3).trans rfl, (blk_cell BK154.out 4).trans rfl, (blk_cell BK154.out 5).trans rfl, (blk_cell BK154.out 6).trans rfl, (blk_cell BK154.out 7).trans rfl, (blk_cell BK154.out 8).trans rfl, (blk_cell BK154.out 9).trans rfl, (blk_cell BK154.out 10).trans rfl, (blk_cell BK154.out 11).trans rfl⟩ (fun hHeld => ?_)
   clear hK K
   refine norm_ (a' := ?_) ?_ ?_
   rotate_left
   ·show Act.put _ (some 20) _ = _
    simp only [sP]
    rfl
   refine one_ (i := 13) (N := some 24) #[tr,tr,tr,tr,tr,tr,tr,tr,tr,tr,tr,tr,tr,tr,fa] rfl rfl (one_of HT_.out (by kernel_rfl)) (by decide) (fun K hK => ?_)
   refine goes_ Try.func13 (by kernel_rfl) rfl #[.slice Ao20 t162.length co20, .int .u64 (IntKind.u64.wrap (a0_3))] (by rfl) rfl rfl gS ?_
   with_reducible refine (num_Add.calls k (fun k_ => some k_ = (.slice Ao20 t162.length co20 : Value).ownBlock) (.slice Ao20 t162.length co20) t162 (IntKind.u64.wrap (a0_3)) t165 w _ ?side1 ?side2 A6.out).mono ?_
   (case side1 => repeat (first | (with_reducible first | exact HB.out | apply below_alloc | apply pw_below_drewN | apply below_drew1 | refine below_set ?_ GE154.out) | exact HB.out))
   (case side2 => exact Kd.R_tight rfl HO164.out)
   rintro e w21 ⟨v166, rfl, ho0, hb, hkp⟩
   refine ⟨_, rfl, ?_⟩
   have n0_ := Ax (blk_kept (bf0 BK154.out) hkp (fun hs_ => (fun e_ => (Kd.R_ne HO164.out BK154.out (by decide)) e_) hs_))
   have n1_ := Ax (Kd.R_mono (ok' := fun k_ => True) ho0 (fun k_ hk_ => trivial))
   have n2_ := Ax (hb)
   clear BK154
   clear HB
   clear HO164
   have BK154 := n0_
   have HO167 := n1_
   have HB := n2_
   clear n0_ n1_ n2_
   (try clear hb)
   (try clear hkp)
   (try clear ho0)
   refine hK.out _ _ ⟨(blk_cell BK154.out 0).trans rfl, (blk_cell BK154.out 1).trans rfl, (blk_cell BK154.out 2).trans rfl, (blk_cell BK154.out 3).trans rfl, (blk_cell BK154.out 4).trans rfl, (blk_cell BK154.out 5).trans rfl, (blk_cell BK154.out 6).trans rfl, (blk_cell BK154.out 7).trans rfl, (blk_cell BK154.out 8).trans rfl, (blk_cell BK154.out 9).trans rfl, (blk_cell BK154.out 10).trans rfl, (blk_cell BK154.out 11).trans rfl⟩ (fun hHeld => ?_)
   clear hK K
   refine norm_ (a' := ?_) ?_ ?_
   rotate_left
   ·show Act.put _ (some 24) _ = _
    simp only [sP]
    rfl
   refine pure_ (i := 14) (N := some 5) (v := ?_) (a' := ?_) #[tr,tr,tr,tr,tr,tr,tr,tr,tr,tr,tr,tr,tr,tr,tr] rfl rfl (any_of HT_.out (by kernel_rfl)) (fun _ _ _ h => h) (Or.inl ⟨by rfl, ?_⟩) ?_ ?_
   rotate_left
   ·intro w'
    go_simp
    with_reducible rfl
   rotate_left
   ·simp only [sP]
    rfl
   refine done_ (done_of HT_.out (by kernel_rfl)) ?_
   obtain ⟨hcz22_0, hcz22_1, hcz22_2, hcz22_3, hcz22_4, hcz22_5, hcz22_6, hcz22_7, hcz22_8, hcz22_9, hcz22_10, hcz22_11, hfz22_0, hfz22_1, hfz22_2, hfz22_3, hfz22_4, hfz22_5, hfz22_6, hfz22_7, hfz22_8, hfz22_9, hfz22_10, hfz22_11⟩ := cl12 BK154
   try go_wp2
   replace HO167 := Ax (Kd.R_drew HO167.out)
   replace BK154 := Ax (blk_drew BK154.out)
   replace HB := Ax (below_drew1 HB.out)
   obtain ⟨Ao24, co24, eo24⟩ := Kd.R_slice HO167.out
   (first | subst eo24 | (injection eo24 with f1_ f2_ f3_; have f4_ := f1_.symm; have f5_ := f3_.symm; clear f1_ f2_ f3_; subst f4_; subst f5_))
   refine start_ (n := 8) (S := fun w' => w'.cell? ⟨gb154, 0, none⟩ = some (.int .u8 a0_0) ∧ w'.cell? ⟨gb154, 1, none⟩ = some (.int .i64 a0_1) ∧ w'.cell? ⟨gb154, 2, none⟩ = some (.int .u64 a0_2) ∧ w'.cell? ⟨gb154, 3, none⟩ = some (.int .i64 a0_3) ∧ w'.cell? ⟨gb154, 4, none⟩ = some (.bool a0_4) ∧ w'.cell? ⟨gb154, 5, none⟩ = some (.int .u64 a0_5) ∧ w'.cell? ⟨gb154, 6, none⟩ = some (.int .u64 a0_6) ∧ w'.cell? ⟨gb154, 7, none⟩ = some (.int .i64 a0_7) ∧ w'.cell? ⟨gb154, 8, none⟩ = some (.int .u8 a0_8) ∧ w'.cell? ⟨gb154, 9, none⟩ = some (.int .i64 a0_9) ∧ w'.cell? ⟨gb154, 10, none⟩ = some (.int .i64 a0_10) ∧ w'.cell? ⟨gb154, 11, none⟩ = some (.int .i64 a0_11)) (ds := []) #[fa,fa,fa,fa,fa,fa,fa,fa] (by kernel_rfl) rfl rfl ⟨(blk_cell BK154.out 0).trans rfl, (blk_cell BK154.out 1).trans rfl, (blk_cell BK154.out 2).trans rfl, (blk_cell BK154.out 3).trans rfl, (blk_cell BK154.out 4).trans rfl, (blk_cell BK154.out 5).trans rfl, (blk_cell BK154.out 6).trans rfl, (blk_cell BK154.out 7).trans rfl, (blk_cell BK154.out 8).trans rfl, (blk_cell BK154.out 9).trans rfl, (blk_cell BK154.out 10).trans rfl, (blk_cell BK154.out 11).trans rfl⟩ (fun hHeld => ?_); refine with_tabW msg_Put.tab7 msg_Put.bits7 (fun HT_ HW_ => ?_)
   generalize w21.drew = w23 at HO167 BK154 HB hHeld ⊢
   refine pure_ (i := 0) (N := some 29) (v := ?_) (a' := ?_) #[tr,fa,fa,fa,fa,fa,fa,fa] rfl rfl (any_of HT_.out (by kernel_rfl)) (fun _ _ _ h => h) (Or.inl ⟨by rfl, ?_⟩) ?_ ?_
   rotate_left
   ·intro w'
    go_simp
    with_reducible rfl
   rotate_left
   ·simp only [sP]
    rfl
   refine pure_ (i := 1) (N := some 30) (v := ?_) (a' := ?_) #[tr,tr,fa,fa,fa,fa,fa,fa] rfl rfl (any_of HT_.out (by kernel_rfl)) (fun _ _ _ h => h) (Or.inl ⟨by rfl, ?_⟩) ?_ ?_
   rotate_left
   ·intro w'
    go_simp
    with_reducible rfl
   rotate_left
   ·simp only [sP]
    rfl
   refine pure_ (i := 4) (N := some 33) (v := ?_) (a' := ?_) #[tr,tr,fa,fa,tr,fa,fa,fa] rfl rfl (any_of HT_.out (by kernel_rfl)) (fun _ _ _ h => h) (Or.inl ⟨by rfl, ?_⟩) ?_ ?_
   rotate_left
   ·intro w'
    go_simp
    with_reducible rfl
   rotate_left
   ·simp only [sP]
    rfl
   refine take_ (i := 2) (N := some 31) (v := ?_) (a' := ?_) #[tr,tr,tr,fa,tr,fa,fa,fa] rfl rfl (take_ofW HT_.out HW_.out (by kernel_rfl)) (fun _ _ _ h => h) (Or.inl ⟨by rfl, ?_⟩) hHeld ?_ ?_
   rotate_left
   ·rintro w' ⟨s0, s1, s2, s3, s4, s5, s6, s7, s8, s9, s10, s11⟩
    go_simp
    with_reducible rfl
   rotate_left
   ·simp only [sP]
    rfl
   refine take_ (i := 5) (N := some 34) (v := ?_) (a' := ?_) #[tr,tr,tr,fa,tr,tr,fa,fa] rfl rfl (take_ofW HT_.out HW_.out (by kernel_rfl)) (fun _ _ _ h => h) (Or.inl ⟨by rfl, ?_⟩) hHeld ?_ ?_
   rotate_left
   ·rintro w' ⟨s0, s1, s2, s3, s4, s5, s6, s7, s8, s9, s10, s11⟩
    go_simp
    with_reducible rfl
   rotate_left
   ·simp only [sP]
    rfl
   refine one_ (i := 3) (N := some 32) #[tr,tr,tr,tr,tr,tr,fa,fa] rfl rfl (one_of HT_.out (by kernel_rfl)) (by decide) (fun K hK => ?_)
   refine goes_ Try.func15 (by kernel_rfl) rfl #[.slice Ao24 t165.length co24, .agg #[.bool a0_4, .int .u64 a0_5, .int .u64 a0_6, .int .i64 a0_7]] (by rfl) rfl rfl gS ?_
   with_reducible refine (msg_prefix.calls (fun k_ => some k_ = (.slice Ao24 t165.length co24 : Value).ownBlock) (.slice Ao24 t165.length co24) t165 a0_4 a0_5 a0_6 a0_7 t168 w _ ?side1 ?side2 A8.out).mono ?_
   (case side1 => repeat (first | (with_reducible first | exact HB.out | apply below_alloc | apply pw_below_drewN | apply below_drew1 | refine below_set ?_ GE154.out) | exact HB.out))
   (case side2 => exact Kd.R_tight rfl HO167.out)
   rintro e w25 ⟨v169, rfl, ho0, hb, hkp⟩
   refine ⟨_, rfl, ?_⟩
   have n0_ := Ax (blk_kept (bf0 BK154.out) hkp (fun hs_ => (fun e_ => (Kd.R_ne HO167.out BK154.out (by decide)) e_) hs_))
   have n1_ := Ax (Kd.R_mono (ok' := fun k_ => True) ho0 (fun k_ hk_ => trivial))
   have n2_ := Ax (hb)
   clear BK154
   clear HB
   clear HO167
   have BK154 := n0_
   have HO170 := n1_
   have HB := n2_
   clear n0_ n1_ n2_
   (try clear hb)
   (try clear hkp)
   (try clear ho0)
   obtain ⟨Ao26, co26, eo26⟩ := Kd.R_slice HO170.out
   (first | subst eo26 | (injection eo26 with f1_ f2_ f3_; have f4_ := f1_.symm; have f5_ := f3_.symm; clear f1_ f2_ f3_; subst f4_; subst f5_))
   refine hK.out _ _ ⟨(blk_cell BK154.out 0).trans rfl, (blk_cell BK154.out 1).trans rfl, (blk_cell BK154.out 2).trans rfl, (blk_cell BK154.out 3).trans rfl, (blk_cell BK154.out 4).trans rfl, (blk_cell BK154.out 5).trans rfl, (blk_cell BK154.out 6).trans rfl, (blk_cell BK154.out 7).trans rfl, (blk_cell BK154.out 8).trans rfl, (blk_cell BK154.out 9).trans rfl, (blk_cell BK154.out 10).trans rfl, (blk_cell BK154.out 11).trans rfl⟩ (fun hHeld => ?_)
   clear hK K
   refine norm_ (a' := ?_) ?_ ?_
   rotate_left
   ·show Act.put _ (some 32) _ = _
    simp only [sP]
    rfl
   refine one_ (i := 6) (N := some 35) #[tr,tr,tr,tr,tr,tr,tr,fa] rfl rfl (one_of HT_.out (by kernel_rfl)) (by decide) (fun K hK => ?_)
   refine goes_ Try.func14 (by kernel_rfl) rfl #[.slice Ao26 t168.length co26, .agg #[.int .u8 a0_8, .int .i64 a0_9]] (by rfl) rfl rfl gS ?_
   with_reducible refine (msg_action.calls k (fun k_ => some k_ = (.slice Ao26 t168.length co26 : Value).ownBlock) (.slice Ao26 t168.length co26) t168 a0_8 a0_9 t171 w _ ?side1 ?side2 A9.out).mono ?_
   (case side1 => repeat (first | (with_reducible first | exact HB.out | apply below_alloc | apply pw_below_drewN | apply below_drew1 | refine below_set ?_ GE154.out) | exact HB.out))
   (case side2 => exact Kd.R_tight rfl HO170.out)
   rintro e w27 ⟨v172, rfl, ho0, hb, hkp⟩
   refine ⟨_, rfl, ?_⟩
   have n0_ := Ax (blk_kept (bf0 BK154.out) hkp (fun hs_ => (fun e_ => (Kd.R_ne HO170.out BK154.out (by decide)) e_) hs_))
   have n1_ := Ax (Kd.R_mono (ok' := fun k_ => True) ho0 (fun k_ hk_ => trivial))
   have n2_ := Ax (hb)
   clear BK154
   clear HB
   clear HO170
   have BK154 := n0_
   have HO173 := n1_
   have HB := n2_
   clear n0_ n1_ n2_
   (try clear hb)
   (try clear hkp)
   (try clear ho0)
   refine hK.out _ _ ⟨(blk_cell BK154.out 0).trans rfl, (blk_cell BK154.out 1).trans rfl, (blk_cell BK154.out 2).trans rfl, (blk_cell BK154.out 3).trans rfl, (blk_cell BK154.out 4).trans rfl, (blk_cell BK154.out 5).trans rfl, (blk_cell BK154.out 6).trans rfl, (blk_cell BK154.out 7).trans rfl, (blk_cell BK154.out 8).trans rfl, (blk_cell BK154.out 9).trans rfl, (blk_cell BK154.out 10).trans rfl, (blk_cell BK154.out 11).trans rfl⟩ (fun hHeld => ?_)
   clear hK K
   refine norm_ (a' := ?_) ?_ ?_
   rotate_left
   ·show Act.put _ (some 35) _ = _
    simp only [sP]
    rfl
   refine pure_ (i := 7) (N := some 5) (v := ?_) (a' := ?_) #[tr,tr,tr,tr,tr,tr,tr,tr] rfl rfl (any_of HT_.out (by kernel_rfl)) (fun _ _ _ h => h) (Or.inl ⟨by rfl, ?_⟩) ?_ ?_
   rotate_left
   ·intro w'
    go_simp
    with_reducible rfl
   rotate_left
   ·simp only [sP]
    rfl
   refine done_ (done_of HT_.out (by kernel_rfl)) ?_
   have hcv28 := own_string (P := Try.prog) Try.underlying23 Try.underlying5 Try.underlying9 (Kd.own_of_R HO173.out)
   try go_wp2
   go_ret2
   exact ⟨eS, bw1 HB.out GE154.out⟩
  ·rw [if_neg c7] at H
   have c7b0 : (a0_0 == 3) = false := beq_eq_false_iff_ne.mpr c7
   have c7b1 : (a0_0 != 3) = true := bne_iff_ne.mpr c7
   by_cases c29 : a0_0 = 4
   ·rw [if_pos c29] at H
    have c29b0 : (a0_0 == 4) = true := beq_iff_eq.mpr c29
    have c29b1 : (a0_0 != 4) = false := bne_eq_false_iff_eq.mpr c29
    clear c29
    replace H := Option.bind_eq_some_iff.mp H
    obtain ⟨t174, A300, H⟩ := H
    replace H : (some (strOfNums t174, 0)) = some (r1, r2) := H
    have A30 := Ax A300
    clear A300
    simp only [Option.some.injEq, Prod.mk.injEq] at H
    obtain ⟨rfl, rfl⟩ := H
    go_enter Try.func5, Try.ntmps5
    try go_wp2_with (first | ((with_reducible refine gate_dst (N := 1) rfl ?_); refine box_event ?hg (N := 1) ?hd (cs := #[.int .u8 a0_0, .int .i64 a0_1, .int .u64 a0_2, .int .i64 a0_3, .bool a0_4, .int .u64 a0_5, .int .u64 a0_6, .int .i64 a0_7, .int .u8 a0_8, .int .i64 a0_9, .int .i64 a0_10, .int .i64 a0_11]) (t := 35) ?hr ?_; (case hd => rfl); (case hg => rfl); (case hr => first | (go_simp; done) | (go_simp; rfl)); intro gb154 hg w31 hbox hb; have n0_ := Bs0 HB hb; have n1_ := Ax (hbox); have n2_ := Gw0 HB hg; have n3_ := Gw0 HB hg; clear HB; have HB := n0_; have BK154 := n1_; have GW154 := n2_; have GE154 := n3_; clear n0_ n1_ n2_ n3_; clear hb hbox hg; obtain ⟨hcz32_0, hcz32_1, hcz32_2, hcz32_3, hcz32_4, hcz32_5, hcz32_6, hcz32_7, hcz32_8, hcz32_9, hcz32_10, hcz32_11, hfz32_0, hfz32_1, hfz32_2, hfz32_3, hfz32_4, hfz32_5, hfz32_6, hfz32_7, hfz32_8, hfz32_9, hfz32_10, hfz32_11⟩ := cl12 BK154) | ((with_reducible refine gate_callee (f := 12) rfl ?_); refine goesL_ (some 7) rfl rfl Try.func12 (by kernel_rfl) rfl #[.agg #[.int .u8 a0_0, .int .i64 a0_1, .int .u64 a0_2, .int .i64 a0_3, .bool a0_4, .int .u64 a0_5, .int .u64 a0_6, .int .i64 a0_7, .int .u8 a0_8, .int .i64 a0_9, .int .i64 a0_10, .int .i64 a0_11]] rfl gS ?_; (with_reducible refine (msg_Check.calls k a0_0 a0_1 a0_2 a0_3 a0_4 a0_5 a0_6 a0_7 a0_8 a0_9 a0_10 a0_11 t155 _ A2.out).mono ?_); rintro e w33 ⟨rfl, hb⟩; refine ⟨_, rfl, ?_⟩; replace BK154 := Bx0 BK154 hb; replace HB := Bs1 HB hb GE154.out; (try clear hb)))
    replace BK154 := Ax (blk_drew BK154.out)
    replace HB := Ax (below_drew1 HB.out)
    refine start_ (n := 15) (S := fun w' => w'.cell? ⟨gb154, 0, none⟩ = some (.int .u8 a0_0) ∧ w'.cell? ⟨gb154, 1, none⟩ = some (.int .i64 a0_1) ∧ w'.cell? ⟨gb154, 2, none⟩ = some (.int .u64 a0_2) ∧ w'.cell? ⟨gb154, 3, none⟩ = some (.int .i64 a0_3) ∧ w'.cell? ⟨gb154, 4, none⟩ = some (.bool a0_4) ∧ w'.cell? ⟨gb154, 5, none⟩ = some (.int .u64 a0_5) ∧ w'.cell? ⟨gb154, 6, none⟩ = some (.int .u64 a0_6) ∧ w'.cell? ⟨gb154, 7, none⟩ = some (.int .i64 a0_7) ∧ w'.cell? ⟨gb154, 8, none⟩ = some (.int .u8 a0_8) ∧ w'.cell? ⟨gb154, 9, none⟩ = some (.int .i64 a0_9) ∧ w'.cell? ⟨gb154, 10, none⟩ = some (.int .i64 a0_10) ∧ w'.cell? ⟨gb154, 11, none⟩ = some (.int .i64 a0_11)) (ds := []) #[fa,fa,fa,fa,fa,fa,fa,fa,fa,fa,fa,fa,fa,fa,fa] (by kernel_rfl) rfl rfl ⟨(blk_cell BK154.out 0).trans rfl, (blk_cell BK154.out 1).trans rfl, (blk_cell BK154.out 2).trans rfl, (blk_cell BK154.out 3).trans rfl, (blk_cell BK154.out 4).trans rfl, (blk_cell BK154.out 5).trans rfl, (blk_cell BK154.out 6).trans rfl, (blk_cell BK154.out 7).trans rfl, (blk_cell BK154.out 8).trans rfl, (blk_cell BK154.out 9).trans rfl, (blk_cell BK154.out 10).trans rfl, (blk_cell BK154.out 11).trans rfl⟩ (fun hHeld => ?_); refine with_tabW msg_Put.tab4 msg_Put.bits4 (fun HT_ HW_ => ?_)
    generalize w33.drew = w34 at BK154 HB hHeld ⊢
    refine pure_ (i := 0) (N := some 11) (v := ?_) (a' := ?_) #[tr,fa,fa,fa,fa,fa,fa,fa,fa,fa,fa,fa,fa,fa,fa] rfl rfl (any_of HT_.out (by kernel_rfl)) (fun _ _ _ h => h) (Or.inl ⟨by rfl, ?_⟩) ?_ ?_
    rotate_left
    ·intro w'
     go_simp
     with_reducible rfl
    rotate_left
    ·simp only [sP]
     rfl
    refine pure_ (i := 3) (N := some 14) (v := ?_) (a' := ?_) #[tr,fa,fa,tr,fa,fa,fa,fa,fa,fa,fa,fa,fa,fa,fa] rfl rfl (any_of HT_.out (by kernel_rfl)) (fun _ _ _ h => h) (Or.inl ⟨by rfl, ?_⟩) ?_ ?_
    rotate_left
    ·intro w'
     go_simp
     with_reducible rfl
    rotate_left
    ·simp only [sP]
     rfl
    refine pure_ (i := 7) (N := some 18) (v := ?_) (a' := ?_) #[tr,fa,fa,tr,fa,fa,fa,tr,fa,fa,fa,fa,fa,fa,fa] rfl rfl (any_of HT_.out (by kernel_rfl)) (fun _ _ _ h => h) (Or.inl ⟨by rfl, ?_⟩) ?_ ?_
    rotate_left
    ·intro w'
     go_simp
     with_reducible rfl
    rotate_left
    ·simp only [sP]
     rfl
    refine pure_ (i := 10) (N := some 21) (v := ?_) (a' := ?_) #[tr,fa,fa,tr,fa,fa,fa,tr,fa,fa,tr,fa,fa,fa,fa] rfl rfl (any_of HT_.out (by kernel_rfl)) (fun _ _ _ h => h) (Or.inl ⟨by rfl, ?_⟩) ?_ ?_
    rotate_left
    ·intro w'
     go_simp
     with_reducible rfl
    rotate_left
    ·simp only [sP]
     rfl
    refine take_ (i := 1) (N := some 12) (v := ?_) (a' := ?_) #[tr,tr,fa,tr,fa,fa,fa,tr,fa,fa,tr,fa,fa,fa,fa] rfl rfl (take_ofW HT_.out HW_.out (by kernel_rfl)) (fun _ _ _ h => h) (Or.inl ⟨by rfl, ?_⟩) hHeld ?_ ?_
    rotate_left
    ·rintro w' ⟨s0, s1, s2, s3, s4, s5, s6, s7, s8, s9, s10, s11⟩
     go_simp
     with_reducible rfl
    rotate_left
    ·simp only [sP]
     rfl
    refine take_ (i := 4) (N := some 15) (v := ?_) (a' := ?_) #[tr,tr,fa,tr,tr,fa,fa,tr,fa,fa,tr,fa,fa,fa,fa] rfl rfl (take_ofW HT_.out HW_.out (by kernel_rfl)) (fun _ _ _ h => h) (Or.inl ⟨by rfl, ?_⟩) hHeld ?_ ?_
    rotate_left
    ·rintro w' ⟨s0, s1, s2, s3, s4, s5, s6, s7, s8, s9, s10, s11⟩
     go_simp
     with_reducible rfl
    rotate_left
    ·simp only [sP]
     rfl
    refine pure_ (i := 5) (N := some 16) (v := ?_) (a' := ?_) #[tr,tr,fa,tr,tr,tr,fa,tr,fa,fa,tr,fa,fa,fa,fa] rfl rfl (any_of HT_.out (by kernel_rfl)) (fun _ _ _ h => h) (Or.inl ⟨by rfl, ?_⟩) ?_ ?_
    rotate_left
    ·intro w'
     go_simp
     with_reducible rfl
    rotate_left
    ·simp only [sP]
     rfl
    refine take_ (i := 8) (N := some 19) (v := ?_) (a' := ?_) #[tr,tr,fa,tr,tr,tr,fa,tr,tr,fa,tr,fa,fa,fa,fa] rfl rfl (take_ofW HT_.out HW_.out (by kernel_rfl)) (fun _ _ _ h => h) (Or.inl ⟨by rfl, ?_⟩) hHeld ?_ ?_
    rotate_left
    ·rintro w' ⟨s0, s1, s2, s3, s4, s5, s6, s7, s8, s9, s10, s11⟩
     go_simp
     with_reducible rfl
    rotate_left
    ·simp only [sP]
     rfl
    refine take_ (i := 11) (N := some 22) (v := ?_) (a' := ?_) #[tr,tr,fa,tr,tr,tr,fa,tr,tr,fa,tr,tr,fa,fa,fa] rfl rfl (take_ofW HT_.out HW_.out (by kernel_rfl)) (fun _ _ _ h => h) (Or.inl ⟨by rfl, ?_⟩) hHeld ?_ ?_
    rotate_left
    ·rintro w' ⟨s0, s1, s2, s3, s4, s5, s6, s7, s8, s9, s10, s11⟩
     go_simp
     with_reducible rfl
    rotate_left
    ·simp only [sP]
     rfl
    refine pure_ (i := 12) (N := some 23) (v := ?_) (a' := ?_) #[tr,tr,fa,tr,tr,tr,fa,tr,tr,fa,tr,tr,tr,fa,fa] rfl rfl (any_of HT_.out (by kernel_rfl)) (fun _ _ _ h => h) (Or.inl ⟨by rfl, ?_⟩) ?_ ?_
    rotate_left
    ·intro w'
     go_simp
     with_reducible rfl
    rotate_left
    ·simp only [sP]
     rfl
    refine one_ (i := 2) (N := some 13) #[tr,tr,tr,tr,tr,tr,fa,tr,tr,fa,tr,tr,tr,fa,fa] rfl rfl (one_of HT_.out (by kernel_rfl)) (by decide) (fun K hK => ?_)
    refine Kd.R_lit_step (Kd.int .u8) _ 5 ?hg (N := 13) ?hd (xs := ([a0_0] : List Int)) (inner := [.int .u8 a0_0]) (ok := fun _ => True) (okp := fun _ => True) ?hr ?hp (fun _ hk => hk) trivial (Below.refl _ _) (Nat.le_refl _) (by simp) ?_; (case hd => rfl); (case hg => rfl); (case hr => first | (go_simp; done) | (go_simp; rfl)); (case hp => exact (Reps.one (show Kd.M (Kd.int .u8) _ _ _ a0_0 [.int .u8 a0_0] from rfl) (Reps.none _ _)))
    intro v157 w35 ho36 hb hg_ hnew_
    clear hg_ hnew_
    (first | rw [← Ny156.out] at ho36 | (simp only [Int.reduceToNat] at ho36; rw [← Ny156.out] at ho36))
    have HO158 := Ax (Kd.R_lower ho36 (below_size (bw1 HB.out GE154.out)))
    replace BK154 := Bx0 BK154 hb
    replace HB := Bs1 HB hb GE154.out
    clear hb ho36
    obtain ⟨Ao37, co37, eo37⟩ := Kd.R_slice HO158.out
    (first | subst eo37 | (injection eo37 with f1_ f2_ f3_; have f4_ := f1_.symm; have f5_ := f3_.symm; clear f1_ f2_ f3_; subst f4_; subst f5_))
    refine hK.out _ _ ⟨(blk_cell BK154.out 0).trans rfl, (blk_cell BK154.out 1).trans rfl, (blk_cell BK154.out 2).trans rfl, (blk_cell BK154.out 3).trans rfl, (blk_cell BK154.out 4).trans rfl, (blk_cell BK154.out 5).trans rfl, (blk_cell BK154.out 6).trans rfl, (blk_cell BK154.out 7).trans rfl, (blk_cell BK154.out 8).trans rfl, (blk_cell BK154.out 9).trans rfl, (blk_cell BK154.out 10).trans rfl, (blk_cell BK154.out 11).trans rfl⟩ (fun hHeld => ?_)
    clear hK K
    refine norm_ (a' := ?_) ?_ ?_
    rotate_left
    ·show Act.put _ (some 13) _ = _
     simp only [sP]
     rfl
    refine one_ (i := 6) (N := some 17) #[tr,tr,tr,tr,tr,tr,tr,tr,tr,fa,tr,tr,tr,fa,fa] rfl rfl (one_of HT_.out (by kernel_rfl)) (by decide) (fun K hK => ?_)
    refine goes_ Try.func13 (by kernel_rfl) rfl #[.slice Ao37 y156.length co37, .int .u64 (IntKind.u64.wrap (a0_1))] (by rfl) rfl rfl gS ?_
    with_reducible refine (num_Add.calls k (fun k_ => some k_ = (.slice Ao37 y156.length co37 : Value).ownBlock) (.slice Ao37 y156.length co37) y156 (IntKind.u64.wrap (a0_1)) t159 w _ ?side1 ?side2 A4.out).mono ?_
    (case side1 => repeat (first | (with_reducible first | exact HB.out | apply below_alloc | apply pw_below_drewN | apply below_drew1 | refine below_set ?_ GE154.out) | exact HB.out))
    (case side2 => exact Kd.R_tight rfl HO158.out)
    rintro e w38 ⟨v160, rfl, ho0, hb, hkp⟩
    refine ⟨_, rfl, ?_⟩
    have n0_ := Ax (blk_kept (bf0 BK154.out) hkp (fun hs_ => (fun e_ => (Kd.R_ne HO158.out BK154.out (by decide)) e_) hs_))
    have n1_ := Ax (Kd.R_mono (ok' := fun k_ => True) ho0 (fun k_ hk_ => trivial))
    have n2_ := Ax (hb)
    clear BK154
    clear HB
    clear HO158
    have BK154 := n0_
    have HO161 := n1_
    have HB := n2_
    clear n0_ n1_ n2_
    (try clear hb)
    (try clear hkp)
    (try clear ho0)
    obtain ⟨Ao39, co39, eo39⟩ := Kd.R_slice HO161.out
    (first | subst eo39 | (injection eo39 with f1_ f2_ f3_; have f4_ := f1_.symm; have f5_ := f3_.symm; clear f1_ f2_ f3_; subst f4_; subst f5_))
    refine hK.out _ _ ⟨(blk_cell BK154.out 0).trans rfl, (blk_cell BK154.out 1).trans rfl, (blk_cell BK154.out 2).trans rfl, (blk_cell BK154.out 3).trans rfl, (blk_cell BK154.out 4).trans rfl, (blk_cell BK154.out 5).trans rfl, (blk_cell BK154.out 6).trans rfl, (blk_cell BK154.out 7).trans rfl, (blk_cell BK154.out 8).trans rfl, (blk_cell BK154.out 9).trans rfl, (blk_cell BK154.out 10).trans rfl, (blk_cell BK154.out 11).trans rfl⟩ (fun hHeld => ?_)
    clear hK K
    refine norm_ (a' := ?_) ?_ ?_
    rotate_left
    ·show Act.put _ (some 17) _ = _
     simp only [sP]
     rfl
    refine one_ (i := 9) (N := some 20) #[tr,tr,tr,tr,tr,tr,tr,tr,tr,tr,tr,tr,tr,fa,fa] rfl rfl (one_of HT_.out (by kernel_rfl)) (by decide) (fun K hK => ?_)
    refine goes_ Try.func13 (by kernel_rfl) rfl #[.slice Ao39 t159.length co39, .int .u64 a0_2] (by rfl) rfl rfl gS ?_
    with_reducible refine (num_Add.calls k (fun k_ => some k_ = (.slice Ao39 t159.length co39 : Value).ownBlock) (.slice Ao39 t159.length co39) t159 a0_2 t162 w _ ?side1 ?side2 A5.out).mono ?_
    (case side1 => repeat (first | (with_reducible first | exact HB.out | apply below_alloc | apply pw_below_drewN | apply below_drew1 | refine below_set ?_ GE154.out) | exact HB.out))
    (case side2 => exact Kd.R_tight rfl HO161.out)
    rintro e w40 ⟨v163, rfl, ho0, hb, hkp⟩
    refine ⟨_, rfl, ?_⟩
    have n0_ := Ax (blk_kept (bf0 BK154.out) hkp (fun hs_ => (fun e_ => (Kd.R_ne HO161.out BK154.out (by decide)) e_) hs_))
    have n1_ := Ax (Kd.R_mono (ok' := fun k_ => True) ho0 (fun k_ hk_ => trivial))
    have n2_ := Ax (hb)
    clear BK154
    clear HB
    clear HO161
    have BK154 := n0_
    have HO164 := n1_
    have HB := n2_
    clear n0_ n1_ n2_
    (try clear hb)
    (try clear hkp)
    (try clear ho0)
    obtain ⟨Ao41, co41, eo41⟩ := Kd.R_slice HO164.out
    (first | subst eo41 | (injection eo41 with f1_ f2_ f3_; have f4_ := f1_.symm; have f5_ := f3_.symm; clear f1_ f2_ f3_; subst f4_; subst f5_))
    refine hK.out _ _ ⟨(blk_cell BK154.out 0).trans rfl, (blk_cell BK154.out 1).trans rfl, (blk_cell BK154.out 2).trans rfl, (blk_cell BK154.out 3).trans rfl, (blk_cell BK154.out 4).trans rfl, (blk_cell BK154.out 5).trans rfl, (blk_cell BK154.out 6).trans rfl, (blk_cell BK154.out 7).trans rfl, (blk_cell BK154.out 8).trans rfl, (blk_cell BK154.out 9).trans rfl, (blk_cell BK154.out 10).trans rfl, (blk_cell BK154.out 11).trans rfl⟩ (fun hHeld => ?_)
    clear hK K
    refine norm_ (a' := ?_) ?_ ?_
    rotate_left
    ·show Act.put _ (some 20) _ = _
     simp only [sP]
     rfl
    refine one_ (i := 13) (N := some 24) #[tr,tr,tr,tr,tr,tr,tr,tr,tr,tr,tr,tr,tr,tr,fa] rfl rfl (one_of HT_.out (by kernel_rfl)) (by decide) (fun K hK => ?_)
    refine goes_ Try.func13 (by kernel_rfl) rfl #[.slice Ao41 t162.length co41, .int .u64 (IntKind.u64.wrap (a0_3))] (by rfl) rfl rfl gS ?_
    with_reducible refine (num_Add.calls k (fun k_ => some k_ = (.slice Ao41 t162.length co41 : Value).ownBlock) (.slice Ao41 t162.length co41) t162 (IntKind.u64.wrap (a0_3)) t165 w _ ?side1 ?side2 A6.out).mono ?_
    (case side1 => repeat (first | (with_reducible first | exact HB.out | apply below_alloc | apply pw_below_drewN | apply below_drew1 | refine below_set ?_ GE154.out) | exact HB.out))
    (case side2 => exact Kd.R_tight rfl HO164.out)
    rintro e w42 ⟨v166, rfl, ho0, hb, hkp⟩
    refine ⟨_, rfl, ?_⟩
    have n0_ := Ax (blk_kept (bf0 BK154.out) hkp (fun hs_ => (fun e_ => (Kd.R_ne HO164.out BK154.out (by decide)) e_) hs_))
    have n1_ := Ax (Kd.R_mono (ok' := fun k_ => True) ho0 (fun k_ hk_ => trivial))
    have n2_ := Ax (hb)
    clear BK154
    clear HB
    clear HO164
    have BK154 := n0_
    have HO167 := n1_
    have HB := n2_
    clear n0_ n1_ n2_
    (try clear hb)
    (try clear hkp)
    (try clear ho0)
    refine hK.out _ _ ⟨(blk_cell BK154.out 0).trans rfl, (blk_cell BK154.out 1).trans rfl, (blk_cell BK154.out 2).trans rfl, (blk_cell BK154.out 3).trans rfl, (blk_cell BK154.out 4).trans rfl, (blk_cell BK154.out 5).trans rfl, (blk_cell BK154.out 6).trans rfl, (blk_cell BK154.out 7).trans rfl, (blk_cell BK154.out 8).trans rfl, (blk_cell BK154.out 9).trans rfl, (blk_cell BK154.out 10).trans rfl, (blk_cell BK154.out 11).trans rfl⟩ (fun hHeld => ?_)
    clear hK K
    refine norm_ (a' := ?_) ?_ ?_
    rotate_left
    ·show Act.put _ (some 24) _ = _
     simp only [sP]
     rfl
    refine pure_ (i := 14) (N := some 5) (v := ?_) (a' := ?_) #[tr,tr,tr,tr,tr,tr,tr,tr,tr,tr,tr,tr,tr,tr,tr] rfl rfl (any_of HT_.out (by kernel_rfl)) (fun _ _ _ h => h) (Or.inl ⟨by rfl, ?_⟩) ?_ ?_
    rotate_left
    ·intro w'
     go_simp
     with_reducible rfl
    rotate_left
    ·simp only [sP]
     rfl
    refine done_ (done_of HT_.out (by kernel_rfl)) ?_
    obtain ⟨hcz43_0, hcz43_1, hcz43_2, hcz43_3, hcz43_4, hcz43_5, hcz43_6, hcz43_7, hcz43_8, hcz43_9, hcz43_10, hcz43_11, hfz43_0, hfz43_1, hfz43_2, hfz43_3, hfz43_4, hfz43_5, hfz43_6, hfz43_7, hfz43_8, hfz43_9, hfz43_10, hfz43_11⟩ := cl12 BK154
    obtain ⟨Ao44, co44, eo44⟩ := Kd.R_slice HO167.out
    subst eo44
    try go_wp2_with (first | ((with_reducible refine gate_callee (f := 15) rfl ?_); refine goesL_ (some 41) rfl rfl Try.func15 (by kernel_rfl) rfl #[.slice Ao44 t165.length co44, .agg #[.bool a0_4, .int .u64 a0_5, .int .u64 a0_6, .int .i64 a0_7]] rfl gS ?_; (with_reducible refine (msg_prefix.calls (fun k_ => some k_ = (.slice Ao44 t165.length co44 : Value).ownBlock) (.slice Ao44 t165.length co44) t165 a0_4 a0_5 a0_6 a0_7 t174 w _ ?side1 ?side2 A30.out).mono ?_); (case side1 => repeat (first | (with_reducible first | exact HB.out | apply below_alloc | apply pw_below_drewN | apply below_drew1 | refine below_set ?_ GE154.out) | exact HB.out)); (case side2 => exact Kd.R_tight rfl HO167.out); rintro e w45 ⟨v175, rfl, ho0, hb, hkp⟩; refine ⟨_, rfl, ?_⟩; have n0_ := Ax (blk_kept (bf0 BK154.out) hkp (fun hs_ => (fun e_ => (Kd.R_ne HO167.out BK154.out (by decide)) e_) hs_)); have n1_ := Ax (Kd.R_mono (ok' := fun k_ => True) ho0 (fun k_ hk_ => trivial)); have n2_ := Ax (hb); clear BK154; clear HB; clear HO167; have BK154 := n0_; have HO176 := n1_; have HB := n2_; clear n0_ n1_ n2_; (try clear hb); (try clear hkp); (try clear ho0); have hcv46 := own_string (P := Try.prog) Try.underlying23 Try.underlying5 Try.underlying9 (Kd.own_of_R HO176.out)))
    go_ret2
    exact ⟨eS, bw1 HB.out GE154.out⟩
   ·rw [if_neg c29] at H
    have c29b0 : (a0_0 == 4) = false := beq_eq_false_iff_ne.mpr c29
    have c29b1 : (a0_0 != 4) = true := bne_iff_ne.mpr c29
    by_cases c47 : a0_0 = 5
    ·rw [if_pos c47] at H
     have c47b0 : (a0_0 == 5) = true := beq_iff_eq.mpr c47
     have c47b1 : (a0_0 != 5) = false := bne_eq_false_iff_eq.mpr c47
     clear c47
     replace H := Option.bind_eq_some_iff.mp H
     obtain ⟨t177, A480, H⟩ := H
     replace H : ((num_Add.f k t177 (IntKind.u64.wrap (a0_11))).bind fun t180 => (some (strOfNums t180, 0))) = some (r1, r2) := H
     have A48 := Ax A480
     clear A480
     replace H := Option.bind_eq_some_iff.mp H
     obtain ⟨t180, A490, H⟩ := H
     replace H : (some (strOfNums t180, 0)) = some (r1, r2) := H
     have A49 := Ax A490
     clear A490
     simp only [Option.some.injEq, Prod.mk.injEq] at H
     obtain ⟨rfl, rfl⟩ := H
     go_enter Try.func5, Try.ntmps5
     try go_wp2_with (first | ((with_reducible refine gate_dst (N := 1) rfl ?_); refine box_event ?hg (N := 1) ?hd (cs := #[.int .u8 a0_0, .int .i64 a0_1, .int .u64 a0_2, .int .i64 a0_3, .bool a0_4, .int .u64 a0_5, .int .u64 a0_6, .int .i64 a0_7, .int .u8 a0_8, .int .i64 a0_9, .int .i64 a0_10, .int .i64 a0_11]) (t := 35) ?hr ?_; (case hd => rfl); (case hg => rfl); (case hr => first | (go_simp; done) | (go_simp; rfl)); intro gb154 hg w50 hbox hb; have n0_ := Bs0 HB hb; have n1_ := Ax (hbox); have n2_ := Gw0 HB hg; have n3_ := Gw0 HB hg; clear HB; have HB := n0_; have BK154 := n1_; have GW154 := n2_; have GE154 := n3_; clear n0_ n1_ n2_ n3_; clear hb hbox hg; obtain ⟨hcz51_0, hcz51_1, hcz51_2, hcz51_3, hcz51_4, hcz51_5, hcz51_6, hcz51_7, hcz51_8, hcz51_9, hcz51_10, hcz51_11, hfz51_0, hfz51_1, hfz51_2, hfz51_3, hfz51_4, hfz51_5, hfz51_6, hfz51_7, hfz51_8, hfz51_9, hfz51_10, hfz51_11⟩ := cl12 BK154) | ((with_reducible refine gate_callee (f := 12) rfl ?_); refine goesL_ (some 7) rfl rfl Try.func12 (by kernel_rfl) rfl #[.agg #[.int .u8 a0_0, .int .i64 a0_1, .int .u64 a0_2, .int .i64 a0_3, .bool a0_4, .int .u64 a0_5, .int .u64 a0_6, .int .i64 a0_7, .int .u8 a0_8, .int .i64 a0_9, .int .i64 a0_10, .int .i64 a0_11]] rfl gS ?_; (with_reducible refine (msg_Check.calls k a0_0 a0_1 a0_2 a0_3 a0_4 a0_5 a0_6 a0_7 a0_8 a0_9 a0_10 a0_11 t155 _ A2.out).mono ?_); rintro e w52 ⟨rfl, hb⟩; refine ⟨_, rfl, ?_⟩; replace BK154 := Bx0 BK154 hb; replace HB := Bs1 HB hb GE154.out; (try clear hb)))
     replace BK154 := Ax (blk_drew BK154.out)
     replace HB := Ax (below_drew1 HB.out)
     refine start_ (n := 15) (S := fun w' => w'.cell? ⟨gb154, 0, none⟩ = some (.int .u8 a0_0) ∧ w'.cell? ⟨gb154, 1, none⟩ = some (.int .i64 a0_1) ∧ w'.cell? ⟨gb154, 2, none⟩ = some (.int .u64 a0_2) ∧ w'.cell? ⟨gb154, 3, none⟩ = some (.int .i64 a0_3) ∧ w'.cell? ⟨gb154, 4, none⟩ = some (.bool a0_4) ∧ w'.cell? ⟨gb154, 5, none⟩ = some (.int .u64 a0_5) ∧ w'.cell? ⟨gb154, 6, none⟩ = some (.int .u64 a0_6) ∧ w'.cell? ⟨gb154, 7, none⟩ = some (.int .i64 a0_7) ∧ w'.cell? ⟨gb154, 8, none⟩ = some (.int .u8 a0_8) ∧ w'.cell? ⟨gb154, 9, none⟩ = some (.int .i64 a0_9) ∧ w'.cell? ⟨gb154, 10, none⟩ = some (.int .i64 a0_10) ∧ w'.cell? ⟨gb154, 11, none⟩ = some (.int .i64 a0_11)) (ds := []) #[fa,fa,fa,fa,fa,fa,fa,fa,fa,fa,fa,fa,fa,fa,fa] (by kernel_rfl) rfl rfl ⟨(blk_cell BK154.out 0).trans rfl, (blk_cell BK154.out 1).trans rfl, (blk_cell BK154.out 2).trans rfl, (blk_cell BK154.out 3).trans rfl, (blk_cell BK154.out 4).trans rfl, (blk_cell BK154.out 5).trans rfl, (blk_cell BK154.out 6).trans rfl, (blk_cell BK154.out 7).trans rfl, (blk_cell BK154.out 8).trans rfl, (blk_cell BK154.out 9).trans rfl, (blk_cell BK154.out 10).trans rfl, (blk_cell BK154.out 11).trans rfl⟩ (fun hHeld => ?_); refine with_tabW msg_Put.tab4 msg_Put.bits4 (fun HT_ HW_ => ?_)
     generalize w52.drew = w53 at BK154 HB hHeld ⊢
     refine pure_ (i := 0) (N := some 11) (v := ?_) (a' := ?_) #[tr,fa,fa,fa,fa,fa,fa,fa,fa,fa,fa,fa,fa,fa,fa] rfl rfl (any_of HT_.out (by kernel_rfl)) (fun _ _ _ h => h) (Or.inl ⟨by rfl, ?_⟩) ?_ ?_
     rotate_left
     ·intro w'
      go_simp
      with_reducible rfl
     rotate_left
     ·simp only [sP]
      rfl
     refine pure_ (i := 3) (N := some 14) (v := ?_) (a' := ?_) #[tr,fa,fa,tr,fa,fa,fa,fa,fa,fa,fa,fa,fa,fa,fa] rfl rfl (any_of HT_.out (by kernel_rfl)) (fun _ _ _ h => h) (Or.inl ⟨by rfl, ?_⟩) ?_ ?_
     rotate_left
     ·intro w'
      go_simp
      with_reducible rfl
     rotate_left
     ·simp only [sP]
      rfl
     refine pure_ (i := 7) (N := some 18) (v := ?_) (a' := ?_) #[tr,fa,fa,tr,fa,fa,fa,tr,fa,fa,fa,fa,fa,fa,fa] rfl rfl (any_of HT_.out (by kernel_rfl)) (fun _ _ _ h => h) (Or.inl ⟨by rfl, ?_⟩) ?_ ?_
     rotate_left
     ·intro w'
      go_simp
      with_reducible rfl
     rotate_left
     ·simp only [sP]
      rfl
     refine pure_ (i := 10) (N := some 21) (v := ?_) (a' := ?_) #[tr,fa,fa,tr,fa,fa,fa,tr,fa,fa,tr,fa,fa,fa,fa] rfl rfl (any_of HT_.out (by kernel_rfl)) (fun _ _ _ h => h) (Or.inl ⟨by rfl, ?_⟩) ?_ ?_
     rotate_left
     ·intro w'
      go_simp
      with_reducible rfl
     rotate_left
     ·simp only [sP]
      rfl
     refine take_ (i := 1) (N := some 12) (v := ?_) (a' := ?_) #[tr,tr,fa,tr,fa,fa,fa,tr,fa,fa,tr,fa,fa,fa,fa] rfl rfl (take_ofW HT_.out HW_.out (by kernel_rfl)) (fun _ _ _ h => h) (Or.inl ⟨by rfl, ?_⟩) hHeld ?_ ?_
     rotate_left
     ·rintro w' ⟨s0, s1, s2, s3, s4, s5, s6, s7, s8, s9, s10, s11⟩
      go_simp
      with_reducible rfl
     rotate_left
     ·simp only [sP]
      rfl
     refine take_ (i := 4) (N := some 15) (v := ?_) (a' := ?_) #[tr,tr,fa,tr,tr,fa,fa,tr,fa,fa,tr,fa,fa,fa,fa] rfl rfl (take_ofW HT_.out HW_.out (by kernel_rfl)) (fun _ _ _ h => h) (Or.inl ⟨by rfl, ?_⟩) hHeld ?_ ?_
     rotate_left
     ·rintro w' ⟨s0, s1, s2, s3, s4, s5, s6, s7, s8, s9, s10, s11⟩
      go_simp
      with_reducible rfl
     rotate_left
     ·simp only [sP]
      rfl
     refine pure_ (i := 5) (N := some 16) (v := ?_) (a' := ?_) #[tr,tr,fa,tr,tr,tr,fa,tr,fa,fa,tr,fa,fa,fa,fa] rfl rfl (any_of HT_.out (by kernel_rfl)) (fun _ _ _ h => h) (Or.inl ⟨by rfl, ?_⟩) ?_ ?_
     rotate_left
     ·intro w'
      go_simp
      with_reducible rfl
     rotate_left
     ·simp only [sP]
      rfl
     refine take_ (i := 8) (N := some 19) (v := ?_) (a' := ?_) #[tr,tr,fa,tr,tr,tr,fa,tr,tr,fa,tr,fa,fa,fa,fa] rfl rfl (take_ofW HT_.out HW_.out (by kernel_rfl)) (fun _ _ _ h => h) (Or.inl ⟨by rfl, ?_⟩) hHeld ?_ ?_
     rotate_left
     ·rintro w' ⟨s0, s1, s2, s3, s4, s5, s6, s7, s8, s9, s10, s11⟩
      go_simp
      with_reducible rfl
     rotate_left
     ·simp only [sP]
      rfl
     refine take_ (i := 11) (N := some 22) (v := ?_) (a' := ?_) #[tr,tr,fa,tr,tr,tr,fa,tr,tr,fa,tr,tr,fa,fa,fa] rfl rfl (take_ofW HT_.out HW_.out (by kernel_rfl)) (fun _ _ _ h => h) (Or.inl ⟨by rfl, ?_⟩) hHeld ?_ ?_
     rotate_left
     ·rintro w' ⟨s0, s1, s2, s3, s4, s5, s6, s7, s8, s9, s10, s11⟩
      go_simp
      with_reducible rfl
     rotate_left
     ·simp only [sP]
      rfl
     refine pure_ (i := 12) (N := some 23) (v := ?_) (a' := ?_) #[tr,tr,fa,tr,tr,tr,fa,tr,tr,fa,tr,tr,tr,fa,fa] rfl rfl (any_of HT_.out (by kernel_rfl)) (fun _ _ _ h => h) (Or.inl ⟨by rfl, ?_⟩) ?_ ?_
     rotate_left
     ·intro w'
      go_simp
      with_reducible rfl
     rotate_left
     ·simp only [sP]
      rfl
     refine one_ (i := 2) (N := some 13) #[tr,tr,tr,tr,tr,tr,fa,tr,tr,fa,tr,tr,tr,fa,fa] rfl rfl (one_of HT_.out (by kernel_rfl)) (by decide) (fun K hK => ?_)
     refine Kd.R_lit_step (Kd.int .u8) _ 5 ?hg (N := 13) ?hd (xs := ([a0_0] : List Int)) (inner := [.int .u8 a0_0]) (ok := fun _ => True) (okp := fun _ => True) ?hr ?hp (fun _ hk => hk) trivial (Below.refl _ _) (Nat.le_refl _) (by simp) ?_; (case hd => rfl); (case hg => rfl); (case hr => first | (go_simp; done) | (go_simp; rfl)); (case hp => exact (Reps.one (show Kd.M (Kd.int .u8) _ _ _ a0_0 [.int .u8 a0_0] from rfl) (Reps.none _ _)))
     intro v157 w54 ho55 hb hg_ hnew_
     clear hg_ hnew_
     (first | rw [← Ny156.out] at ho55 | (simp only [Int.reduceToNat] at ho55; rw [← Ny156.out] at ho55))
     have HO158 := Ax (Kd.R_lower ho55 (below_size (bw1 HB.out GE154.out)))
     replace BK154 := Bx0 BK154 hb
     replace HB := Bs1 HB hb GE154.out
     clear hb ho55
     obtain ⟨Ao56, co56, eo56⟩ := Kd.R_slice HO158.out
     (first | subst eo56 | (injection eo56 with f1_ f2_ f3_; have f4_ := f1_.symm; have f5_ := f3_.symm; clear f1_ f2_ f3_; subst f4_; subst f5_))
     refine hK.out _ _ ⟨(blk_cell BK154.out 0).trans rfl, (blk_cell BK154.out 1).trans rfl, (blk_cell BK154.out 2).trans rfl, (blk_cell BK154.out 3).trans rfl, (blk_cell BK154.out 4).trans rfl, (blk_cell BK154.out 5).trans rfl, (blk_cell BK154.out 6).trans rfl, (blk_cell BK154.out 7).trans rfl, (blk_cell BK154.out 8).trans rfl, (blk_cell BK154.out 9).trans rfl, (blk_cell BK154.out 10).trans rfl, (blk_cell BK154.out 11).trans rfl⟩ (fun hHeld => ?_)
     clear hK K
     refine norm_ (a' := ?_) ?_ ?_
     rotate_left
     ·show Act.put _ (some 13) _ = _
      simp only [sP]
      rfl
     refine one_ (i := 6) (N := some 17) #[tr,tr,tr,tr,tr,tr,tr,tr,tr,fa,tr,tr,tr,fa,fa] rfl rfl (one_of HT_.out (by kernel_rfl)) (by decide) (fun K hK => ?_)
     refine goes_ Try.func13 (by kernel_rfl) rfl #[.slice Ao56 y156.length co56, .int .u64 (IntKind.u64.wrap (a0_1))] (by rfl) rfl rfl gS ?_
     with_reducible refine (num_Add.calls k (fun k_ => some k_ = (.slice Ao56 y156.length co56 : Value).ownBlock) (.slice Ao56 y156.length co56) y156 (IntKind.u64.wrap (a0_1)) t159 w _ ?side1 ?side2 A4.out).mono ?_
     (case side1 => repeat (first | (with_reducible first | exact HB.out | apply below_alloc | apply pw_below_drewN | apply below_drew1 | refine below_set ?_ GE154.out) | exact HB.out))
     (case side2 => exact Kd.R_tight rfl HO158.out)
     rintro e w57 ⟨v160, rfl, ho0, hb, hkp⟩
     refine ⟨_, rfl, ?_⟩
     have n0_ := Ax (blk_kept (bf0 BK154.out) hkp (fun hs_ => (fun e_ => (Kd.R_ne HO158.out BK154.out (by decide)) e_) hs_))
     have n1_ := Ax (Kd.R_mono (ok' := fun k_ => True) ho0 (fun k_ hk_ => trivial))
     have n2_ := Ax (hb)
     clear BK154
     clear HB
     clear HO158
     have BK154 := n0_
     have HO161 := n1_
     have HB := n2_
     clear n0_ n1_ n2_
     (try clear hb)
     (try clear hkp)
     (try clear ho0)
     obtain ⟨Ao58, co58, eo58⟩ := Kd.R_slice HO161.out
     (first | subst eo58 | (injection eo58 with f1_ f2_ f3_; have f4_ := f1_.symm; have f5_ := f3_.symm; clear f1_ f2_ f3_; subst f4_; subst f5_))
     refine hK.out _ _ ⟨(blk_cell BK154.out 0).trans rfl, (blk_cell BK154.out 1).trans rfl, (blk_cell BK154.out 2).trans rfl, (blk_cell BK154.out 3).trans rfl, (blk_cell BK154.out 4).trans rfl, (blk_cell BK154.out 5).trans rfl, (blk_cell BK154.out 6).trans rfl, (blk_cell BK154.out 7).trans rfl, (blk_cell BK154.out 8).trans rfl, (blk_cell BK154.out 9).trans rfl, (blk_cell BK154.out 10).trans rfl, (blk_cell BK154.out 11).trans rfl⟩ (fun hHeld => ?_)
     clear hK K
     refine norm_ (a' := ?_) ?_ ?_
     rotate_left
     ·show Act.put _ (some 17) _ = _
      simp only [sP]
      rfl
     refine one_ (i := 9) (N := some 20) #[tr,tr,tr,tr,tr,tr,tr,tr,tr,tr,tr,tr,tr,fa,fa] rfl rfl (one_of HT_.out (by kernel_rfl)) (by decide) (fun K hK => ?_)
     refine goes_ Try.func13 (by kernel_rfl) rfl #[.slice Ao58 t159.length co58, .int .u64 a0_2] (by rfl) rfl rfl gS ?_
     with_reducible refine (num_Add.calls k (fun k_ => some k_ = (.slice Ao58 t159.length co58 : Value).ownBlock) (.slice Ao58 t159.length co58) t159 a0_2 t162 w _ ?side1 ?side2 A5.out).mono ?_
     (case side1 => repeat (first | (with_reducible first | exact HB.out | apply below_alloc | apply pw_below_drewN | apply below_drew1 | refine below_set ?_ GE154.out) | exact HB.out))
     (case side2 => exact Kd.R_tight rfl HO161.out)
     rintro e w59 ⟨v163, rfl, ho0, hb, hkp⟩
     refine ⟨_, rfl, ?_⟩
     have n0_ := Ax (blk_kept (bf0 BK154.out) hkp (fun hs_ => (fun e_ => (Kd.R_ne HO161.out BK154.out (by decide)) e_) hs_))
     have n1_ := Ax (Kd.R_mono (ok' := fun k_ => True) ho0 (fun k_ hk_ => trivial))
     have n2_ := Ax (hb)
     clear BK154
     clear HB
     clear HO161
     have BK154 := n0_
     have HO164 := n1_
     have HB := n2_
     clear n0_ n1_ n2_
     (try clear hb)
     (try clear hkp)
     (try clear ho0)
     obtain ⟨Ao60, co60, eo60⟩ := Kd.R_slice HO164.out
     (first | subst eo60 | (injection eo60 with f1_ f2_ f3_; have f4_ := f1_.symm; have f5_ := f3_.symm; clear f1_ f2_ f3_; subst f4_; subst f5_))
     refine hK.out _ _ ⟨(blk_cell BK154.out 0).trans rfl, (blk_cell BK154.out 1).trans rfl, (blk_cell BK154.out 2).trans rfl, (blk_cell BK154.out 3).trans rfl, (blk_cell BK154.out 4).trans rfl, (blk_cell BK154.out 5).trans rfl, (blk_cell BK154.out 6).trans rfl, (blk_cell BK154.out 7).trans rfl, (blk_cell BK154.out 8).trans rfl, (blk_cell BK154.out 9).trans rfl, (blk_cell BK154.out 10).trans rfl, (blk_cell BK154.out 11).trans rfl⟩ (fun hHeld => ?_)
     clear hK K
     refine norm_ (a' := ?_) ?_ ?_
     rotate_left
     ·show Act.put _ (some 20) _ = _
      simp only [sP]
      rfl
     refine one_ (i := 13) (N := some 24) #[tr,tr,tr,tr,tr,tr,tr,tr,tr,tr,tr,tr,tr,tr,fa] rfl rfl (one_of HT_.out (by kernel_rfl)) (by decide) (fun K hK => ?_)
     refine goes_ Try.func13 (by kernel_rfl) rfl #[.slice Ao60 t162.length co60, .int .u64 (IntKind.u64.wrap (a0_3))] (by rfl) rfl rfl gS ?_
     with_reducible refine (num_Add.calls k (fun k_ => some k_ = (.slice Ao60 t162.length co60 : Value).ownBlock) (.slice Ao60 t162.length co60) t162 (IntKind.u64.wrap (a0_3)) t165 w _ ?side1 ?side2 A6.out).mono ?_
     (case side1 => repeat (first | (with_reducible first | exact HB.out | apply below_alloc | apply pw_below_drewN | apply below_drew1 | refine below_set ?_ GE154.out) | exact HB.out))
     (case side2 => exact Kd.R_tight rfl HO164.out)
     rintro e w61 ⟨v166, rfl, ho0, hb, hkp⟩
     refine ⟨_, rfl, ?_⟩
     have n0_ := Ax (blk_kept (bf0 BK154.out) hkp (fun hs_ => (fun e_ => (Kd.R_ne HO164.out BK154.out (by decide)) e_) hs_))
     have n1_ := Ax (Kd.R_mono (ok' := fun k_ => True) ho0 (fun k_ hk_ => trivial))
     have n2_ := Ax (hb)
     clear BK154
     clear HB
     clear HO164
     have BK154 := n0_
     have HO167 := n1_
     have HB := n2_
     clear n0_ n1_ n2_
     (try clear hb)
     (try clear hkp)
     (try clear ho0)
     refine hK.out _ _ ⟨(blk_cell BK154.out 0).trans rfl, (blk_cell BK154.out 1).trans rfl, (blk_cell BK154.out 2).trans rfl, (blk_cell BK154.out 3).trans rfl, (blk_cell BK154.out 4).trans rfl, (blk_cell BK154.out 5).trans rfl, (blk_cell BK154.out 6).trans rfl, (blk_cell BK154.out 7).trans rfl, (blk_cell BK154.out 8).trans rfl, (blk_cell BK154.out 9).trans rfl, (blk_cell BK154.out 10).trans rfl, (blk_cell BK154.out 11).trans rfl⟩ (fun hHeld => ?_)
     clear hK K
     refine norm_ (a' := ?_) ?_ ?_
     rotate_left
     ·show Act.put _ (some 24) _ = _
      simp only [sP]
      rfl
     refine pure_ (i := 14) (N := some 5) (v := ?_) (a' := ?_) #[tr,tr,tr,tr,tr,tr,tr,tr,tr,tr,tr,tr,tr,tr,tr] rfl rfl (any_of HT_.out (by kernel_rfl)) (fun _ _ _ h => h) (Or.inl ⟨by rfl, ?_⟩) ?_ ?_
     rotate_left
     ·intro w'
      go_simp
      with_reducible rfl
     rotate_left
     ·simp only [sP]
      rfl
     refine done_ (done_of HT_.out (by kernel_rfl)) ?_
     obtain ⟨hcz62_0, hcz62_1, hcz62_2, hcz62_3, hcz62_4, hcz62_5, hcz62_6, hcz62_7, hcz62_8, hcz62_9, hcz62_10, hcz62_11, hfz62_0, hfz62_1, hfz62_2, hfz62_3, hfz62_4, hfz62_5, hfz62_6, hfz62_7, hfz62_8, hfz62_9, hfz62_10, hfz62_11⟩ := cl12 BK154
     try go_wp2
     replace HO167 := Ax (Kd.R_drew HO167.out)
     replace BK154 := Ax (blk_drew BK154.out)
     replace HB := Ax (below_drew1 HB.out)
     obtain ⟨Ao64, co64, eo64⟩ := Kd.R_slice HO167.out
     (first | subst eo64 | (injection eo64 with f1_ f2_ f3_; have f4_ := f1_.symm; have f5_ := f3_.symm; clear f1_ f2_ f3_; subst f4_; subst f5_))
     refine start_ (n := 10) (S := fun w' => w'.cell? ⟨gb154, 0, none⟩ = some (.int .u8 a0_0) ∧ w'.cell? ⟨gb154, 1, none⟩ = some (.int .i64 a0_1) ∧ w'.cell? ⟨gb154, 2, none⟩ = some (.int .u64 a0_2) ∧ w'.cell? ⟨gb154, 3, none⟩ = some (.int .i64 a0_3) ∧ w'.cell? ⟨gb154, 4, none⟩ = some (.bool a0_4) ∧ w'.cell? ⟨gb154, 5, none⟩ = some (.int .u64 a0_5) ∧ w'.cell? ⟨gb154, 6, none⟩ = some (.int .u64 a0_6) ∧ w'.cell? ⟨gb154, 7, none⟩ = some (.int .i64 a0_7) ∧ w'.cell? ⟨gb154, 8, none⟩ = some (.int .u8 a0_8) ∧ w'.cell? ⟨gb154, 9, none⟩ = some (.int .i64 a0_9) ∧ w'.cell? ⟨gb154, 10, none⟩ = some (.int .i64 a0_10) ∧ w'.cell? ⟨gb154, 11, none⟩ = some (.int .i64 a0_11)) (ds := []) #[fa,fa,fa,fa,fa,fa,fa,fa,fa,fa] (by kernel_rfl) rfl rfl ⟨(blk_cell BK154.out 0).trans rfl, (blk_cell BK154.out 1).trans rfl, (blk_cell BK154.out 2).trans rfl, (blk_cell BK154.out 3).trans rfl, (blk_cell BK154.out 4).trans rfl, (blk_cell BK154.out 5).trans rfl, (blk_cell BK154.out 6).trans rfl, (blk_cell BK154.out 7).trans rfl, (blk_cell BK154.out 8).trans rfl, (blk_cell BK154.out 9).trans rfl, (blk_cell BK154.out 10).trans rfl, (blk_cell BK154.out 11).trans rfl⟩ (fun hHeld => ?_); refine with_tabW msg_Put.tab11 msg_Put.bits11 (fun HT_ HW_ => ?_)
     generalize w61.drew = w63 at HO167 BK154 HB hHeld ⊢
     refine pure_ (i := 0) (N := some 44) (v := ?_) (a' := ?_) #[tr,fa,fa,fa,fa,fa,fa,fa,fa,fa] rfl rfl (any_of HT_.out (by kernel_rfl)) (fun _ _ _ h => h) (Or.inl ⟨by rfl, ?_⟩) ?_ ?_
     rotate_left
     ·intro w'
      go_simp
      with_reducible rfl
     rotate_left
     ·simp only [sP]
      rfl
     refine pure_ (i := 1) (N := some 45) (v := ?_) (a' := ?_) #[tr,tr,fa,fa,fa,fa,fa,fa,fa,fa] rfl rfl (any_of HT_.out (by kernel_rfl)) (fun _ _ _ h => h) (Or.inl ⟨by rfl, ?_⟩) ?_ ?_
     rotate_left
     ·intro w'
      go_simp
      with_reducible rfl
     rotate_left
     ·simp only [sP]
      rfl
     refine pure_ (i := 5) (N := some 49) (v := ?_) (a' := ?_) #[tr,tr,fa,fa,fa,tr,fa,fa,fa,fa] rfl rfl (any_of HT_.out (by kernel_rfl)) (fun _ _ _ h => h) (Or.inl ⟨by rfl, ?_⟩) ?_ ?_
     rotate_left
     ·intro w'
      go_simp
      with_reducible rfl
     rotate_left
     ·simp only [sP]
      rfl
     refine take_ (i := 2) (N := some 46) (v := ?_) (a' := ?_) #[tr,tr,tr,fa,fa,tr,fa,fa,fa,fa] rfl rfl (take_ofW HT_.out HW_.out (by kernel_rfl)) (fun _ _ _ h => h) (Or.inl ⟨by rfl, ?_⟩) hHeld ?_ ?_
     rotate_left
     ·rintro w' ⟨s0, s1, s2, s3, s4, s5, s6, s7, s8, s9, s10, s11⟩
      go_simp
      with_reducible rfl
     rotate_left
     ·simp only [sP]
      rfl
     refine pure_ (i := 3) (N := some 47) (v := ?_) (a' := ?_) #[tr,tr,tr,tr,fa,tr,fa,fa,fa,fa] rfl rfl (any_of HT_.out (by kernel_rfl)) (fun _ _ _ h => h) (Or.inl ⟨by rfl, ?_⟩) ?_ ?_
     rotate_left
     ·intro w'
      go_simp
      with_reducible rfl
     rotate_left
     ·simp only [sP]
      rfl
     refine take_ (i := 6) (N := some 50) (v := ?_) (a' := ?_) #[tr,tr,tr,tr,fa,tr,tr,fa,fa,fa] rfl rfl (take_ofW HT_.out HW_.out (by kernel_rfl)) (fun _ _ _ h => h) (Or.inl ⟨by rfl, ?_⟩) hHeld ?_ ?_
     rotate_left
     ·rintro w' ⟨s0, s1, s2, s3, s4, s5, s6, s7, s8, s9, s10, s11⟩
      go_simp
      with_reducible rfl
     rotate_left
     ·simp only [sP]
      rfl
     refine pure_ (i := 7) (N := some 51) (v := ?_) (a' := ?_) #[tr,tr,tr,tr,fa,tr,tr,tr,fa,fa] rfl rfl (any_of HT_.out (by kernel_rfl)) (fun _ _ _ h => h) (Or.inl ⟨by rfl, ?_⟩) ?_ ?_
     rotate_left
     ·intro w'
      go_simp
      with_reducible rfl
     rotate_left
     ·simp only [sP]
      rfl
     refine one_ (i := 4) (N := some 48) #[tr,tr,tr,tr,tr,tr,tr,tr,fa,fa] rfl rfl (one_of HT_.out (by kernel_rfl)) (by decide) (fun K hK => ?_)
     refine goes_ Try.func13 (by kernel_rfl) rfl #[.slice Ao64 t165.length co64, .int .u64 (IntKind.u64.wrap (a0_10))] (by rfl) rfl rfl gS ?_
     with_reducible refine (num_Add.calls k (fun k_ => some k_ = (.slice Ao64 t165.length co64 : Value).ownBlock) (.slice Ao64 t165.length co64) t165 (IntKind.u64.wrap (a0_10)) t177 w _ ?side1 ?side2 A48.out).mono ?_
     (case side1 => repeat (first | (with_reducible first | exact HB.out | apply below_alloc | apply pw_below_drewN | apply below_drew1 | refine below_set ?_ GE154.out) | exact HB.out))
     (case side2 => exact Kd.R_tight rfl HO167.out)
     rintro e w65 ⟨v178, rfl, ho0, hb, hkp⟩
     refine ⟨_, rfl, ?_⟩
     have n0_ := Ax (blk_kept (bf0 BK154.out) hkp (fun hs_ => (fun e_ => (Kd.R_ne HO167.out BK154.out (by decide)) e_) hs_))
     have n1_ := Ax (Kd.R_mono (ok' := fun k_ => True) ho0 (fun k_ hk_ => trivial))
     have n2_ := Ax (hb)
     clear BK154
     clear HB
     clear HO167
     have BK154 := n0_
     have HO179 := n1_
     have HB := n2_
     clear n0_ n1_ n2_
     (try clear hb)
     (try clear hkp)
     (try clear ho0)
     obtain ⟨Ao66, co66, eo66⟩ := Kd.R_slice HO179.out
     (first | subst eo66 | (injection eo66 with f1_ f2_ f3_; have f4_ := f1_.symm; have f5_ := f3_.symm; clear f1_ f2_ f3_; subst f4_; subst f5_))
     refine hK.out _ _ ⟨(blk_cell BK154.out 0).trans rfl, (blk_cell BK154.out 1).trans rfl, (blk_cell BK154.out 2).trans rfl, (blk_cell BK154.out 3).trans rfl, (blk_cell BK154.out 4).trans rfl, (blk_cell BK154.out 5).trans rfl, (blk_cell BK154.out 6).trans rfl, (blk_cell BK154.out 7).trans rfl, (blk_cell BK154.out 8).trans rfl, (blk_cell BK154.out 9).trans rfl, (blk_cell BK154.out 10).trans rfl, (blk_cell BK154.out 11).trans rfl⟩ (fun hHeld => ?_)
     clear hK K
     refine norm_ (a' := ?_) ?_ ?_
     rotate_left
     ·show Act.put _ (some 48) _ = _
      simp only [sP]
      rfl
     refine one_ (i := 8) (N := some 52) #[tr,tr,tr,tr,tr,tr,tr,tr,tr,fa] rfl rfl (one_of HT_.out (by kernel_rfl)) (by decide) (fun K hK => ?_)
     refine goes_ Try.func13 (by kernel_rfl) rfl #[.slice Ao66 t177.length co66, .int .u64 (IntKind.u64.wrap (a0_11))] (by rfl) rfl rfl gS ?_
     with_reducible refine (num_Add.calls k (fun k_ => some k_ = (.slice Ao66 t177.length co66 : Value).ownBlock) (.slice Ao66 t177.length co66) t177 (IntKind.u64.wrap (a0_11)) t180 w _ ?side1 ?side2 A49.out).mono ?_
     (case side1 => repeat (first | (with_reducible first | exact HB.out | apply below_alloc | apply pw_below_drewN | apply below_drew1 | refine below_set ?_ GE154.out) | exact HB.out))
     (case side2 => exact Kd.R_tight rfl HO179.out)
     rintro e w67 ⟨v181, rfl, ho0, hb, hkp⟩
     refine ⟨_, rfl, ?_⟩
     have n0_ := Ax (blk_kept (bf0 BK154.out) hkp (fun hs_ => (fun e_ => (Kd.R_ne HO179.out BK154.out (by decide)) e_) hs_))
     have n1_ := Ax (Kd.R_mono (ok' := fun k_ => True) ho0 (fun k_ hk_ => trivial))
     have n2_ := Ax (hb)
     clear BK154
     clear HB
     clear HO179
     have BK154 := n0_
     have HO182 := n1_
     have HB := n2_
     clear n0_ n1_ n2_
     (try clear hb)
     (try clear hkp)
     (try clear ho0)
     refine hK.out _ _ ⟨(blk_cell BK154.out 0).trans rfl, (blk_cell BK154.out 1).trans rfl, (blk_cell BK154.out 2).trans rfl, (blk_cell BK154.out 3).trans rfl, (blk_cell BK154.out 4).trans rfl, (blk_cell BK154.out 5).trans rfl, (blk_cell BK154.out 6).trans rfl, (blk_cell BK154.out 7).trans rfl, (blk_cell BK154.out 8).trans rfl, (blk_cell BK154.out 9).trans rfl, (blk_cell BK154.out 10).trans rfl, (blk_cell BK154.out 11).trans rfl⟩ (fun hHeld => ?_)
     clear hK K
     refine norm_ (a' := ?_) ?_ ?_
     rotate_left
     ·show Act.put _ (some 52) _ = _
      simp only [sP]
      rfl
     refine pure_ (i := 9) (N := some 5) (v := ?_) (a' := ?_) #[tr,tr,tr,tr,tr,tr,tr,tr,tr,tr] rfl rfl (any_of HT_.out (by kernel_rfl)) (fun _ _ _ h => h) (Or.inl ⟨by rfl, ?_⟩) ?_ ?_
     rotate_left
     ·intro w'
      go_simp
      with_reducible rfl
     rotate_left
     ·simp only [sP]
      rfl
     refine done_ (done_of HT_.out (by kernel_rfl)) ?_
     have hcv68 := own_string (P := Try.prog) Try.underlying23 Try.underlying5 Try.underlying9 (Kd.own_of_R HO182.out)
     try go_wp2
     go_ret2
     exact ⟨eS, bw1 HB.out GE154.out⟩
    ·rw [if_neg c47] at H
     have c47b0 : (a0_0 == 5) = false := beq_eq_false_iff_ne.mpr c47
     have c47b1 : (a0_0 != 5) = true := bne_iff_ne.mpr c47
     by_cases c69 : a0_0 = 6
     ·rw [if_pos c69] at H
      have c69b0 : (a0_0 == 6) = true := beq_iff_eq.mpr c69
      have c69b1 : (a0_0 != 6) = false := bne_eq_false_iff_eq.mpr c69
      clear c69
      replace H := Option.bind_eq_some_iff.mp H
      obtain ⟨t183, A700, H⟩ := H
      replace H : (some (strOfNums t183, 0)) = some (r1, r2) := H
      have A70 := Ax A700
      clear A700
      simp only [Option.some.injEq, Prod.mk.injEq] at H
      obtain ⟨rfl, rfl⟩ := H
      go_enter Try.func5, Try.ntmps5
      try go_wp2_with (first | ((with_reducible refine gate_dst (N := 1) rfl ?_); refine box_event ?hg (N := 1) ?hd (cs := #[.int .u8 a0_0, .int .i64 a0_1, .int .u64 a0_2, .int .i64 a0_3, .bool a0_4, .int .u64 a0_5, .int .u64 a0_6, .int .i64 a0_7, .int .u8 a0_8, .int .i64 a0_9, .int .i64 a0_10, .int .i64 a0_11]) (t := 35) ?hr ?_; (case hd => rfl); (case hg => rfl); (case hr => first | (go_simp; done) | (go_simp; rfl)); intro gb154 hg w71 hbox hb; have n0_ := Bs0 HB hb; have n1_ := Ax (hbox); have n2_ := Gw0 HB hg; have n3_ := Gw0 HB hg; clear HB; have HB := n0_; have BK154 := n1_; have GW154 := n2_; have GE154 := n3_; clear n0_ n1_ n2_ n3_; clear hb hbox hg; obtain ⟨hcz72_0, hcz72_1, hcz72_2, hcz72_3, hcz72_4, hcz72_5, hcz72_6, hcz72_7, hcz72_8, hcz72_9, hcz72_10, hcz72_11, hfz72_0, hfz72_1, hfz72_2, hfz72_3, hfz72_4, hfz72_5, hfz72_6, hfz72_7, hfz72_8, hfz72_9, hfz72_10, hfz72_11⟩ := cl12 BK154) | ((with_reducible refine gate_callee (f := 12) rfl ?_); refine goesL_ (some 7) rfl rfl Try.func12 (by kernel_rfl) rfl #[.agg #[.int .u8 a0_0, .int .i64 a0_1, .int .u64 a0_2, .int .i64 a0_3, .bool a0_4, .int .u64 a0_5, .int .u64 a0_6, .int .i64 a0_7, .int .u8 a0_8, .int .i64 a0_9, .int .i64 a0_10, .int .i64 a0_11]] rfl gS ?_; (with_reducible refine (msg_Check.calls k a0_0 a0_1 a0_2 a0_3 a0_4 a0_5 a0_6 a0_7 a0_8 a0_9 a0_10 a0_11 t155 _ A2.out).mono ?_); rintro e w73 ⟨rfl, hb⟩; refine ⟨_, rfl, ?_⟩; replace BK154 := Bx0 BK154 hb; replace HB := Bs1 HB hb GE154.out; (try clear hb)))
      replace BK154 := Ax (blk_drew BK154.out)
      replace HB := Ax (below_drew1 HB.out)
      refine start_ (n := 15) (S := fun w' => w'.cell? ⟨gb154, 0, none⟩ = some (.int .u8 a0_0) ∧ w'.cell? ⟨gb154, 1, none⟩ = some (.int .i64 a0_1) ∧ w'.cell? ⟨gb154, 2, none⟩ = some (.int .u64 a0_2) ∧ w'.cell? ⟨gb154, 3, none⟩ = some (.int .i64 a0_3) ∧ w'.cell? ⟨gb154, 4, none⟩ = some (.bool a0_4) ∧ w'.cell? ⟨gb154, 5, none⟩ = some (.int .u64 a0_5) ∧ w'.cell? ⟨gb154, 6, none⟩ = some (.int .u64 a0_6) ∧ w'.cell? ⟨gb154, 7, none⟩ = some (.int .i64 a0_7) ∧ w'.cell? ⟨gb154, 8, none⟩ = some (.int .u8 a0_8) ∧ w'.cell? ⟨gb154, 9, none⟩ = some (.int .i64 a0_9) ∧ w'.cell? ⟨gb154, 10, none⟩ = some (.int .i64 a0_10) ∧ w'.cell? ⟨gb154, 11, none⟩ = some (.int .i64 a0_11)) (ds := []) #[fa,fa,fa,fa,fa,fa,fa,fa,fa,fa,fa,fa,fa,fa,fa] (by kernel_rfl) rfl rfl ⟨(blk_cell BK154.out 0).trans rfl, (blk_cell BK154.out 1).trans rfl, (blk_cell BK154.out 2).trans rfl, (blk_cell BK154.out 3).trans rfl, (blk_cell BK154.out 4).trans rfl, (blk_cell BK154.out 5).trans rfl, (blk_cell BK154.out 6).trans rfl, (blk_cell BK154.out 7).trans rfl, (blk_cell BK154.out 8).trans rfl, (blk_cell BK154.out 9).trans rfl, (blk_cell BK154.out 10).trans rfl, (blk_cell BK154.out 11).trans rfl⟩ (fun hHeld => ?_); refine with_tabW msg_Put.tab4 msg_Put.bits4 (fun HT_ HW_ => ?_)
      generalize w73.drew = w74 at BK154 HB hHeld ⊢
      refine pure_ (i := 0) (N := some 11) (v := ?_) (a' := ?_) #[tr,fa,fa,fa,fa,fa,fa,fa,fa,fa,fa,fa,fa,fa,fa] rfl rfl (any_of HT_.out (by kernel_rfl)) (fun _ _ _ h => h) (Or.inl ⟨by rfl, ?_⟩) ?_ ?_
      rotate_left
      ·intro w'
       go_simp
       with_reducible rfl
      rotate_left
      ·simp only [sP]
       rfl
      refine pure_ (i := 3) (N := some 14) (v := ?_) (a' := ?_) #[tr,fa,fa,tr,fa,fa,fa,fa,fa,fa,fa,fa,fa,fa,fa] rfl rfl (any_of HT_.out (by kernel_rfl)) (fun _ _ _ h => h) (Or.inl ⟨by rfl, ?_⟩) ?_ ?_
      rotate_left
      ·intro w'
       go_simp
       with_reducible rfl
      rotate_left
      ·simp only [sP]
       rfl
      refine pure_ (i := 7) (N := some 18) (v := ?_) (a' := ?_) #[tr,fa,fa,tr,fa,fa,fa,tr,fa,fa,fa,fa,fa,fa,fa] rfl rfl (any_of HT_.out (by kernel_rfl)) (fun _ _ _ h => h) (Or.inl ⟨by rfl, ?_⟩) ?_ ?_
      rotate_left
      ·intro w'
       go_simp
       with_reducible rfl
      rotate_left
      ·simp only [sP]
       rfl
      refine pure_ (i := 10) (N := some 21) (v := ?_) (a' := ?_) #[tr,fa,fa,tr,fa,fa,fa,tr,fa,fa,tr,fa,fa,fa,fa] rfl rfl (any_of HT_.out (by kernel_rfl)) (fun _ _ _ h => h) (Or.inl ⟨by rfl, ?_⟩) ?_ ?_
      rotate_left
      ·intro w'
       go_simp
       with_reducible rfl
      rotate_left
      ·simp only [sP]
       rfl
      refine take_ (i := 1) (N := some 12) (v := ?_) (a' := ?_) #[tr,tr,fa,tr,fa,fa,fa,tr,fa,fa,tr,fa,fa,fa,fa] rfl rfl (take_ofW HT_.out HW_.out (by kernel_rfl)) (fun _ _ _ h => h) (Or.inl ⟨by rfl, ?_⟩) hHeld ?_ ?_
      rotate_left
      ·rintro w' ⟨s0, s1, s2, s3, s4, s5, s6, s7, s8, s9, s10, s11⟩
       go_simp
       with_reducible rfl
      rotate_left
      ·simp only [sP]
       rfl
      refine take_ (i := 4) (N := some 15) (v := ?_) (a' := ?_) #[tr,tr,fa,tr,tr,fa,fa,tr,fa,fa,tr,fa,fa,fa,fa] rfl rfl (take_ofW HT_.out HW_.out (by kernel_rfl)) (fun _ _ _ h => h) (Or.inl ⟨by rfl, ?_⟩) hHeld ?_ ?_
      rotate_left
      ·rintro w' ⟨s0, s1, s2, s3, s4, s5, s6, s7, s8, s9, s10, s11⟩
       go_simp
       with_reducible rfl
      rotate_left
      ·simp only [sP]
       rfl
      refine pure_ (i := 5) (N := some 16) (v := ?_) (a' := ?_) #[tr,tr,fa,tr,tr,tr,fa,tr,fa,fa,tr,fa,fa,fa,fa] rfl rfl (any_of HT_.out (by kernel_rfl)) (fun _ _ _ h => h) (Or.inl ⟨by rfl, ?_⟩) ?_ ?_
      rotate_left
      ·intro w'
       go_simp
       with_reducible rfl
      rotate_left
      ·simp only [sP]
       rfl
      refine take_ (i := 8) (N := some 19) (v := ?_) (a' := ?_) #[tr,tr,fa,tr,tr,tr,fa,tr,tr,fa,tr,fa,fa,fa,fa] rfl rfl (take_ofW HT_.out HW_.out (by kernel_rfl)) (fun _ _ _ h => h) (Or.inl ⟨by rfl, ?_⟩) hHeld ?_ ?_
      rotate_left
      ·rintro w' ⟨s0, s1, s2, s3, s4, s5, s6, s7, s8, s9, s10, s11⟩
       go_simp
       with_reducible rfl
      rotate_left
      ·simp only [sP]
       rfl
      refine take_ (i := 11) (N := some 22) (v := ?_) (a' := ?_) #[tr,tr,fa,tr,tr,tr,fa,tr,tr,fa,tr,tr,fa,fa,fa] rfl rfl (take_ofW HT_.out HW_.out (by kernel_rfl)) (fun _ _ _ h => h) (Or.inl ⟨by rfl, ?_⟩) hHeld ?_ ?_
      rotate_left
      ·rintro w' ⟨s0, s1, s2, s3, s4, s5, s6, s7, s8, s9, s10, s11⟩
       go_simp
       with_reducible rfl
      rotate_left
      ·simp only [sP]
       rfl
      refine pure_ (i := 12) (N := some 23) (v := ?_) (a' := ?_) #[tr,tr,fa,tr,tr,tr,fa,tr,tr,fa,tr,tr,tr,fa,fa] rfl rfl (any_of HT_.out (by kernel_rfl)) (fun _ _ _ h => h) (Or.inl ⟨by rfl, ?_⟩) ?_ ?_
      rotate_left
      ·intro w'
       go_simp
       with_reducible rfl
      rotate_left
      ·simp only [sP]
       rfl
      refine one_ (i := 2) (N := some 13) #[tr,tr,tr,tr,tr,tr,fa,tr,tr,fa,tr,tr,tr,fa,fa] rfl rfl (one_of HT_.out (by kernel_rfl)) (by decide) (fun K hK => ?_)
      refine Kd.R_lit_step (Kd.int .u8) _ 5 ?hg (N := 13) ?hd (xs := ([a0_0] : List Int)) (inner := [.int .u8 a0_0]) (ok := fun _ => True) (okp := fun _ => True) ?hr ?hp (fun _ hk => hk) trivial (Below.refl _ _) (Nat.le_refl _) (by simp) ?_; (case hd => rfl); (case hg => rfl); (case hr => first | (go_simp; done) | (go_simp; rfl)); (case hp => exact (Reps.one (show Kd.M (Kd.int .u8) _ _ _ a0_0 [.int .u8 a0_0] from rfl) (Reps.none _ _)))
      intro v157 w75 ho76 hb hg_ hnew_
      clear hg_ hnew_
      (first | rw [← Ny156.out] at ho76 | (simp only [Int.reduceToNat] at ho76; rw [← Ny156.out] at ho76))
      have HO158 := Ax (Kd.R_lower ho76 (below_size (bw1 HB.out GE154.out)))
      replace BK154 := Bx0 BK154 hb
      replace HB := Bs1 HB hb GE154.out
      clear hb ho76
      obtain ⟨Ao77, co77, eo77⟩ := Kd.R_slice HO158.out
      (first | subst eo77 | (injection eo77 with f1_ f2_ f3_; have f4_ := f1_.symm; have f5_ := f3_.symm; clear f1_ f2_ f3_; subst f4_; subst f5_))
      refine hK.out _ _ ⟨(blk_cell BK154.out 0).trans rfl, (blk_cell BK154.out 1).trans rfl, (blk_cell BK154.out 2).trans rfl, (blk_cell BK154.out 3).trans rfl, (blk_cell BK154.out 4).trans rfl, (blk_cell BK154.out 5).trans rfl, (blk_cell BK154.out 6).trans rfl, (blk_cell BK154.out 7).trans rfl, (blk_cell BK154.out 8).trans rfl, (blk_cell BK154.out 9).trans rfl, (blk_cell BK154.out 10).trans rfl, (blk_cell BK154.out 11).trans rfl⟩ (fun hHeld => ?_)
      clear hK K
      refine norm_ (a' := ?_) ?_ ?_
      rotate_left
      ·show Act.put _ (some 13) _ = _
       simp only [sP]
       rfl
      refine one_ (i := 6) (N := some 17) #[tr,tr,tr,tr,tr,tr,tr,tr,tr,fa,tr,tr,tr,fa,fa] rfl rfl (one_of HT_.out (by kernel_rfl)) (by decide) (fun K hK => ?_)
      refine goes_ Try.func13 (by kernel_rfl) rfl #[.slice Ao77 y156.length co77, .int .u64 (IntKind.u64.wrap (a0_1))] (by rfl) rfl rfl gS ?_
      with_reducible refine (num_Add.calls k (fun k_ => some k_ = (.slice Ao77 y156.length co77 : Value).ownBlock) (.slice Ao77 y156.length co77) y156 (IntKind.u64.wrap (a0_1)) t159 w _ ?side1 ?side2 A4.out).mono ?_
      (case side1 => repeat (first | (with_reducible first | exact HB.out | apply below_alloc | apply pw_below_drewN | apply below_drew1 | refine below_set ?_ GE154.out) | exact HB.out))
      (case side2 => exact Kd.R_tight rfl HO158.out)
      rintro e w78 ⟨v160, rfl, ho0, hb, hkp⟩
      refine ⟨_, rfl, ?_⟩
      have n0_ := Ax (blk_kept (bf0 BK154.out) hkp (fun hs_ => (fun e_ => (Kd.R_ne HO158.out BK154.out (by decide)) e_) hs_))
      have n1_ := Ax (Kd.R_mono (ok' := fun k_ => True) ho0 (fun k_ hk_ => trivial))
      have n2_ := Ax (hb)
      clear BK154
      clear HB
      clear HO158
      have BK154 := n0_
      have HO161 := n1_
      have HB := n2_
      clear n0_ n1_ n2_
      (try clear hb)
      (try clear hkp)
      (try clear ho0)
      obtain ⟨Ao79, co79, eo79⟩ := Kd.R_slice HO161.out
      (first | subst eo79 | (injection eo79 with f1_ f2_ f3_; have f4_ := f1_.symm; have f5_ := f3_.symm; clear f1_ f2_ f3_; subst f4_; subst f5_))
      refine hK.out _ _ ⟨(blk_cell BK154.out 0).trans rfl, (blk_cell BK154.out 1).trans rfl, (blk_cell BK154.out 2).trans rfl, (blk_cell BK154.out 3).trans rfl, (blk_cell BK154.out 4).trans rfl, (blk_cell BK154.out 5).trans rfl, (blk_cell BK154.out 6).trans rfl, (blk_cell BK154.out 7).trans rfl, (blk_cell BK154.out 8).trans rfl, (blk_cell BK154.out 9).trans rfl, (blk_cell BK154.out 10).trans rfl, (blk_cell BK154.out 11).trans rfl⟩ (fun hHeld => ?_)
      clear hK K
      refine norm_ (a' := ?_) ?_ ?_
      rotate_left
      ·show Act.put _ (some 17) _ = _
       simp only [sP]
       rfl
      refine one_ (i := 9) (N := some 20) #[tr,tr,tr,tr,tr,tr,tr,tr,tr,tr,tr,tr,tr,fa,fa] rfl rfl (one_of HT_.out (by kernel_rfl)) (by decide) (fun K hK => ?_)
      refine goes_ Try.func13 (by kernel_rfl) rfl #[.slice Ao79 t159.length co79, .int .u64 a0_2] (by rfl) rfl rfl gS ?_
      with_reducible refine (num_Add.calls k (fun k_ => some k_ = (.slice Ao79 t159.length co79 : Value).ownBlock) (.slice Ao79 t159.length co79) t159 a0_2 t162 w _ ?side1 ?side2 A5.out).mono ?_
      (case side1 => repeat (first | (with_reducible first | exact HB.out | apply below_alloc | apply pw_below_drewN | apply below_drew1 | refine below_set ?_ GE154.out) | exact HB.out))
      (case side2 => exact Kd.R_tight rfl HO161.out)
      rintro e w80 ⟨v163, rfl, ho0, hb, hkp⟩
      refine ⟨_, rfl, ?_⟩
      have n0_ := Ax (blk_kept (bf0 BK154.out) hkp (fun hs_ => (fun e_ => (Kd.R_ne HO161.out BK154.out (by decide)) e_) hs_))
      have n1_ := Ax (Kd.R_mono (ok' := fun k_ => True) ho0 (fun k_ hk_ => trivial))
      have n2_ := Ax (hb)
      clear BK154
      clear HB
      clear HO161
      have BK154 := n0_
      have HO164 := n1_
      have HB := n2_
      clear n0_ n1_ n2_
      (try clear hb)
      (try clear hkp)
      (try clear ho0)
      obtain ⟨Ao81, co81, eo81⟩ := Kd.R_slice HO164.out
      (first | subst eo81 | (injection eo81 with f1_ f2_ f3_; have f4_ := f1_.symm; have f5_ := f3_.symm; clear f1_ f2_ f3_; subst f4_; subst f5_))
      refine hK.out _ _ ⟨(blk_cell BK154.out 0).trans rfl, (blk_cell BK154.out 1).trans rfl, (blk_cell BK154.out 2).trans rfl, (blk_cell BK154.out 3).trans rfl, (blk_cell BK154.out 4).trans rfl, (blk_cell BK154.out 5).trans rfl, (blk_cell BK154.out 6).trans rfl, (blk_cell BK154.out 7).trans rfl, (blk_cell BK154.out 8).trans rfl, (blk_cell BK154.out 9).trans rfl, (blk_cell BK154.out 10).trans rfl, (blk_cell BK154.out 11).trans rfl⟩ (fun hHeld => ?_)
      clear hK K
      refine norm_ (a' := ?_) ?_ ?_
      rotate_left
      ·show Act.put _ (some 20) _ = _
       simp only [sP]
       rfl
      refine one_ (i := 13) (N := some 24) #[tr,tr,tr,tr,tr,tr,tr,tr,tr,tr,tr,tr,tr,tr,fa] rfl rfl (one_of HT_.out (by kernel_rfl)) (by decide) (fun K hK => ?_)
      refine goes_ Try.func13 (by kernel_rfl) rfl #[.slice Ao81 t162.length co81, .int .u64 (IntKind.u64.wrap (a0_3))] (by rfl) rfl rfl gS ?_
      with_reducible refine (num_Add.calls k (fun k_ => some k_ = (.slice Ao81 t162.length co81 : Value).ownBlock) (.slice Ao81 t162.length co81) t162 (IntKind.u64.wrap (a0_3)) t165 w _ ?side1 ?side2 A6.out).mono ?_
      (case side1 => repeat (first | (with_reducible first | exact HB.out | apply below_alloc | apply pw_below_drewN | apply below_drew1 | refine below_set ?_ GE154.out) | exact HB.out))
      (case side2 => exact Kd.R_tight rfl HO164.out)
      rintro e w82 ⟨v166, rfl, ho0, hb, hkp⟩
      refine ⟨_, rfl, ?_⟩
      have n0_ := Ax (blk_kept (bf0 BK154.out) hkp (fun hs_ => (fun e_ => (Kd.R_ne HO164.out BK154.out (by decide)) e_) hs_))
      have n1_ := Ax (Kd.R_mono (ok' := fun k_ => True) ho0 (fun k_ hk_ => trivial))
      have n2_ := Ax (hb)
      clear BK154
      clear HB
      clear HO164
      have BK154 := n0_
      have HO167 := n1_
      have HB := n2_
      clear n0_ n1_ n2_
      (try clear hb)
      (try clear hkp)
      (try clear ho0)
      refine hK.out _ _ ⟨(blk_cell BK154.out 0).trans rfl, (blk_cell BK154.out 1).trans rfl, (blk_cell BK154.out 2).trans rfl, (blk_cell BK154.out 3).trans rfl, (blk_cell BK154.out 4).trans rfl, (blk_cell BK154.out 5).trans rfl, (blk_cell BK154.out 6).trans rfl, (blk_cell BK154.out 7).trans rfl, (blk_cell BK154.out 8).trans rfl, (blk_cell BK154.out 9).trans rfl, (blk_cell BK154.out 10).trans rfl, (blk_cell BK154.out 11).trans rfl⟩ (fun hHeld => ?_)
      clear hK K
      refine norm_ (a' := ?_) ?_ ?_
      rotate_left
      ·show Act.put _ (some 24) _ = _
       simp only [sP]
       rfl
      refine pure_ (i := 14) (N := some 5) (v := ?_) (a' := ?_) #[tr,tr,tr,tr,tr,tr,tr,tr,tr,tr,tr,tr,tr,tr,tr] rfl rfl (any_of HT_.out (by kernel_rfl)) (fun _ _ _ h => h) (Or.inl ⟨by rfl, ?_⟩) ?_ ?_
      rotate_left
      ·intro w'
       go_simp
       with_reducible rfl
      rotate_left
      ·simp only [sP]
       rfl
      refine done_ (done_of HT_.out (by kernel_rfl)) ?_
      obtain ⟨hcz83_0, hcz83_1, hcz83_2, hcz83_3, hcz83_4, hcz83_5, hcz83_6, hcz83_7, hcz83_8, hcz83_9, hcz83_10, hcz83_11, hfz83_0, hfz83_1, hfz83_2, hfz83_3, hfz83_4, hfz83_5, hfz83_6, hfz83_7, hfz83_8, hfz83_9, hfz83_10, hfz83_11⟩ := cl12 BK154
      obtain ⟨Ao84, co84, eo84⟩ := Kd.R_slice HO167.out
      subst eo84
      try go_wp2_with (first | ((with_reducible refine gate_callee (f := 13) rfl ?_); refine goesL_ (some 59) rfl rfl Try.func13 (by kernel_rfl) rfl #[.slice Ao84 t165.length co84, .int .u64 (IntKind.u64.wrap (a0_10))] rfl gS ?_; (with_reducible refine (num_Add.calls k (fun k_ => some k_ = (.slice Ao84 t165.length co84 : Value).ownBlock) (.slice Ao84 t165.length co84) t165 (IntKind.u64.wrap (a0_10)) t183 w _ ?side1 ?side2 A70.out).mono ?_); (case side1 => repeat (first | (with_reducible first | exact HB.out | apply below_alloc | apply pw_below_drewN | apply below_drew1 | refine below_set ?_ GE154.out) | exact HB.out)); (case side2 => exact Kd.R_tight rfl HO167.out); rintro e w85 ⟨v184, rfl, ho0, hb, hkp⟩; refine ⟨_, rfl, ?_⟩; have n0_ := Ax (blk_kept (bf0 BK154.out) hkp (fun hs_ => (fun e_ => (Kd.R_ne HO167.out BK154.out (by decide)) e_) hs_)); have n1_ := Ax (Kd.R_mono (ok' := fun k_ => True) ho0 (fun k_ hk_ => trivial)); have n2_ := Ax (hb); clear BK154; clear HB; clear HO167; have BK154 := n0_; have HO185 := n1_; have HB := n2_; clear n0_ n1_ n2_; (try clear hb); (try clear hkp); (try clear ho0); have hcv86 := own_string (P := Try.prog) Try.underlying23 Try.underlying5 Try.underlying9 (Kd.own_of_R HO185.out)))
      go_ret2
      exact ⟨eS, bw1 HB.out GE154.out⟩
     ·rw [if_neg c69] at H
      have c69b0 : (a0_0 == 6) = false := beq_eq_false_iff_ne.mpr c69
      have c69b1 : (a0_0 != 6) = true := bne_iff_ne.mpr c69
      simp only [Option.some.injEq, Prod.mk.injEq] at H
      obtain ⟨rfl, rfl⟩ := H
      go_enter Try.func5, Try.ntmps5
      try go_wp2_with (first | ((with_reducible refine gate_dst (N := 1) rfl ?_); refine box_event ?hg (N := 1) ?hd (cs := #[.int .u8 a0_0, .int .i64 a0_1, .int .u64 a0_2, .int .i64 a0_3, .bool a0_4, .int .u64 a0_5, .int .u64 a0_6, .int .i64 a0_7, .int .u8 a0_8, .int .i64 a0_9, .int .i64 a0_10, .int .i64 a0_11]) (t := 35) ?hr ?_; (case hd => rfl); (case hg => rfl); (case hr => first | (go_simp; done) | (go_simp; rfl)); intro gb154 hg w87 hbox hb; have n0_ := Bs0 HB hb; have n1_ := Ax (hbox); have n2_ := Gw0 HB hg; have n3_ := Gw0 HB hg; clear HB; have HB := n0_; have BK154 := n1_; have GW154 := n2_; have GE154 := n3_; clear n0_ n1_ n2_ n3_; clear hb hbox hg; obtain ⟨hcz88_0, hcz88_1, hcz88_2, hcz88_3, hcz88_4, hcz88_5, hcz88_6, hcz88_7, hcz88_8, hcz88_9, hcz88_10, hcz88_11, hfz88_0, hfz88_1, hfz88_2, hfz88_3, hfz88_4, hfz88_5, hfz88_6, hfz88_7, hfz88_8, hfz88_9, hfz88_10, hfz88_11⟩ := cl12 BK154) | ((with_reducible refine gate_callee (f := 12) rfl ?_); refine goesL_ (some 7) rfl rfl Try.func12 (by kernel_rfl) rfl #[.agg #[.int .u8 a0_0, .int .i64 a0_1, .int .u64 a0_2, .int .i64 a0_3, .bool a0_4, .int .u64 a0_5, .int .u64 a0_6, .int .i64 a0_7, .int .u8 a0_8, .int .i64 a0_9, .int .i64 a0_10, .int .i64 a0_11]] rfl gS ?_; (with_reducible refine (msg_Check.calls k a0_0 a0_1 a0_2 a0_3 a0_4 a0_5 a0_6 a0_7 a0_8 a0_9 a0_10 a0_11 t155 _ A2.out).mono ?_); rintro e w89 ⟨rfl, hb⟩; refine ⟨_, rfl, ?_⟩; replace BK154 := Bx0 BK154 hb; replace HB := Bs1 HB hb GE154.out; (try clear hb)))
      replace BK154 := Ax (blk_drew BK154.out)
      replace HB := Ax (below_drew1 HB.out)
      refine start_ (n := 15) (S := fun w' => w'.cell? ⟨gb154, 0, none⟩ = some (.int .u8 a0_0) ∧ w'.cell? ⟨gb154, 1, none⟩ = some (.int .i64 a0_1) ∧ w'.cell? ⟨gb154, 2, none⟩ = some (.int .u64 a0_2) ∧ w'.cell? ⟨gb154, 3, none⟩ = some (.int .i64 a0_3) ∧ w'.cell? ⟨gb154, 4, none⟩ = some (.bool a0_4) ∧ w'.cell? ⟨gb154, 5, none⟩ = some (.int .u64 a0_5) ∧ w'.cell? ⟨gb154, 6, none⟩ = some (.int .u64 a0_6) ∧ w'.cell? ⟨gb154, 7, none⟩ = some (.int .i64 a0_7) ∧ w'.cell? ⟨gb154, 8, none⟩ = some (.int .u8 a0_8) ∧ w'.cell? ⟨gb154, 9, none⟩ = some (.int .i64 a0_9) ∧ w'.cell? ⟨gb154, 10, none⟩ = some (.int .i64 a0_10) ∧ w'.cell? ⟨gb154, 11, none⟩ = some (.int .i64 a0_11)) (ds := []) #[fa,fa,fa,fa,fa,fa,fa,fa,fa,fa,fa,fa,fa,fa,fa] (by kernel_rfl) rfl rfl ⟨(blk_cell BK154.out 0).trans rfl, (blk_cell BK154.out 1).trans rfl, (blk_cell BK154.out 2).trans rfl, (blk_cell BK154.out 3).trans rfl, (blk_cell BK154.out 4).trans rfl, (blk_cell BK154.out 5).trans rfl, (blk_cell BK154.out 6).trans rfl, (blk_cell BK154.out 7).trans rfl, (blk_cell BK154.out 8).trans rfl, (blk_cell BK154.out 9).trans rfl, (blk_cell BK154.out 10).trans rfl, (blk_cell BK154.out 11).trans rfl⟩ (fun hHeld => ?_); refine with_tabW msg_Put.tab4 msg_Put.bits4 (fun HT_ HW_ => ?_)
      generalize w89.drew = w90 at BK154 HB hHeld ⊢
      refine pure_ (i := 0) (N := some 11) (v := ?_) (a' := ?_) #[tr,fa,fa,fa,fa,fa,fa,fa,fa,fa,fa,fa,fa,fa,fa] rfl rfl (any_of HT_.out (by kernel_rfl)) (fun _ _ _ h => h) (Or.inl ⟨by rfl, ?_⟩) ?_ ?_
      rotate_left
      ·intro w'
       go_simp
       with_reducible rfl
      rotate_left
      ·simp only [sP]
       rfl
      refine pure_ (i := 3) (N := some 14) (v := ?_) (a' := ?_) #[tr,fa,fa,tr,fa,fa,fa,fa,fa,fa,fa,fa,fa,fa,fa] rfl rfl (any_of HT_.out (by kernel_rfl)) (fun _ _ _ h => h) (Or.inl ⟨by rfl, ?_⟩) ?_ ?_
      rotate_left
      ·intro w'
       go_simp
       with_reducible rfl
      rotate_left
      ·simp only [sP]
       rfl
      refine pure_ (i := 7) (N := some 18) (v := ?_) (a' := ?_) #[tr,fa,fa,tr,fa,fa,fa,tr,fa,fa,fa,fa,fa,fa,fa] rfl rfl (any_of HT_.out (by kernel_rfl)) (fun _ _ _ h => h) (Or.inl ⟨by rfl, ?_⟩) ?_ ?_
      rotate_left
      ·intro w'
       go_simp
       with_reducible rfl
      rotate_left
      ·simp only [sP]
       rfl
      refine pure_ (i := 10) (N := some 21) (v := ?_) (a' := ?_) #[tr,fa,fa,tr,fa,fa,fa,tr,fa,fa,tr,fa,fa,fa,fa] rfl rfl (any_of HT_.out (by kernel_rfl)) (fun _ _ _ h => h) (Or.inl ⟨by rfl, ?_⟩) ?_ ?_
      rotate_left
      ·intro w'
       go_simp
       with_reducible rfl
      rotate_left
      ·simp only [sP]
       rfl
      refine take_ (i := 1) (N := some 12) (v := ?_) (a' := ?_) #[tr,tr,fa,tr,fa,fa,fa,tr,fa,fa,tr,fa,fa,fa,fa] rfl rfl (take_ofW HT_.out HW_.out (by kernel_rfl)) (fun _ _ _ h => h) (Or.inl ⟨by rfl, ?_⟩) hHeld ?_ ?_
      rotate_left
      ·rintro w' ⟨s0, s1, s2, s3, s4, s5, s6, s7, s8, s9, s10, s11⟩
       go_simp
       with_reducible rfl
      rotate_left
      ·simp only [sP]
       rfl
      refine take_ (i := 4) (N := some 15) (v := ?_) (a' := ?_) #[tr,tr,fa,tr,tr,fa,fa,tr,fa,fa,tr,fa,fa,fa,fa] rfl rfl (take_ofW HT_.out HW_.out (by kernel_rfl)) (fun _ _ _ h => h) (Or.inl ⟨by rfl, ?_⟩) hHeld ?_ ?_
      rotate_left
      ·rintro w' ⟨s0, s1, s2, s3, s4, s5, s6, s7, s8, s9, s10, s11⟩
       go_simp
       with_reducible rfl
      rotate_left
      ·simp only [sP]
       rfl
      refine pure_ (i := 5) (N := some 16) (v := ?_) (a' := ?_) #[tr,tr,fa,tr,tr,tr,fa,tr,fa,fa,tr,fa,fa,fa,fa] rfl rfl (any_of HT_.out (by kernel_rfl)) (fun _ _ _ h => h) (Or.inl ⟨by rfl, ?_⟩) ?_ ?_
      rotate_left
      ·intro w'
       go_simp
       with_reducible rfl
      rotate_left
      ·simp only [sP]
       rfl
      refine take_ (i := 8) (N := some 19) (v := ?_) (a' := ?_) #[tr,tr,fa,tr,tr,tr,fa,tr,tr,fa,tr,fa,fa,fa,fa] rfl rfl (take_ofW HT_.out HW_.out (by kernel_rfl)) (fun _ _ _ h => h) (Or.inl ⟨by rfl, ?_⟩) hHeld ?_ ?_
      rotate_left
      ·rintro w' ⟨s0, s1, s2, s3, s4, s5, s6, s7, s8, s9, s10, s11⟩
       go_simp
       with_reducible rfl
      rotate_left
      ·simp only [sP]
       rfl
      refine take_ (i := 11) (N := some 22) (v := ?_) (a' := ?_) #[tr,tr,fa,tr,tr,tr,fa,tr,tr,fa,tr,tr,fa,fa,fa] rfl rfl (take_ofW HT_.out HW_.out (by kernel_rfl)) (fun _ _ _ h => h) (Or.inl ⟨by rfl, ?_⟩) hHeld ?_ ?_
      rotate_left
      ·rintro w' ⟨s0, s1, s2, s3, s4, s5, s6, s7, s8, s9, s10, s11⟩
       go_simp
       with_reducible rfl
      rotate_left
      ·simp only [sP]
       rfl
      refine pure_ (i := 12) (N := some 23) (v := ?_) (a' := ?_) #[tr,tr,fa,tr,tr,tr,fa,tr,tr,fa,tr,tr,tr,fa,fa] rfl rfl (any_of HT_.out (by kernel_rfl)) (fun _ _ _ h => h) (Or.inl ⟨by rfl, ?_⟩) ?_ ?_
      rotate_left
      ·intro w'
       go_simp
       with_reducible rfl
      rotate_left
      ·simp only [sP]
       rfl
      refine one_ (i := 2) (N := some 13) #[tr,tr,tr,tr,tr,tr,fa,tr,tr,fa,tr,tr,tr,fa,fa] rfl rfl (one_of HT_.out (by kernel_rfl)) (by decide) (fun K hK => ?_)
      refine Kd.R_lit_step (Kd.int .u8) _ 5 ?hg (N := 13) ?hd (xs := ([a0_0] : List Int)) (inner := [.int .u8 a0_0]) (ok := fun _ => True) (okp := fun _ => True) ?hr ?hp (fun _ hk => hk) trivial (Below.refl _ _) (Nat.le_refl _) (by simp) ?_; (case hd => rfl); (case hg => rfl); (case hr => first | (go_simp; done) | (go_simp; rfl)); (case hp => exact (Reps.one (show Kd.M (Kd.int .u8) _ _ _ a0_0 [.int .u8 a0_0] from rfl) (Reps.none _ _)))
      intro v157 w91 ho92 hb hg_ hnew_
      clear hg_ hnew_
      (first | rw [← Ny156.out] at ho92 | (simp only [Int.reduceToNat] at ho92; rw [← Ny156.out] at ho92))
      have HO158 := Ax (Kd.R_lower ho92 (below_size (bw1 HB.out GE154.out)))
      replace BK154 := Bx0 BK154 hb
      replace HB := Bs1 HB hb GE154.out
      clear hb ho92
      obtain ⟨Ao93, co93, eo93⟩ := Kd.R_slice HO158.out
      (first | subst eo93 | (injection eo93 with f1_ f2_ f3_; have f4_ := f1_.symm; have f5_ := f3_.symm; clear f1_ f2_ f3_; subst f4_; subst f5_))
      refine hK.out _ _ ⟨(blk_cell BK154.out 0).trans rfl, (blk_cell BK154.out 1).trans rfl, (blk_cell BK154.out 2).trans rfl, (blk_cell BK154.out 3).trans rfl, (blk_cell BK154.out 4).trans rfl, (blk_cell BK154.out 5).trans rfl, (blk_cell BK154.out 6).trans rfl, (blk_cell BK154.out 7).trans rfl, (blk_cell BK154.out 8).trans rfl, (blk_cell BK154.out 9).trans rfl, (blk_cell BK154.out 10).trans rfl, (blk_cell BK154.out 11).trans rfl⟩ (fun hHeld => ?_)
      clear hK K
      refine norm_ (a' := ?_) ?_ ?_
      rotate_left
      ·show Act.put _ (some 13) _ = _
       simp only [sP]
       rfl
      refine one_ (i := 6) (N := some 17) #[tr,tr,tr,tr,tr,tr,tr,tr,tr,fa,tr,tr,tr,fa,fa] rfl rfl (one_of HT_.out (by kernel_rfl)) (by decide) (fun K hK => ?_)
      refine goes_ Try.func13 (by kernel_rfl) rfl #[.slice Ao93 y156.length co93, .int .u64 (IntKind.u64.wrap (a0_1))] (by rfl) rfl rfl gS ?_
      with_reducible refine (num_Add.calls k (fun k_ => some k_ = (.slice Ao93 y156.length co93 : Value).ownBlock) (.slice Ao93 y156.length co93) y156 (IntKind.u64.wrap (a0_1)) t159 w _ ?side1 ?side2 A4.out).mono ?_
      (case side1 => repeat (first | (with_reducible first | exact HB.out | apply below_alloc | apply pw_below_drewN | apply below_drew1 | refine below_set ?_ GE154.out) | exact HB.out))
      (case side2 => exact Kd.R_tight rfl HO158.out)
      rintro e w94 ⟨v160, rfl, ho0, hb, hkp⟩
      refine ⟨_, rfl, ?_⟩
      have n0_ := Ax (blk_kept (bf0 BK154.out) hkp (fun hs_ => (fun e_ => (Kd.R_ne HO158.out BK154.out (by decide)) e_) hs_))
      have n1_ := Ax (Kd.R_mono (ok' := fun k_ => True) ho0 (fun k_ hk_ => trivial))
      have n2_ := Ax (hb)
      clear BK154
      clear HB
      clear HO158
      have BK154 := n0_
      have HO161 := n1_
      have HB := n2_
      clear n0_ n1_ n2_
      (try clear hb)
      (try clear hkp)
      (try clear ho0)
      obtain ⟨Ao95, co95, eo95⟩ := Kd.R_slice HO161.out
      (first | subst eo95 | (injection eo95 with f1_ f2_ f3_; have f4_ := f1_.symm; have f5_ := f3_.symm; clear f1_ f2_ f3_; subst f4_; subst f5_))
      refine hK.out _ _ ⟨(blk_cell BK154.out 0).trans rfl, (blk_cell BK154.out 1).trans rfl, (blk_cell BK154.out 2).trans rfl, (blk_cell BK154.out 3).trans rfl, (blk_cell BK154.out 4).trans rfl, (blk_cell BK154.out 5).trans rfl, (blk_cell BK154.out 6).trans rfl, (blk_cell BK154.out 7).trans rfl, (blk_cell BK154.out 8).trans rfl, (blk_cell BK154.out 9).trans rfl, (blk_cell BK154.out 10).trans rfl, (blk_cell BK154.out 11).trans rfl⟩ (fun hHeld => ?_)
      clear hK K
      refine norm_ (a' := ?_) ?_ ?_
      rotate_left
      ·show Act.put _ (some 17) _ = _
       simp only [sP]
       rfl
      refine one_ (i := 9) (N := some 20) #[tr,tr,tr,tr,tr,tr,tr,tr,tr,tr,tr,tr,tr,fa,fa] rfl rfl (one_of HT_.out (by kernel_rfl)) (by decide) (fun K hK => ?_)
      refine goes_ Try.func13 (by kernel_rfl) rfl #[.slice Ao95 t159.length co95, .int .u64 a0_2] (by rfl) rfl rfl gS ?_
      with_reducible refine (num_Add.calls k (fun k_ => some k_ = (.slice Ao95 t159.length co95 : Value).ownBlock) (.slice Ao95 t159.length co95) t159 a0_2 t162 w _ ?side1 ?side2 A5.out).mono ?_
      (case side1 => repeat (first | (with_reducible first | exact HB.out | apply below_alloc | apply pw_below_drewN | apply below_drew1 | refine below_set ?_ GE154.out) | exact HB.out))
      (case side2 => exact Kd.R_tight rfl HO161.out)
      rintro e w96 ⟨v163, rfl, ho0, hb, hkp⟩
      refine ⟨_, rfl, ?_⟩
      have n0_ := Ax (blk_kept (bf0 BK154.out) hkp (fun hs_ => (fun e_ => (Kd.R_ne HO161.out BK154.out (by decide)) e_) hs_))
      have n1_ := Ax (Kd.R_mono (ok' := fun k_ => True) ho0 (fun k_ hk_ => trivial))
      have n2_ := Ax (hb)
      clear BK154
      clear HB
      clear HO161
      have BK154 := n0_
      have HO164 := n1_
      have HB := n2_
      clear n0_ n1_ n2_
      (try clear hb)
      (try clear hkp)
      (try clear ho0)
      obtain ⟨Ao97, co97, eo97⟩ := Kd.R_slice HO164.out
      (first | subst eo97 | (injection eo97 with f1_ f2_ f3_; have f4_ := f1_.symm; have f5_ := f3_.symm; clear f1_ f2_ f3_; subst f4_; subst f5_))
      refine hK.out _ _ ⟨(blk_cell BK154.out 0).trans rfl, (blk_cell BK154.out 1).trans rfl, (blk_cell BK154.out 2).trans rfl, (blk_cell BK154.out 3).trans rfl, (blk_cell BK154.out 4).trans rfl, (blk_cell BK154.out 5).trans rfl, (blk_cell BK154.out 6).trans rfl, (blk_cell BK154.out 7).trans rfl, (blk_cell BK154.out 8).trans rfl, (blk_cell BK154.out 9).trans rfl, (blk_cell BK154.out 10).trans rfl, (blk_cell BK154.out 11).trans rfl⟩ (fun hHeld => ?_)
      clear hK K
      refine norm_ (a' := ?_) ?_ ?_
      rotate_left
      ·show Act.put _ (some 20) _ = _
       simp only [sP]
       rfl
      refine one_ (i := 13) (N := some 24) #[tr,tr,tr,tr,tr,tr,tr,tr,tr,tr,tr,tr,tr,tr,fa] rfl rfl (one_of HT_.out (by kernel_rfl)) (by decide) (fun K hK => ?_)
      refine goes_ Try.func13 (by kernel_rfl) rfl #[.slice Ao97 t162.length co97, .int .u64 (IntKind.u64.wrap (a0_3))] (by rfl) rfl rfl gS ?_
      with_reducible refine (num_Add.calls k (fun k_ => some k_ = (.slice Ao97 t162.length co97 : Value).ownBlock) (.slice Ao97 t162.length co97) t162 (IntKind.u64.wrap (a0_3)) t165 w _ ?side1 ?side2 A6.out).mono ?_
      (case side1 => repeat (first | (with_reducible first | exact HB.out | apply below_alloc | apply pw_below_drewN | apply below_drew1 | refine below_set ?_ GE154.out) | exact HB.out))
      (case side2 => exact Kd.R_tight rfl HO164.out)
      rintro e w98 ⟨v166, rfl, ho0, hb, hkp⟩
      refine ⟨_, rfl, ?_⟩
      have n0_ := Ax (blk_kept (bf0 BK154.out) hkp (fun hs_ => (fun e_ => (Kd.R_ne HO164.out BK154.out (by decide)) e_) hs_))
      have n1_ := Ax (Kd.R_mono (ok' := fun k_ => True) ho0 (fun k_ hk_ => trivial))
      have n2_ := Ax (hb)
      clear BK154
      clear HB
      clear HO164
      have BK154 := n0_
      have HO167 := n1_
      have HB := n2_
      clear n0_ n1_ n2_
      (try clear hb)
      (try clear hkp)
      (try clear ho0)
      refine hK.out _ _ ⟨(blk_cell BK154.out 0).trans rfl, (blk_cell BK154.out 1).trans rfl, (blk_cell BK154.out 2).trans rfl, (blk_cell BK154.out 3).trans rfl, (blk_cell BK154.out 4).trans rfl, (blk_cell BK154.out 5).trans rfl, (blk_cell BK154.out 6).trans rfl, (blk_cell BK154.out 7).trans rfl, (blk_cell BK154.out 8).trans rfl, (blk_cell BK154.out 9).trans rfl, (blk_cell BK154.out 10).trans rfl, (blk_cell BK154.out 11).trans rfl⟩ (fun hHeld => ?_)
      clear hK K
      refine norm_ (a' := ?_) ?_ ?_
      rotate_left
      ·show Act.put _ (some 24) _ = _
       simp only [sP]
       rfl
      refine pure_ (i := 14) (N := some 5) (v := ?_) (a' := ?_) #[tr,tr,tr,tr,tr,tr,tr,tr,tr,tr,tr,tr,tr,tr,tr] rfl rfl (any_of HT_.out (by kernel_rfl)) (fun _ _ _ h => h) (Or.inl ⟨by rfl, ?_⟩) ?_ ?_
      rotate_left
      ·intro w'
       go_simp
       with_reducible rfl
      rotate_left
      ·simp only [sP]
       rfl
      refine done_ (done_of HT_.out (by kernel_rfl)) ?_
      obtain ⟨hcz99_0, hcz99_1, hcz99_2, hcz99_3, hcz99_4, hcz99_5, hcz99_6, hcz99_7, hcz99_8, hcz99_9, hcz99_10, hcz99_11, hfz99_0, hfz99_1, hfz99_2, hfz99_3, hfz99_4, hfz99_5, hfz99_6, hfz99_7, hfz99_8, hfz99_9, hfz99_10, hfz99_11⟩ := cl12 BK154
      have hcv100 := own_string (P := Try.prog) Try.underlying23 Try.underlying5 Try.underlying9 (Kd.own_of_R HO167.out)
      try go_wp2
      go_ret2
      exact ⟨eS, bw1 HB.out GE154.out⟩
 ·rw [if_neg c3] at H
  have c3b0 : (t155 == 0) = false := beq_eq_false_iff_ne.mpr c3
  have c3b1 : (t155 != 0) = true := bne_iff_ne.mpr c3
  simp only [Option.some.injEq, Prod.mk.injEq] at H
  obtain ⟨rfl, rfl⟩ := H
  go_enter Try.func5, Try.ntmps5
  go_wp2_with (first | ((with_reducible refine gate_dst (N := 1) rfl ?_); refine box_event ?hg (N := 1) ?hd (cs := #[.int .u8 a0_0, .int .i64 a0_1, .int .u64 a0_2, .int .i64 a0_3, .bool a0_4, .int .u64 a0_5, .int .u64 a0_6, .int .i64 a0_7, .int .u8 a0_8, .int .i64 a0_9, .int .i64 a0_10, .int .i64 a0_11]) (t := 35) ?hr ?_; (case hd => rfl); (case hg => rfl); (case hr => first | (go_simp; done) | (go_simp; rfl)); intro gb154 hg w101 hbox hb; have n0_ := Bs0 HB hb; have n1_ := Ax (hbox); have n2_ := Gw0 HB hg; have n3_ := Gw0 HB hg; clear HB; have HB := n0_; have BK154 := n1_; have GW154 := n2_; have GE154 := n3_; clear n0_ n1_ n2_ n3_; clear hb hbox hg; obtain ⟨hcz102_0, hcz102_1, hcz102_2, hcz102_3, hcz102_4, hcz102_5, hcz102_6, hcz102_7, hcz102_8, hcz102_9, hcz102_10, hcz102_11, hfz102_0, hfz102_1, hfz102_2, hfz102_3, hfz102_4, hfz102_5, hfz102_6, hfz102_7, hfz102_8, hfz102_9, hfz102_10, hfz102_11⟩ := cl12 BK154) | ((with_reducible refine gate_callee (f := 12) rfl ?_); refine goesL_ (some 7) rfl rfl Try.func12 (by kernel_rfl) rfl #[.agg #[.int .u8 a0_0, .int .i64 a0_1, .int .u64 a0_2, .int .i64 a0_3, .bool a0_4, .int .u64 a0_5, .int .u64 a0_6, .int .i64 a0_7, .int .u8 a0_8, .int .i64 a0_9, .int .i64 a0_10, .int .i64 a0_11]] rfl gS ?_; (with_reducible refine (msg_Check.calls k a0_0 a0_1 a0_2 a0_3 a0_4 a0_5 a0_6 a0_7 a0_8 a0_9 a0_10 a0_11 t155 _ A2.out).mono ?_); rintro e w103 ⟨rfl, hb⟩; refine ⟨_, rfl, ?_⟩; replace BK154 := Bx0 BK154 hb; replace HB := Bs1 HB hb GE154.out; (try clear hb)))
  go_ret2
  exact ⟨eS, bw1 HB.out GE154.out⟩
def cutter_fit.f (a0 : Int) : Option (Bool) := if a0 ≥ 1 then (some (decide (a0 ≤ 64))) else (some false)
set_option maxHeartbeats 8000000 in
set_option maxRecDepth 100000 in
theorem cutter_fit.calls (a0 : Int) (r : Bool) (w : World) (h : cutter_fit.f a0 = some r) :
  Calls Try.prog 16 #[.int .i64 a0] w fun e w' => e = .returned (.bool r) ∧ Drawn0 w w' := by
 have H : (if a0 ≥ 1 then (some (decide (a0 ≤ 64))) else (some false)) = some r := h
 clear h
 by_cases c2 : a0 ≥ 1
 ·rw [if_pos c2] at H
  have c2b0 : decide (1 ≤ a0) = true := decide_eq_true c2
  clear c2
  obtain rfl := Option.some.inj H
  go_enter Try.func16, Try.ntmps16
  go_wp2
  go_ret
  exact ⟨by first | rfl | (simp; done) | (simp [*]; done), by repeat (first | exact Drawn0.refl _ | apply Drawn0.step)⟩
 ·rw [if_neg c2] at H
  have c2b0 : decide (1 ≤ a0) = false := decide_eq_false c2
  clear c2
  obtain rfl := Option.some.inj H
  go_enter Try.func16, Try.ntmps16
  go_wp2
  go_ret
  exact ⟨by first | rfl | (simp; done) | (simp [*]; done), by repeat (first | exact Drawn0.refl _ | apply Drawn0.step)⟩
def cutter_Wrap.f (a0 : ByteArray) : Option (ByteArray × Int) := (cutter_fit.f (a0.size : Int)).bind fun t186 => (if t186 = true then ((some (([245, 0, ((a0.size : Int)) % 256] : List Int) : List Int)).bind fun y187 => (if (strOfNums y187).size + a0.size ≤ 9223372036854775807 then (some ((strOfNums y187) ++ a0, 0)) else (none))) else (some ((⟨#[]⟩ : ByteArray), 11)))
set_option maxHeartbeats 8000000 in
set_option maxRecDepth 100000 in
theorem cutter_Wrap.calls (a0 : ByteArray) (r1 : ByteArray) (r2 : Int) (w : World) (h : cutter_Wrap.f a0 = some (r1, r2)) :
  Calls Try.prog 6 #[.string a0] w fun e w' => e = .returned (.tuple #[.string r1, .int .i64 r2]) ∧ Below w.heap.size w w' := by
 have HB := Ax (Below.refl w.heap.size w)
 have H : ((cutter_fit.f (a0.size : Int)).bind fun t186 => (if t186 = true then ((some (([245, 0, ((a0.size : Int)) % 256] : List Int) : List Int)).bind fun y187 => (if (strOfNums y187).size + a0.size ≤ 9223372036854775807 then (some ((strOfNums y187) ++ a0, 0)) else (none))) else (some ((⟨#[]⟩ : ByteArray), 11)))) = some (r1, r2) := h
 clear h
 replace H := Option.bind_eq_some_iff.mp H
 obtain ⟨t186, A20, H⟩ := H
 replace H : (if t186 = true then ((some (([245, 0, ((a0.size : Int)) % 256] : List Int) : List Int)).bind fun y187 => (if (strOfNums y187).size + a0.size ≤ 9223372036854775807 then (some ((strOfNums y187) ++ a0, 0)) else (none))) else (some ((⟨#[]⟩ : ByteArray), 11))) = some (r1, r2) := H
 have A2 := Ax A20
 clear A20
 by_cases c3 : t186 = true
 ·subst c3
  have H1 : ((some (([245, 0, ((a0.size : Int)) % 256] : List Int) : List Int)).bind fun y187 => (if (strOfNums y187).size + a0.size ≤ 9223372036854775807 then (some ((strOfNums y187) ++ a0, 0)) else (none))) = some (r1, r2) := by rw [if_pos rfl] at H; exact H
  clear H
  have H := H1
  clear H1
  obtain ⟨y187, hy187⟩ : ∃ y_ : List Int, y_ = (([245, 0, ((a0.size : Int)) % 256] : List Int)) := ⟨_, rfl⟩
  replace H : (if (strOfNums y187).size + a0.size ≤ 9223372036854775807 then (some ((strOfNums y187) ++ a0, 0)) else (none)) = some (r1, r2) := by first | (rw [hy187]; with_reducible exact H) | (have H2_ := (Option.bind_some _ _).symm.trans H; rw [hy187]; with_reducible exact H2_) | (have H2_ := (Option.bind_some _ _).symm.trans H; with_reducible exact H2_) | with_reducible exact H | (rw [hy187]; exact H) | exact H
  have Ny187 := Ax hy187
  clear hy187
  by_cases c4 : (strOfNums y187).size + a0.size ≤ 9223372036854775807
  ·rw [if_pos c4] at H
   have c4b0 := eq_true c4
   have c4b1 : decide ((strOfNums y187).size + a0.size ≤ 9223372036854775807) = true := decide_eq_true c4
   try have c4b2 : (9223372036854775807 < (strOfNums y187).size + a0.size) = False := eq_false (Nat.not_lt.2 c4)
   simp only [Option.some.injEq, Prod.mk.injEq] at H
   obtain ⟨rfl, rfl⟩ := H
   go_enter Try.func6, Try.ntmps6
   go_wp2_with (first | ((with_reducible refine gate_callee (f := 16) rfl ?_); refine goesL_ (some 6) rfl rfl Try.func16 (by kernel_rfl) rfl #[.int .i64 (a0.size : Int)] rfl gS ?_; (with_reducible refine (cutter_fit.calls (a0.size : Int) true _ A2.out).mono ?_); rintro e w' ⟨rfl, ⟨nd, rfl⟩⟩; refine ⟨_, rfl, ?_⟩) | ((with_reducible refine gate_dst (N := 11) rfl ?_); refine Kd.R_lit (Kd.int .u8) _ 5 ?hg (N := 11) ?hd (xs := ([245, 0, ((a0.size : Int)) % 256] : List Int)) (inner := [.int .u8 245, .int .u8 0, .int .u8 (((a0.size : Int)) % 256)]) (ok := fun _ => True) (okp := fun _ => True) ?hr ?hp (fun _ hk => hk) trivial (Below.refl _ _) (Nat.le_refl _) (by simp) ?_; (case hd => rfl); (case hg => rfl); (case hr => first | (go_simp; done) | (go_simp; rfl)); (case hp => exact (Reps.one (show Kd.M (Kd.int .u8) _ _ _ 245 [.int .u8 245] from rfl) (Reps.one (show Kd.M (Kd.int .u8) _ _ _ 0 [.int .u8 0] from rfl) (Reps.one (show Kd.M (Kd.int .u8) _ _ _ (((a0.size : Int)) % 256) [.int .u8 (((a0.size : Int)) % 256)] from rfl) (Reps.none _ _))))); intro v188 w5 ho6 hb hg_ hnew_; clear hg_ hnew_; (first | rw [← Ny187.out] at ho6 | (simp only [Int.reduceToNat] at ho6; rw [← Ny187.out] at ho6)); have HO189 := Ax (Kd.R_lower ho6 (below_size (bw0 HB.out))); replace HB := Bs0 HB hb; clear hb ho6; have hcv7 := own_string (P := Try.prog) Try.underlying23 Try.underlying5 Try.underlying9 (Kd.own_of_R HO189.out)))
   go_ret2
   exact ⟨eS, bw0 HB.out⟩
  ·rw [if_neg c4] at H
   exact absurd H (by simp)
 ·replace c3 := Bool.eq_false_iff.mpr c3
  subst c3
  have H1 : (some ((⟨#[]⟩ : ByteArray), 11)) = some (r1, r2) := by rw [if_neg (show ¬ (false = true) by decide)] at H; exact H
  clear H
  have H := H1
  clear H1
  simp only [Option.some.injEq, Prod.mk.injEq] at H
  obtain ⟨rfl, rfl⟩ := H
  go_enter Try.func6, Try.ntmps6
  go_wp2_with (first | ((with_reducible refine gate_callee (f := 16) rfl ?_); refine goesL_ (some 6) rfl rfl Try.func16 (by kernel_rfl) rfl #[.int .i64 (a0.size : Int)] rfl gS ?_; (with_reducible refine (cutter_fit.calls (a0.size : Int) false _ A2.out).mono ?_); rintro e w' ⟨rfl, ⟨nd, rfl⟩⟩; refine ⟨_, rfl, ?_⟩))
  go_ret2
  exact ⟨eS, bw0 HB.out⟩
def cutter_long.f (a0 : ByteArray) : Option (Int) := if 1 < (a0.size : Int) then (if 2 < (a0.size : Int) then (some (Go.bits .or .i64 (wrap64 ((wrap64 (bt a0 1)) * 256)) (wrap64 (bt a0 2)))) else (none)) else (none)
set_option maxHeartbeats 8000000 in
set_option maxRecDepth 100000 in
theorem cutter_long.calls (a0 : ByteArray) (r : Int) (w : World) (h : cutter_long.f a0 = some r) :
  Calls Try.prog 34 #[.string a0] w fun e w' => e = .returned (.int .i64 r) ∧ Drawn0 w w' := by
 have H : (if 1 < (a0.size : Int) then (if 2 < (a0.size : Int) then (some (Go.bits .or .i64 (wrap64 ((wrap64 (bt a0 1)) * 256)) (wrap64 (bt a0 2)))) else (none)) else (none)) = some r := h
 clear h
 by_cases c2 : 1 < (a0.size : Int)
 ·rw [if_pos c2] at H
  have c2b0 : decide (1 < (a0.size : Int)) = true := decide_eq_true c2
  have c2b1 : decide (1 < a0.size) = true := decide_eq_true (by omega)
  clear c2
  by_cases c4 : 2 < (a0.size : Int)
  ·rw [if_pos c4] at H
   have c4b0 : decide (2 < (a0.size : Int)) = true := decide_eq_true c4
   have c4b1 : decide (2 < a0.size) = true := decide_eq_true (by omega)
   clear c4
   obtain rfl := Option.some.inj H
   have p3 : 0 ≤ (1 : Int) := (by omega)
   have q3 : 1 < a0.size := (by have : (1 : Int) < (a0.size : Int) := of_decide_eq_true (by first | (with_reducible assumption) | assumption); first | omega | (simp only [ByteArray.size_append]; omega))
   have hx3 : ∀ h : 1 < a0.size, ((a0[1]'h).toNat : Int) = bt a0 1 := bt_at a0 1
   clear p3
   have qi3 : (1 < (a0.size : Int)) = True := eq_true (of_decide_eq_true (by first | (with_reducible assumption) | assumption))
   replace q3 := eq_true q3
   have p5 : 0 ≤ (2 : Int) := (by omega)
   have q5 : 2 < a0.size := (by have : (2 : Int) < (a0.size : Int) := of_decide_eq_true (by first | (with_reducible assumption) | assumption); first | omega | (simp only [ByteArray.size_append]; omega))
   have hx5 : ∀ h : 2 < a0.size, ((a0[2]'h).toNat : Int) = bt a0 2 := bt_at a0 2
   clear p5
   have qi5 : (2 < (a0.size : Int)) = True := eq_true (of_decide_eq_true (by first | (with_reducible assumption) | assumption))
   replace q5 := eq_true q5
   go_enter Try.func34, Try.ntmps34
   go_wp2
   repeat (go_quiet (fail); try go_wp2)
   go_ret
   exact ⟨by first | rfl | (simp; done) | (simp [*]; done), by repeat (first | exact Drawn0.refl _ | apply Drawn0.step)⟩
  ·rw [if_neg c4] at H
   exact absurd H (by simp)
 ·rw [if_neg c2] at H
  exact absurd H (by simp)
def cutter_begins.f (a0 : ByteArray) : Option (Bool) := if 0 < (a0.size : Int) then (if (bt a0 0) = 245 then (if (a0.size : Int) < 3 then (some true) else ((cutter_long.f a0).bind fun t190 => ((cutter_fit.f t190).bind fun t191 => (if t191 = true then (some (decide ((wrap64 ((a0.size : Int) - 3)) < t190))) else (some false))))) else (some false)) else (none)
end Go.Proofs.Ytcnkiigobcigbaa.Q
end
section
namespace Go.Proofs.Ytcnkiigobcigbaa.Q
open Go.RowKit Go.Proofs.YtcnkiigobcigbaaW.PrintWords Go.Proofs.YtcnkiigobcigbaaW.PrintLast Go.Proofs.YtcnkiigobcigbaaW.PrintMore
attribute [local go_sem] max2_int min2_int max_two min_two max_three min_three max_four min_four   -- for this text's walks alone
set_option linter.unusedVariables false
set_option linter.unusedSimpArgs false
set_option maxHeartbeats 8000000 in
set_option maxRecDepth 100000 in
theorem cutter_begins.calls (a0 : ByteArray) (r : Bool) (w : World) (h : cutter_begins.f a0 = some r) :
  Calls Try.prog 32 #[.string a0] w fun e w' => e = .returned (.bool r) ∧ Drawn0 w w' := by
 have H : (if 0 < (a0.size : Int) then (if (bt a0 0) = 245 then (if (a0.size : Int) < 3 then (some true) else ((cutter_long.f a0).bind fun t190 => ((cutter_fit.f t190).bind fun t191 => (if t191 = true then (some (decide ((wrap64 ((a0.size : Int) - 3)) < t190))) else (some false))))) else (some false)) else (none)) = some r := h
 clear h
 by_cases c2 : 0 < (a0.size : Int)
 ·rw [if_pos c2] at H
  have c2b0 : decide (0 < (a0.size : Int)) = true := decide_eq_true c2
  have c2b1 : decide (0 < a0.size) = true := decide_eq_true (by omega)
  clear c2
  by_cases c4 : (bt a0 0) = 245
  ·rw [if_pos c4] at H
   have c4b0 : ((bt a0 0) == 245) = true := beq_iff_eq.mpr c4
   have c4b1 : ((bt a0 0) != 245) = false := bne_eq_false_iff_eq.mpr c4
   clear c4
   by_cases c5 : (a0.size : Int) < 3
   ·rw [if_pos c5] at H
    have c5b0 : decide ((a0.size : Int) < 3) = true := decide_eq_true c5
    have c5b1 : decide (a0.size < 3) = true := decide_eq_true (by omega)
    clear c5
    obtain rfl := Option.some.inj H
    have p3 : 0 ≤ (0 : Int) := (by omega)
    have q3 : 0 < a0.size := (by have : (0 : Int) < (a0.size : Int) := of_decide_eq_true (by first | (with_reducible assumption) | assumption); first | omega | (simp only [ByteArray.size_append]; omega))
    have hx3 : ∀ h : 0 < a0.size, ((a0[0]'h).toNat : Int) = bt a0 0 := bt_at a0 0
    clear p3
    have qi3 : (0 < (a0.size : Int)) = True := eq_true (of_decide_eq_true (by first | (with_reducible assumption) | assumption))
    replace q3 := eq_true q3
    go_enter Try.func32, Try.ntmps32
    go_wp2
    go_ret
    exact ⟨by first | rfl | (simp; done) | (simp [*]; done), by repeat (first | exact Drawn0.refl _ | apply Drawn0.step)⟩
   ·rw [if_neg c5] at H
    have c5b0 : decide ((a0.size : Int) < 3) = false := decide_eq_false c5
    have c5b1 : decide (a0.size < 3) = false := decide_eq_false (by omega)
    clear c5
    replace H := Option.bind_eq_some_iff.mp H
    obtain ⟨t190, A60, H⟩ := H
    replace H : ((cutter_fit.f t190).bind fun t191 => (if t191 = true then (some (decide ((wrap64 ((a0.size : Int) - 3)) < t190))) else (some false))) = some r := H
    have A6 := Ax A60
    clear A60
    replace H := Option.bind_eq_some_iff.mp H
    obtain ⟨t191, A70, H⟩ := H
    replace H : (if t191 = true then (some (decide ((wrap64 ((a0.size : Int) - 3)) < t190))) else (some false)) = some r := H
    have A7 := Ax A70
    clear A70
    by_cases c8 : t191 = true
    ·subst c8
     have H1 : (some (decide ((wrap64 ((a0.size : Int) - 3)) < t190))) = some r := by rw [if_pos rfl] at H; exact H
     clear H
     have H := H1
     clear H1
     obtain rfl := Option.some.inj H
     have p3 : 0 ≤ (0 : Int) := (by omega)
     have q3 : 0 < a0.size := (by have : (0 : Int) < (a0.size : Int) := of_decide_eq_true (by first | (with_reducible assumption) | assumption); first | omega | (simp only [ByteArray.size_append]; omega))
     have hx3 : ∀ h : 0 < a0.size, ((a0[0]'h).toNat : Int) = bt a0 0 := bt_at a0 0
     clear p3
     have qi3 : (0 < (a0.size : Int)) = True := eq_true (of_decide_eq_true (by first | (with_reducible assumption) | assumption))
     replace q3 := eq_true q3
     go_enter Try.func32, Try.ntmps32
     go_wp2_with (first | ((with_reducible refine gate_callee (f := 34) rfl ?_); refine goesL_ (some 13) rfl rfl Try.func34 (by kernel_rfl) rfl #[.string a0] rfl gS ?_; (with_reducible refine (cutter_long.calls a0 t190 _ A6.out).mono ?_); rintro e w' ⟨rfl, ⟨nd, rfl⟩⟩; refine ⟨_, rfl, ?_⟩) | ((with_reducible refine gate_callee (f := 16) rfl ?_); refine goesL_ (some 15) rfl rfl Try.func16 (by kernel_rfl) rfl #[.int .i64 t190] rfl gS ?_; (with_reducible refine (cutter_fit.calls t190 true _ A7.out).mono ?_); rintro e w' ⟨rfl, ⟨nd, rfl⟩⟩; refine ⟨_, rfl, ?_⟩))
     go_ret
     exact ⟨by first | rfl | (simp; done) | (simp [*]; done), by repeat (first | exact Drawn0.refl _ | apply Drawn0.step)⟩
    ·replace c8 := Bool.eq_false_iff.mpr c8
     subst c8
     have H1 : (some false) = some r := by rw [if_neg (show ¬ (false = true) by decide)] at H; exact H
     clear H
     have H := H1
     clear H1
     obtain rfl := Option.some.inj H
     have p3 : 0 ≤ (0 : Int) := (by omega)
     have q3 : 0 < a0.size := (by have : (0 : Int) < (a0.size : Int) := of_decide_eq_true (by first | (with_reducible assumption) | assumption); first | omega | (simp only [ByteArray.size_append]; omega))
     have hx3 : ∀ h : 0 < a0.size, ((a0[0]'h).toNat : Int) = bt a0 0 := bt_at a0 0
     clear p3
     have qi3 : (0 < (a0.size : Int)) = True := eq_true (of_decide_eq_true (by first | (with_reducible assumption) | assumption))
     replace q3 := eq_true q3
     go_enter Try.func32, Try.ntmps32
     go_wp2_with (first | ((with_reducible refine gate_callee (f := 34) rfl ?_); refine goesL_ (some 13) rfl rfl Try.func34 (by kernel_rfl) rfl #[.string a0] rfl gS ?_; (with_reducible refine (cutter_long.calls a0 t190 _ A6.out).mono ?_); rintro e w' ⟨rfl, ⟨nd, rfl⟩⟩; refine ⟨_, rfl, ?_⟩) | ((with_reducible refine gate_callee (f := 16) rfl ?_); refine goesL_ (some 15) rfl rfl Try.func16 (by kernel_rfl) rfl #[.int .i64 t190] rfl gS ?_; (with_reducible refine (cutter_fit.calls t190 false _ A7.out).mono ?_); rintro e w' ⟨rfl, ⟨nd, rfl⟩⟩; refine ⟨_, rfl, ?_⟩))
     go_ret
     exact ⟨by first | rfl | (simp; done) | (simp [*]; done), by repeat (first | exact Drawn0.refl _ | apply Drawn0.step)⟩
  ·rw [if_neg c4] at H
   have c4b0 : ((bt a0 0) == 245) = false := beq_eq_false_iff_ne.mpr c4
   have c4b1 : ((bt a0 0) != 245) = true := bne_iff_ne.mpr c4
   obtain rfl := Option.some.inj H
   have p3 : 0 ≤ (0 : Int) := (by omega)
   have q3 : 0 < a0.size := (by have : (0 : Int) < (a0.size : Int) := of_decide_eq_true (by first | (with_reducible assumption) | assumption); first | omega | (simp only [ByteArray.size_append]; omega))
   have hx3 : ∀ h : 0 < a0.size, ((a0[0]'h).toNat : Int) = bt a0 0 := bt_at a0 0
   clear p3
   have qi3 : (0 < (a0.size : Int)) = True := eq_true (of_decide_eq_true (by first | (with_reducible assumption) | assumption))
   replace q3 := eq_true q3
   go_enter Try.func32, Try.ntmps32
   go_wp2
   go_ret
   exact ⟨by first | rfl | (simp; done) | (simp [*]; done), by repeat (first | exact Drawn0.refl _ | apply Drawn0.step)⟩
 ·rw [if_neg c2] at H
  exact absurd H (by simp)
def cutter_Check.f (a0_0 : ByteArray) (a0_1 : Bool) (a0_2 : Int) : Option (Int) := if a0_2 < 0 then (some 2) else (if a0_2 > 65535 then (some 2) else (if a0_0.toList = ([] : List UInt8) then (if a0_2 > 0 then (if a0_1 = true then (some 2) else (some 0)) else (some 0)) else (if a0_2 > 0 then (some 2) else (if a0_1 = true then (some 2) else ((cutter_begins.f a0_0).bind fun t193 => (if t193 = true then (some 0) else (some 2)))))))
set_option maxHeartbeats 8000000 in
set_option maxRecDepth 100000 in
theorem cutter_Check.calls (a0_0 : ByteArray) (a0_1 : Bool) (a0_2 : Int) (r : Int) (w : World) (h : cutter_Check.f a0_0 a0_1 a0_2 = some r) :
  Calls Try.prog 17 #[.agg #[.string a0_0, .bool a0_1, .int .i64 a0_2]] w fun e w' => e = .returned (.int .i64 r) ∧ Below w.heap.size w w' := by
 have hu41 := Try.underlying41
 have HB := Ax (Below.refl w.heap.size w)
 have H : (if a0_2 < 0 then (some 2) else (if a0_2 > 65535 then (some 2) else (if a0_0.toList = ([] : List UInt8) then (if a0_2 > 0 then (if a0_1 = true then (some 2) else (some 0)) else (some 0)) else (if a0_2 > 0 then (some 2) else (if a0_1 = true then (some 2) else ((cutter_begins.f a0_0).bind fun t193 => (if t193 = true then (some 0) else (some 2)))))))) = some r := h
 clear h
 by_cases c2 : a0_2 < 0
 ·rw [if_pos c2] at H
  have c2b0 : decide (a0_2 < 0) = true := decide_eq_true c2
  clear c2
  obtain rfl := Option.some.inj H
  go_enter Try.func17, Try.ntmps17
  go_wp2_with (first | ((with_reducible refine gate_dst (N := 1) rfl ?_); refine box_event ?hg (N := 1) ?hd (cs := #[.string a0_0, .bool a0_1, .int .i64 a0_2]) (t := 41) ?hr ?_; (case hd => rfl); (case hg => rfl); (case hr => first | (go_simp; done) | (go_simp; rfl)); intro gb192 hg w3 hbox hb; have n0_ := Bs0 HB hb; have n1_ := Ax (hbox); have n2_ := Gw0 HB hg; have n3_ := Gw0 HB hg; clear HB; have HB := n0_; have BK192 := n1_; have GW192 := n2_; have GE192 := n3_; clear n0_ n1_ n2_ n3_; clear hb hbox hg; obtain ⟨hcz4_0, hcz4_1, hcz4_2, hfz4_0, hfz4_1, hfz4_2⟩ := cl3 BK192))
  repeat (go_quiet (first | ((with_reducible refine gate_dst (N := 1) rfl ?_); refine box_event ?hg (N := 1) ?hd (cs := #[.string a0_0, .bool a0_1, .int .i64 a0_2]) (t := 41) ?hr ?_; (case hd => rfl); (case hg => rfl); (case hr => first | (go_simp; done) | (go_simp; rfl)); intro gb192 hg w3 hbox hb; have n0_ := Bs0 HB hb; have n1_ := Ax (hbox); have n2_ := Gw0 HB hg; have n3_ := Gw0 HB hg; clear HB; have HB := n0_; have BK192 := n1_; have GW192 := n2_; have GE192 := n3_; clear n0_ n1_ n2_ n3_; clear hb hbox hg; obtain ⟨hcz4_0, hcz4_1, hcz4_2, hfz4_0, hfz4_1, hfz4_2⟩ := cl3 BK192)); try go_wp2_with (first | ((with_reducible refine gate_dst (N := 1) rfl ?_); refine box_event ?hg (N := 1) ?hd (cs := #[.string a0_0, .bool a0_1, .int .i64 a0_2]) (t := 41) ?hr ?_; (case hd => rfl); (case hg => rfl); (case hr => first | (go_simp; done) | (go_simp; rfl)); intro gb192 hg w3 hbox hb; have n0_ := Bs0 HB hb; have n1_ := Ax (hbox); have n2_ := Gw0 HB hg; have n3_ := Gw0 HB hg; clear HB; have HB := n0_; have BK192 := n1_; have GW192 := n2_; have GE192 := n3_; clear n0_ n1_ n2_ n3_; clear hb hbox hg; obtain ⟨hcz4_0, hcz4_1, hcz4_2, hfz4_0, hfz4_1, hfz4_2⟩ := cl3 BK192)))
  go_ret
  exact ⟨eS, bw1 HB.out GE192.out⟩
 ·rw [if_neg c2] at H
  have c2b0 : decide (a0_2 < 0) = false := decide_eq_false c2
  clear c2
  by_cases c5 : a0_2 > 65535
  ·rw [if_pos c5] at H
   have c5b0 : decide (65535 < a0_2) = true := decide_eq_true c5
   clear c5
   obtain rfl := Option.some.inj H
   go_enter Try.func17, Try.ntmps17
   go_wp2_with (first | ((with_reducible refine gate_dst (N := 1) rfl ?_); refine box_event ?hg (N := 1) ?hd (cs := #[.string a0_0, .bool a0_1, .int .i64 a0_2]) (t := 41) ?hr ?_; (case hd => rfl); (case hg => rfl); (case hr => first | (go_simp; done) | (go_simp; rfl)); intro gb192 hg w6 hbox hb; have n0_ := Bs0 HB hb; have n1_ := Ax (hbox); have n2_ := Gw0 HB hg; have n3_ := Gw0 HB hg; clear HB; have HB := n0_; have BK192 := n1_; have GW192 := n2_; have GE192 := n3_; clear n0_ n1_ n2_ n3_; clear hb hbox hg; obtain ⟨hcz7_0, hcz7_1, hcz7_2, hfz7_0, hfz7_1, hfz7_2⟩ := cl3 BK192))
   repeat (go_quiet (first | ((with_reducible refine gate_dst (N := 1) rfl ?_); refine box_event ?hg (N := 1) ?hd (cs := #[.string a0_0, .bool a0_1, .int .i64 a0_2]) (t := 41) ?hr ?_; (case hd => rfl); (case hg => rfl); (case hr => first | (go_simp; done) | (go_simp; rfl)); intro gb192 hg w6 hbox hb; have n0_ := Bs0 HB hb; have n1_ := Ax (hbox); have n2_ := Gw0 HB hg; have n3_ := Gw0 HB hg; clear HB; have HB := n0_; have BK192 := n1_; have GW192 := n2_; have GE192 := n3_; clear n0_ n1_ n2_ n3_; clear hb hbox hg; obtain ⟨hcz7_0, hcz7_1, hcz7_2, hfz7_0, hfz7_1, hfz7_2⟩ := cl3 BK192)); try go_wp2_with (first | ((with_reducible refine gate_dst (N := 1) rfl ?_); refine box_event ?hg (N := 1) ?hd (cs := #[.string a0_0, .bool a0_1, .int .i64 a0_2]) (t := 41) ?hr ?_; (case hd => rfl); (case hg => rfl); (case hr => first | (go_simp; done) | (go_simp; rfl)); intro gb192 hg w6 hbox hb; have n0_ := Bs0 HB hb; have n1_ := Ax (hbox); have n2_ := Gw0 HB hg; have n3_ := Gw0 HB hg; clear HB; have HB := n0_; have BK192 := n1_; have GW192 := n2_; have GE192 := n3_; clear n0_ n1_ n2_ n3_; clear hb hbox hg; obtain ⟨hcz7_0, hcz7_1, hcz7_2, hfz7_0, hfz7_1, hfz7_2⟩ := cl3 BK192)))
   go_ret
   exact ⟨eS, bw1 HB.out GE192.out⟩
  ·rw [if_neg c5] at H
   have c5b0 : decide (65535 < a0_2) = false := decide_eq_false c5
   clear c5
   by_cases c8 : a0_0.toList = ([] : List UInt8)
   ·rw [if_pos c8] at H
    have c8b0 : (a0_0.toList == ([] : List UInt8)) = true := beq_iff_eq.mpr c8
    have c8b1 : (a0_0.toList != ([] : List UInt8)) = false := bne_eq_false_iff_eq.mpr c8
    clear c8
    by_cases c9 : a0_2 > 0
    ·rw [if_pos c9] at H
     have c9b0 : decide (0 < a0_2) = true := decide_eq_true c9
     clear c9
     by_cases c10 : a0_1 = true
     ·subst c10
      have H1 : (some 2) = some r := by rw [if_pos rfl] at H; exact H
      clear H
      have H := H1
      clear H1
      obtain rfl := Option.some.inj H
      go_enter Try.func17, Try.ntmps17
      go_wp2_with (first | ((with_reducible refine gate_dst (N := 1) rfl ?_); refine box_event ?hg (N := 1) ?hd (cs := #[.string a0_0, .bool true, .int .i64 a0_2]) (t := 41) ?hr ?_; (case hd => rfl); (case hg => rfl); (case hr => first | (go_simp; done) | (go_simp; rfl)); intro gb192 hg w11 hbox hb; have n0_ := Bs0 HB hb; have n1_ := Ax (hbox); have n2_ := Gw0 HB hg; have n3_ := Gw0 HB hg; clear HB; have HB := n0_; have BK192 := n1_; have GW192 := n2_; have GE192 := n3_; clear n0_ n1_ n2_ n3_; clear hb hbox hg; obtain ⟨hcz12_0, hcz12_1, hcz12_2, hfz12_0, hfz12_1, hfz12_2⟩ := cl3 BK192))
      repeat (go_quiet (first | ((with_reducible refine gate_dst (N := 1) rfl ?_); refine box_event ?hg (N := 1) ?hd (cs := #[.string a0_0, .bool true, .int .i64 a0_2]) (t := 41) ?hr ?_; (case hd => rfl); (case hg => rfl); (case hr => first | (go_simp; done) | (go_simp; rfl)); intro gb192 hg w11 hbox hb; have n0_ := Bs0 HB hb; have n1_ := Ax (hbox); have n2_ := Gw0 HB hg; have n3_ := Gw0 HB hg; clear HB; have HB := n0_; have BK192 := n1_; have GW192 := n2_; have GE192 := n3_; clear n0_ n1_ n2_ n3_; clear hb hbox hg; obtain ⟨hcz12_0, hcz12_1, hcz12_2, hfz12_0, hfz12_1, hfz12_2⟩ := cl3 BK192)); try go_wp2_with (first | ((with_reducible refine gate_dst (N := 1) rfl ?_); refine box_event ?hg (N := 1) ?hd (cs := #[.string a0_0, .bool true, .int .i64 a0_2]) (t := 41) ?hr ?_; (case hd => rfl); (case hg => rfl); (case hr => first | (go_simp; done) | (go_simp; rfl)); intro gb192 hg w11 hbox hb; have n0_ := Bs0 HB hb; have n1_ := Ax (hbox); have n2_ := Gw0 HB hg; have n3_ := Gw0 HB hg; clear HB; have HB := n0_; have BK192 := n1_; have GW192 := n2_; have GE192 := n3_; clear n0_ n1_ n2_ n3_; clear hb hbox hg; obtain ⟨hcz12_0, hcz12_1, hcz12_2, hfz12_0, hfz12_1, hfz12_2⟩ := cl3 BK192)))
      go_ret
      exact ⟨eS, bw1 HB.out GE192.out⟩
     ·replace c10 := Bool.eq_false_iff.mpr c10
      subst c10
      have H1 : (some 0) = some r := by rw [if_neg (show ¬ (false = true) by decide)] at H; exact H
      clear H
      have H := H1
      clear H1
      obtain rfl := Option.some.inj H
      go_enter Try.func17, Try.ntmps17
      go_wp2_with (first | ((with_reducible refine gate_dst (N := 1) rfl ?_); refine box_event ?hg (N := 1) ?hd (cs := #[.string a0_0, .bool false, .int .i64 a0_2]) (t := 41) ?hr ?_; (case hd => rfl); (case hg => rfl); (case hr => first | (go_simp; done) | (go_simp; rfl)); intro gb192 hg w13 hbox hb; have n0_ := Bs0 HB hb; have n1_ := Ax (hbox); have n2_ := Gw0 HB hg; have n3_ := Gw0 HB hg; clear HB; have HB := n0_; have BK192 := n1_; have GW192 := n2_; have GE192 := n3_; clear n0_ n1_ n2_ n3_; clear hb hbox hg; obtain ⟨hcz14_0, hcz14_1, hcz14_2, hfz14_0, hfz14_1, hfz14_2⟩ := cl3 BK192))
      repeat (go_quiet (first | ((with_reducible refine gate_dst (N := 1) rfl ?_); refine box_event ?hg (N := 1) ?hd (cs := #[.string a0_0, .bool false, .int .i64 a0_2]) (t := 41) ?hr ?_; (case hd => rfl); (case hg => rfl); (case hr => first | (go_simp; done) | (go_simp; rfl)); intro gb192 hg w13 hbox hb; have n0_ := Bs0 HB hb; have n1_ := Ax (hbox); have n2_ := Gw0 HB hg; have n3_ := Gw0 HB hg; clear HB; have HB := n0_; have BK192 := n1_; have GW192 := n2_; have GE192 := n3_; clear n0_ n1_ n2_ n3_; clear hb hbox hg; obtain ⟨hcz14_0, hcz14_1, hcz14_2, hfz14_0, hfz14_1, hfz14_2⟩ := cl3 BK192)); try go_wp2_with (first | ((with_reducible refine gate_dst (N := 1) rfl ?_); refine box_event ?hg (N := 1) ?hd (cs := #[.string a0_0, .bool false, .int .i64 a0_2]) (t := 41) ?hr ?_; (case hd => rfl); (case hg => rfl); (case hr => first | (go_simp; done) | (go_simp; rfl)); intro gb192 hg w13 hbox hb; have n0_ := Bs0 HB hb; have n1_ := Ax (hbox); have n2_ := Gw0 HB hg; have n3_ := Gw0 HB hg; clear HB; have HB := n0_; have BK192 := n1_; have GW192 := n2_; have GE192 := n3_; clear n0_ n1_ n2_ n3_; clear hb hbox hg; obtain ⟨hcz14_0, hcz14_1, hcz14_2, hfz14_0, hfz14_1, hfz14_2⟩ := cl3 BK192)))
      go_ret
      exact ⟨eS, bw1 HB.out GE192.out⟩
    ·rw [if_neg c9] at H
     have c9b0 : decide (0 < a0_2) = false := decide_eq_false c9
     clear c9
     obtain rfl := Option.some.inj H
     go_enter Try.func17, Try.ntmps17
     go_wp2_with (first | ((with_reducible refine gate_dst (N := 1) rfl ?_); refine box_event ?hg (N := 1) ?hd (cs := #[.string a0_0, .bool a0_1, .int .i64 a0_2]) (t := 41) ?hr ?_; (case hd => rfl); (case hg => rfl); (case hr => first | (go_simp; done) | (go_simp; rfl)); intro gb192 hg w15 hbox hb; have n0_ := Bs0 HB hb; have n1_ := Ax (hbox); have n2_ := Gw0 HB hg; have n3_ := Gw0 HB hg; clear HB; have HB := n0_; have BK192 := n1_; have GW192 := n2_; have GE192 := n3_; clear n0_ n1_ n2_ n3_; clear hb hbox hg; obtain ⟨hcz16_0, hcz16_1, hcz16_2, hfz16_0, hfz16_1, hfz16_2⟩ := cl3 BK192))
     repeat (go_quiet (first | ((with_reducible refine gate_dst (N := 1) rfl ?_); refine box_event ?hg (N := 1) ?hd (cs := #[.string a0_0, .bool a0_1, .int .i64 a0_2]) (t := 41) ?hr ?_; (case hd => rfl); (case hg => rfl); (case hr => first | (go_simp; done) | (go_simp; rfl)); intro gb192 hg w15 hbox hb; have n0_ := Bs0 HB hb; have n1_ := Ax (hbox); have n2_ := Gw0 HB hg; have n3_ := Gw0 HB hg; clear HB; have HB := n0_; have BK192 := n1_; have GW192 := n2_; have GE192 := n3_; clear n0_ n1_ n2_ n3_; clear hb hbox hg; obtain ⟨hcz16_0, hcz16_1, hcz16_2, hfz16_0, hfz16_1, hfz16_2⟩ := cl3 BK192)); try go_wp2_with (first | ((with_reducible refine gate_dst (N := 1) rfl ?_); refine box_event ?hg (N := 1) ?hd (cs := #[.string a0_0, .bool a0_1, .int .i64 a0_2]) (t := 41) ?hr ?_; (case hd => rfl); (case hg => rfl); (case hr => first | (go_simp; done) | (go_simp; rfl)); intro gb192 hg w15 hbox hb; have n0_ := Bs0 HB hb; have n1_ := Ax (hbox); have n2_ := Gw0 HB hg; have n3_ := Gw0 HB hg; clear HB; have HB := n0_; have BK192 := n1_; have GW192 := n2_; have GE192 := n3_; clear n0_ n1_ n2_ n3_; clear hb hbox hg; obtain ⟨hcz16_0, hcz16_1, hcz16_2, hfz16_0, hfz16_1, hfz16_2⟩ := cl3 BK192)))
     go_ret
     exact ⟨eS, bw1 HB.out GE192.out⟩
   ·rw [if_neg c8] at H
    have c8b0 : (a0_0.toList == ([] : List UInt8)) = false := beq_eq_false_iff_ne.mpr c8
    have c8b1 : (a0_0.toList != ([] : List UInt8)) = true := bne_iff_ne.mpr c8
    by_cases c17 : a0_2 > 0
    ·rw [if_pos c17] at H
     have c17b0 : decide (0 < a0_2) = true := decide_eq_true c17
     clear c17
     obtain rfl := Option.some.inj H
     go_enter Try.func17, Try.ntmps17
     go_wp2_with (first | ((with_reducible refine gate_dst (N := 1) rfl ?_); refine box_event ?hg (N := 1) ?hd (cs := #[.string a0_0, .bool a0_1, .int .i64 a0_2]) (t := 41) ?hr ?_; (case hd => rfl); (case hg => rfl); (case hr => first | (go_simp; done) | (go_simp; rfl)); intro gb192 hg w18 hbox hb; have n0_ := Bs0 HB hb; have n1_ := Ax (hbox); have n2_ := Gw0 HB hg; have n3_ := Gw0 HB hg; clear HB; have HB := n0_; have BK192 := n1_; have GW192 := n2_; have GE192 := n3_; clear n0_ n1_ n2_ n3_; clear hb hbox hg; obtain ⟨hcz19_0, hcz19_1, hcz19_2, hfz19_0, hfz19_1, hfz19_2⟩ := cl3 BK192))
     repeat (go_quiet (first | ((with_reducible refine gate_dst (N := 1) rfl ?_); refine box_event ?hg (N := 1) ?hd (cs := #[.string a0_0, .bool a0_1, .int .i64 a0_2]) (t := 41) ?hr ?_; (case hd => rfl); (case hg => rfl); (case hr => first | (go_simp; done) | (go_simp; rfl)); intro gb192 hg w18 hbox hb; have n0_ := Bs0 HB hb; have n1_ := Ax (hbox); have n2_ := Gw0 HB hg; have n3_ := Gw0 HB hg; clear HB; have HB := n0_; have BK192 := n1_; have GW192 := n2_; have GE192 := n3_; clear n0_ n1_ n2_ n3_; clear hb hbox hg; obtain ⟨hcz19_0, hcz19_1, hcz19_2, hfz19_0, hfz19_1, hfz19_2⟩ := cl3 BK192)); try go_wp2_with (first | ((with_reducible refine gate_dst (N := 1) rfl ?_); refine box_event ?hg (N := 1) ?hd (cs := #[.string a0_0, .bool a0_1, .int .i64 a0_2]) (t := 41) ?hr ?_; (case hd => rfl); (case hg => rfl); (case hr => first | (go_simp; done) | (go_simp; rfl)); intro gb192 hg w18 hbox hb; have n0_ := Bs0 HB hb; have n1_ := Ax (hbox); have n2_ := Gw0 HB hg; have n3_ := Gw0 HB hg; clear HB; have HB := n0_; have BK192 := n1_; have GW192 := n2_; have GE192 := n3_; clear n0_ n1_ n2_ n3_; clear hb hbox hg; obtain ⟨hcz19_0, hcz19_1, hcz19_2, hfz19_0, hfz19_1, hfz19_2⟩ := cl3 BK192)))
     go_ret
     exact ⟨eS, bw1 HB.out GE192.out⟩
    ·rw [if_neg c17] at H
     have c17b0 : decide (0 < a0_2) = false := decide_eq_false c17
     clear c17
     by_cases c20 : a0_1 = true
     ·subst c20
      have H1 : (some 2) = some r := by rw [if_pos rfl] at H; exact H
      clear H
      have H := H1
      clear H1
      obtain rfl := Option.some.inj H
      go_enter Try.func17, Try.ntmps17
      go_wp2_with (first | ((with_reducible refine gate_dst (N := 1) rfl ?_); refine box_event ?hg (N := 1) ?hd (cs := #[.string a0_0, .bool true, .int .i64 a0_2]) (t := 41) ?hr ?_; (case hd => rfl); (case hg => rfl); (case hr => first | (go_simp; done) | (go_simp; rfl)); intro gb192 hg w21 hbox hb; have n0_ := Bs0 HB hb; have n1_ := Ax (hbox); have n2_ := Gw0 HB hg; have n3_ := Gw0 HB hg; clear HB; have HB := n0_; have BK192 := n1_; have GW192 := n2_; have GE192 := n3_; clear n0_ n1_ n2_ n3_; clear hb hbox hg; obtain ⟨hcz22_0, hcz22_1, hcz22_2, hfz22_0, hfz22_1, hfz22_2⟩ := cl3 BK192))
      repeat (go_quiet (first | ((with_reducible refine gate_dst (N := 1) rfl ?_); refine box_event ?hg (N := 1) ?hd (cs := #[.string a0_0, .bool true, .int .i64 a0_2]) (t := 41) ?hr ?_; (case hd => rfl); (case hg => rfl); (case hr => first | (go_simp; done) | (go_simp; rfl)); intro gb192 hg w21 hbox hb; have n0_ := Bs0 HB hb; have n1_ := Ax (hbox); have n2_ := Gw0 HB hg; have n3_ := Gw0 HB hg; clear HB; have HB := n0_; have BK192 := n1_; have GW192 := n2_; have GE192 := n3_; clear n0_ n1_ n2_ n3_; clear hb hbox hg; obtain ⟨hcz22_0, hcz22_1, hcz22_2, hfz22_0, hfz22_1, hfz22_2⟩ := cl3 BK192)); try go_wp2_with (first | ((with_reducible refine gate_dst (N := 1) rfl ?_); refine box_event ?hg (N := 1) ?hd (cs := #[.string a0_0, .bool true, .int .i64 a0_2]) (t := 41) ?hr ?_; (case hd => rfl); (case hg => rfl); (case hr => first | (go_simp; done) | (go_simp; rfl)); intro gb192 hg w21 hbox hb; have n0_ := Bs0 HB hb; have n1_ := Ax (hbox); have n2_ := Gw0 HB hg; have n3_ := Gw0 HB hg; clear HB; have HB := n0_; have BK192 := n1_; have GW192 := n2_; have GE192 := n3_; clear n0_ n1_ n2_ n3_; clear hb hbox hg; obtain ⟨hcz22_0, hcz22_1, hcz22_2, hfz22_0, hfz22_1, hfz22_2⟩ := cl3 BK192)))
      go_ret
      exact ⟨eS, bw1 HB.out GE192.out⟩
     ·replace c20 := Bool.eq_false_iff.mpr c20
      subst c20
      have H1 : ((cutter_begins.f a0_0).bind fun t193 => (if t193 = true then (some 0) else (some 2))) = some r := by rw [if_neg (show ¬ (false = true) by decide)] at H; exact H
      clear H
      have H := H1
      clear H1
      replace H := Option.bind_eq_some_iff.mp H
      obtain ⟨t193, A230, H⟩ := H
      replace H : (if t193 = true then (some 0) else (some 2)) = some r := H
      have A23 := Ax A230
      clear A230
      by_cases c24 : t193 = true
      ·subst c24
       have H1 : (some 0) = some r := by rw [if_pos rfl] at H; exact H
       clear H
       have H := H1
       clear H1
       obtain rfl := Option.some.inj H
       go_enter Try.func17, Try.ntmps17
       go_wp2_with (first | ((with_reducible refine gate_dst (N := 1) rfl ?_); refine box_event ?hg (N := 1) ?hd (cs := #[.string a0_0, .bool false, .int .i64 a0_2]) (t := 41) ?hr ?_; (case hd => rfl); (case hg => rfl); (case hr => first | (go_simp; done) | (go_simp; rfl)); intro gb192 hg w25 hbox hb; have n0_ := Bs0 HB hb; have n1_ := Ax (hbox); have n2_ := Gw0 HB hg; have n3_ := Gw0 HB hg; clear HB; have HB := n0_; have BK192 := n1_; have GW192 := n2_; have GE192 := n3_; clear n0_ n1_ n2_ n3_; clear hb hbox hg; obtain ⟨hcz26_0, hcz26_1, hcz26_2, hfz26_0, hfz26_1, hfz26_2⟩ := cl3 BK192) | (go_at_call 32; (with_reducible refine (cutter_begins.calls a0_0 true _ A23.out).mono ?_); rintro e w' ⟨rfl, ⟨nd, rfl⟩⟩; (try first | exact ⟨rfl, _, World.drewN_drewN _ _ _⟩ | exact ⟨rfl, _, Eq.trans (World.drewN_drewN _ _ _) (congrArg (World.drewN _) (Nat.add_assoc _ _ _))⟩)))
       repeat (go_quiet (first | ((with_reducible refine gate_dst (N := 1) rfl ?_); refine box_event ?hg (N := 1) ?hd (cs := #[.string a0_0, .bool false, .int .i64 a0_2]) (t := 41) ?hr ?_; (case hd => rfl); (case hg => rfl); (case hr => first | (go_simp; done) | (go_simp; rfl)); intro gb192 hg w25 hbox hb; have n0_ := Bs0 HB hb; have n1_ := Ax (hbox); have n2_ := Gw0 HB hg; have n3_ := Gw0 HB hg; clear HB; have HB := n0_; have BK192 := n1_; have GW192 := n2_; have GE192 := n3_; clear n0_ n1_ n2_ n3_; clear hb hbox hg; obtain ⟨hcz26_0, hcz26_1, hcz26_2, hfz26_0, hfz26_1, hfz26_2⟩ := cl3 BK192) | (go_at_call 32; (with_reducible refine (cutter_begins.calls a0_0 true _ A23.out).mono ?_); rintro e w' ⟨rfl, ⟨nd, rfl⟩⟩; (try first | exact ⟨rfl, _, World.drewN_drewN _ _ _⟩ | exact ⟨rfl, _, Eq.trans (World.drewN_drewN _ _ _) (congrArg (World.drewN _) (Nat.add_assoc _ _ _))⟩))); try go_wp2_with (first | ((with_reducible refine gate_dst (N := 1) rfl ?_); refine box_event ?hg (N := 1) ?hd (cs := #[.string a0_0, .bool false, .int .i64 a0_2]) (t := 41) ?hr ?_; (case hd => rfl); (case hg => rfl); (case hr => first | (go_simp; done) | (go_simp; rfl)); intro gb192 hg w25 hbox hb; have n0_ := Bs0 HB hb; have n1_ := Ax (hbox); have n2_ := Gw0 HB hg; have n3_ := Gw0 HB hg; clear HB; have HB := n0_; have BK192 := n1_; have GW192 := n2_; have GE192 := n3_; clear n0_ n1_ n2_ n3_; clear hb hbox hg; obtain ⟨hcz26_0, hcz26_1, hcz26_2, hfz26_0, hfz26_1, hfz26_2⟩ := cl3 BK192) | (go_at_call 32; (with_reducible refine (cutter_begins.calls a0_0 true _ A23.out).mono ?_); rintro e w' ⟨rfl, ⟨nd, rfl⟩⟩; (try first | exact ⟨rfl, _, World.drewN_drewN _ _ _⟩ | exact ⟨rfl, _, Eq.trans (World.drewN_drewN _ _ _) (congrArg (World.drewN _) (Nat.add_assoc _ _ _))⟩))))
       go_ret
       exact ⟨eS, bw1 HB.out GE192.out⟩
      ·replace c24 := Bool.eq_false_iff.mpr c24
       subst c24
       have H1 : (some 2) = some r := by rw [if_neg (show ¬ (false = true) by decide)] at H; exact H
       clear H
       have H := H1
       clear H1
       obtain rfl := Option.some.inj H
       go_enter Try.func17, Try.ntmps17
       go_wp2_with (first | ((with_reducible refine gate_dst (N := 1) rfl ?_); refine box_event ?hg (N := 1) ?hd (cs := #[.string a0_0, .bool false, .int .i64 a0_2]) (t := 41) ?hr ?_; (case hd => rfl); (case hg => rfl); (case hr => first | (go_simp; done) | (go_simp; rfl)); intro gb192 hg w27 hbox hb; have n0_ := Bs0 HB hb; have n1_ := Ax (hbox); have n2_ := Gw0 HB hg; have n3_ := Gw0 HB hg; clear HB; have HB := n0_; have BK192 := n1_; have GW192 := n2_; have GE192 := n3_; clear n0_ n1_ n2_ n3_; clear hb hbox hg; obtain ⟨hcz28_0, hcz28_1, hcz28_2, hfz28_0, hfz28_1, hfz28_2⟩ := cl3 BK192) | (go_at_call 32; (with_reducible refine (cutter_begins.calls a0_0 false _ A23.out).mono ?_); rintro e w' ⟨rfl, ⟨nd, rfl⟩⟩; (try first | exact ⟨rfl, _, World.drewN_drewN _ _ _⟩ | exact ⟨rfl, _, Eq.trans (World.drewN_drewN _ _ _) (congrArg (World.drewN _) (Nat.add_assoc _ _ _))⟩)))
       repeat (go_quiet (first | ((with_reducible refine gate_dst (N := 1) rfl ?_); refine box_event ?hg (N := 1) ?hd (cs := #[.string a0_0, .bool false, .int .i64 a0_2]) (t := 41) ?hr ?_; (case hd => rfl); (case hg => rfl); (case hr => first | (go_simp; done) | (go_simp; rfl)); intro gb192 hg w27 hbox hb; have n0_ := Bs0 HB hb; have n1_ := Ax (hbox); have n2_ := Gw0 HB hg; have n3_ := Gw0 HB hg; clear HB; have HB := n0_; have BK192 := n1_; have GW192 := n2_; have GE192 := n3_; clear n0_ n1_ n2_ n3_; clear hb hbox hg; obtain ⟨hcz28_0, hcz28_1, hcz28_2, hfz28_0, hfz28_1, hfz28_2⟩ := cl3 BK192) | (go_at_call 32; (with_reducible refine (cutter_begins.calls a0_0 false _ A23.out).mono ?_); rintro e w' ⟨rfl, ⟨nd, rfl⟩⟩; (try first | exact ⟨rfl, _, World.drewN_drewN _ _ _⟩ | exact ⟨rfl, _, Eq.trans (World.drewN_drewN _ _ _) (congrArg (World.drewN _) (Nat.add_assoc _ _ _))⟩))); try go_wp2_with (first | ((with_reducible refine gate_dst (N := 1) rfl ?_); refine box_event ?hg (N := 1) ?hd (cs := #[.string a0_0, .bool false, .int .i64 a0_2]) (t := 41) ?hr ?_; (case hd => rfl); (case hg => rfl); (case hr => first | (go_simp; done) | (go_simp; rfl)); intro gb192 hg w27 hbox hb; have n0_ := Bs0 HB hb; have n1_ := Ax (hbox); have n2_ := Gw0 HB hg; have n3_ := Gw0 HB hg; clear HB; have HB := n0_; have BK192 := n1_; have GW192 := n2_; have GE192 := n3_; clear n0_ n1_ n2_ n3_; clear hb hbox hg; obtain ⟨hcz28_0, hcz28_1, hcz28_2, hfz28_0, hfz28_1, hfz28_2⟩ := cl3 BK192) | (go_at_call 32; (with_reducible refine (cutter_begins.calls a0_0 false _ A23.out).mono ?_); rintro e w' ⟨rfl, ⟨nd, rfl⟩⟩; (try first | exact ⟨rfl, _, World.drewN_drewN _ _ _⟩ | exact ⟨rfl, _, Eq.trans (World.drewN_drewN _ _ _) (congrArg (World.drewN _) (Nat.add_assoc _ _ _))⟩))))
       go_ret
       exact ⟨eS, bw1 HB.out GE192.out⟩
def IsS64 (w0 W : World) (g : Nat) (f0 : ByteArray) (f1 : Bool) (f2 : Int) (f3 : ByteArray) (f4 : List (S47)) : Prop := ∃ A4 c4, W.heap[g]? = some (.cells #[.string f0, .bool f1, .int .i64 f2, .string f3, .slice A4 f4.length c4] 64 (0, 0)) ∧ w0.heap.size ≤ g ∧ Kd.C k47 w0 A4 f4.length f4
theorem IsS64.grown {w0 W : World} {g : Nat} {f0 : ByteArray} {f1 : Bool} {f2 : Int} {f3 : ByteArray} {f4 : List (S47)} {W1 : World} {row : Option Nat} (h : IsS64 w0 W g f0 f1 f2 f3 f4) (hw : W.grownBy W1 row) (hne : some g ≠ row) : IsS64 w0 W1 g f0 f1 f2 f3 f4 := by
 obtain ⟨A4, c4, hb, hg, hr4⟩ := h
 exact ⟨A4, c4, blk_grown hb hw hne, hg, hr4⟩
theorem IsS64.fresh {w0 W : World} {g : Nat} {f0 : ByteArray} {f1 : Bool} {f2 : Int} {f3 : ByteArray} {f4 : List (S47)} (h : IsS64 w0 W g f0 f1 f2 f3 f4) : ∀ k, W.heap.size ≤ k → k ≠ g := by
 obtain ⟨A4, c4, hb, hg, hr4⟩ := h
 exact Kd.freshB hb
theorem IsS64.kept {w0 W : World} {g : Nat} {f0 : ByteArray} {f1 : Bool} {f2 : Int} {f3 : ByteArray} {f4 : List (S47)} {W1 : World} {S : Nat → Prop} (h : IsS64 w0 W g f0 f1 f2 f3 f4) (hk : Kept W W1 S) (hne : ¬ S g) : IsS64 w0 W1 g f0 f1 f2 f3 f4 := by
 obtain ⟨A4, c4, hb, hg, hr4⟩ := h
 exact ⟨A4, c4, blk_kept hb hk hne, hg, hr4⟩
theorem IsS64.below {w0 W : World} {g : Nat} {f0 : ByteArray} {f1 : Bool} {f2 : Int} {f3 : ByteArray} {f4 : List (S47)} {W1 : World} (h : IsS64 w0 W g f0 f1 f2 f3 f4) (hw : Below W.heap.size W W1) : IsS64 w0 W1 g f0 f1 f2 f3 f4 := h.grown (grown_of_below hw none) (by simp)
theorem IsS64.alloc {w0 W : World} {g : Nat} {f0 : ByteArray} {f1 : Bool} {f2 : Int} {f3 : ByteArray} {f4 : List (S47)} (h : IsS64 w0 W g f0 f1 f2 f3 f4) (o : Obj) : IsS64 w0 (W.alloc o) g f0 f1 f2 f3 f4 := h.below (below_alloc (Below.refl _ _) o)
theorem IsS64.drewN {w0 W : World} {g : Nat} {f0 : ByteArray} {f1 : Bool} {f2 : Int} {f3 : ByteArray} {f4 : List (S47)} (h : IsS64 w0 W g f0 f1 f2 f3 f4) (m : Nat) : IsS64 w0 (W.drewN m) g f0 f1 f2 f3 f4 := h
theorem IsS64.drew {w0 W : World} {g : Nat} {f0 : ByteArray} {f1 : Bool} {f2 : Int} {f3 : ByteArray} {f4 : List (S47)} (h : IsS64 w0 W g f0 f1 f2 f3 f4) : IsS64 w0 W.drew g f0 f1 f2 f3 f4 := h
theorem IsS64.at_ {w0 W : World} {g : Nat} {f0 : ByteArray} {f1 : Bool} {f2 : Int} {f3 : ByteArray} {f4 : List (S47)} {w' : World} {m : Nat} (hq : W.drewN m = w') (h : IsS64 w0 W g f0 f1 f2 f3 f4) : IsS64 w0 w' g f0 f1 f2 f3 f4 := by subst hq; exact IsS64.drewN h m
theorem IsS64.apart {w0 W : World} {g : Nat} {f0 : ByteArray} {f1 : Bool} {f2 : Int} {f3 : ByteArray} {f4 : List (S47)} {α : Type} {d : Kd α} {e : Nat} {base : Nat} {ok : Nat → Prop} {v : Value} {xs : List α} (h : IsS64 w0 W g f0 f1 f2 f3 f4) (ho : d.R e W base ok v xs) (ht : ∀ q, q ∈ e :: d.E → q ≠ 64) : d.R e W base (fun k => ok k ∧ k ≠ g) v xs := by
 obtain ⟨A4, c4, hb, hg, hr4⟩ := h
 exact Kd.R_types ho hb ht
theorem IsS64.own_ne {w0 W : World} {g : Nat} {f0 : ByteArray} {f1 : Bool} {f2 : Int} {f3 : ByteArray} {f4 : List (S47)} {α : Type} {d : Kd α} {e : Nat} {base : Nat} {ok : Nat → Prop} {v : Value} {xs : List α} (h : IsS64 w0 W g f0 f1 f2 f3 f4) (ho : d.R e W base ok v xs) (ht : e ≠ 64) : some g ≠ v.ownBlock := by
 obtain ⟨A4, c4, hb, hg, hr4⟩ := h
 exact Kd.R_ne ho hb ht
theorem IsS64.lt {w0 W : World} {g : Nat} {f0 : ByteArray} {f1 : Bool} {f2 : Int} {f3 : ByteArray} {f4 : List (S47)} (h : IsS64 w0 W g f0 f1 f2 f3 f4) : g < W.heap.size := by
 obtain ⟨A4, c4, hb, hg, hr4⟩ := h
 exact blk_lt hb
theorem IsS64.ge {w0 W : World} {g : Nat} {f0 : ByteArray} {f1 : Bool} {f2 : Int} {f3 : ByteArray} {f4 : List (S47)} (h : IsS64 w0 W g f0 f1 f2 f3 f4) : w0.heap.size ≤ g := by
 obtain ⟨A4, c4, hb, hg, hr4⟩ := h
 exact hg
theorem IsS64.far {w0 W : World} {g : Nat} {f0 : ByteArray} {f1 : Bool} {f2 : Int} {f3 : ByteArray} {f4 : List (S47)} {p : Addr} (h : IsS64 w0 W g f0 f1 f2 f3 f4) (hne : g ≠ p.block) (u : Value) : IsS64 w0 (W.setCell p u) g f0 f1 f2 f3 f4 := by
 obtain ⟨A4, c4, hb, hg, hr4⟩ := h
 exact ⟨A4, c4, blk_far hb hne u, hg, hr4⟩
theorem IsS64.set_0 {w0 W : World} {g : Nat} {f0 : ByteArray} {f1 : Bool} {f2 : Int} {f3 : ByteArray} {f4 : List (S47)} (h : IsS64 w0 W g f0 f1 f2 f3 f4) (x : ByteArray) : IsS64 w0 (W.setCell ⟨g, 0, none⟩ (.string x)) g x f1 f2 f3 f4 := by
 obtain ⟨A4, c4, hb, hg, hr4⟩ := h
 exact ⟨A4, c4, by simpa using blk_set hb 0 (.string x), hg, hr4⟩
theorem IsS64.set_1 {w0 W : World} {g : Nat} {f0 : ByteArray} {f1 : Bool} {f2 : Int} {f3 : ByteArray} {f4 : List (S47)} (h : IsS64 w0 W g f0 f1 f2 f3 f4) (x : Bool) : IsS64 w0 (W.setCell ⟨g, 1, none⟩ (.bool x)) g f0 x f2 f3 f4 := by
 obtain ⟨A4, c4, hb, hg, hr4⟩ := h
 exact ⟨A4, c4, by simpa using blk_set hb 1 (.bool x), hg, hr4⟩
def stringslite_IndexByte.f (a0 : ByteArray) (a1 : Int) : Option (Int) := some (idxByte a0 a1)
set_option maxHeartbeats 8000000 in
set_option maxRecDepth 100000 in
theorem stringslite_IndexByte.calls (a0 : ByteArray) (a1 : Int) (r : Int) (w : World) (h : stringslite_IndexByte.f a0 a1 = some r) :
  Calls Try.prog 39 #[.string a0, .int .u8 a1] w fun e w' => e = .returned (.int .i64 r) ∧ Drawn0 w w' := by
 have hn41 := nat41
 have H : (some (idxByte a0 a1)) = some r := h
 clear h
 obtain rfl := Option.some.inj H
 go_enter Try.func39, Try.ntmps39
 go_wp2
 go_ret
 exact ⟨by first | rfl | (simp; done) | (simp [*]; done), by repeat (first | exact Drawn0.refl _ | apply Drawn0.step)⟩
def strings_IndexByte.f (a0 : ByteArray) (a1 : Int) : Option (Int) := (stringslite_IndexByte.f a0 a1).bind fun t194 => (some t194)
set_option maxHeartbeats 8000000 in
set_option maxRecDepth 100000 in
theorem strings_IndexByte.calls (a0 : ByteArray) (a1 : Int) (r : Int) (w : World) (h : strings_IndexByte.f a0 a1 = some r) :
  Calls Try.prog 33 #[.string a0, .int .u8 a1] w fun e w' => e = .returned (.int .i64 r) ∧ Drawn0 w w' := by
 have H : ((stringslite_IndexByte.f a0 a1).bind fun t194 => (some t194)) = some r := h
 clear h
 replace H := Option.bind_eq_some_iff.mp H
 obtain ⟨t194, A30, H⟩ := H
 replace H : (some t194) = some r := H
 have A3 := Ax A30
 clear A30
 obtain rfl := Option.some.inj H
 go_enter Try.func33, Try.ntmps33
 go_wp2_with (first | ((with_reducible refine gate_callee (f := 39) rfl ?_); refine goesL_ (some 7) rfl rfl Try.func39 (by kernel_rfl) rfl #[.string a0, .int .u8 a1] rfl gS ?_; (with_reducible refine (stringslite_IndexByte.calls a0 a1 t194 _ A3.out).mono ?_); rintro e w' ⟨rfl, ⟨nd, rfl⟩⟩; refine ⟨_, rfl, ?_⟩))
 go_ret
 exact ⟨by first | rfl | (simp; done) | (simp [*]; done), by repeat (first | exact Drawn0.refl _ | apply Drawn0.step)⟩
def CutI (w0 W : World) (g : Nat) (cs : Array Value) (v : Value) (out : List S47) : Prop :=
  W.heap[g]? = some (.cells cs 64 (0, 0)) ∧ w0.heap.size ≤ g ∧ Kd.R k47 47 W w0.heap.size (fun k => k ≠ g) v out ∧ Below w0.heap.size w0 W
theorem CutI.set {w0 W : World} {g : Nat} {cs : Array Value} {v : Value} {out : List S47} (h : CutI w0 W g cs v out) (j : Nat) (u : Value) {cs' : Array Value} (e : cs.setIfInBounds j u = cs') : CutI w0 (W.setCell ⟨g, j, none⟩ u) g cs' v out := by
  obtain ⟨hb, hg, ho, hl⟩ := h
  refine ⟨e ▸ blk_set hb j u, hg, Kd.R_step ho (fun k hk _ => Below.heap_setCell W ⟨g, j, none⟩ u k hk), hl.setCell (p := ⟨g, j, none⟩) hg u⟩
theorem CutI.drewN {w0 W : World} {g : Nat} {cs : Array Value} {v : Value} {out : List S47} (h : CutI w0 W g cs v out) (n : Nat) : CutI w0 (W.drewN n) g cs v out :=
  ⟨h.1, h.2.1, Kd.R_drewN h.2.2.1 n, pw_below_drewN h.2.2.2 n⟩
theorem CutI.drew {w0 W : World} {g : Nat} {cs : Array Value} {v : Value} {out : List S47} (h : CutI w0 W g cs v out) : CutI w0 W.drew g cs v out := ⟨h.1, h.2.1, Kd.R_drew h.2.2.1, below_drew1 h.2.2.2⟩
theorem CutI.drawn {w0 W W' : World} {g : Nat} {cs : Array Value} {v : Value} {out : List S47} (h : CutI w0 W g cs v out) (hd : Drawn0 W W') : CutI w0 W' g cs v out := by
  obtain ⟨n, rfl⟩ := hd.out
  exact h.drewN n
theorem CutI.app {w0 W W1 : World} {g : Nat} {cs : Array Value} {v v1 : Value} {out out1 : List S47} (h : CutI w0 W g cs v out) (hg : W.grownBy W1 v.ownBlock) (ho : Kd.R k47 47 W1 w0.heap.size (fun k => k ≠ g) v1 out1) (hb : Below w0.heap.size w0 W1) : CutI w0 W1 g cs v1 out1 := by
  obtain ⟨h1, h2, h3, h4⟩ := h
  exact ⟨blk_grown h1 hg (fun e => (h3.1 g e.symm) rfl), h2, ho, hb⟩
theorem CutI.lt {w0 W : World} {g : Nat} {cs : Array Value} {v : Value} {out : List S47} (h : CutI w0 W g cs v out) : g < W.heap.size := blk_lt h.1
set_option maxHeartbeats 1000000 in
theorem skip_is (g : Nat) (f0 : ByteArray) (f1 : Bool) (f2 : Int) (f3 : ByteArray) (v : Value) (out : List S47) (w0 w : World) (n : Nat) (hn : n ≤ f3.size) (hs : f3.size ≤ 4611686018427387904) (hf : 0 ≤ f2) (hf2 : f2 ≤ 4611686018427387904) (hm : (if (f3.size : Int) < f2 then (f3.size : Int) else f2) = (n : Int)) (hI : CutI w0 w g #[.string f0, .bool f1, .int .i64 f2, .string f3, v] v out) :
    Calls Try.prog 18 #[.pointer (some ⟨g, 0, none⟩)] w fun e w' => e = .returned (.tuple #[]) ∧ CutI w0 w' g #[.string f0, .bool f1, .int .i64 (f2 - n), .string (f3.extract n f3.size), v] v out := by
  have HI := Aside0.mk hI
  have HM := Aside0.mk hm
  have hc0 := (blk_cell hI.1 1).trans rfl
  have hc2 := (blk_cell hI.1 2).trans rfl
  have hc3 := (blk_cell hI.1 3).trans rfl
  have hf0_ := blk_frozen hI.1 2
  have hf3 := blk_frozen hI.1 3
  clear hI hm
  go_enter Try.func18, Try.ntmps18
  go_wp2
  repeat (go_quiet (fail); try go_wp2)
  · go_end0
    have e1 : f2 - (n : Int) = f2 - f3.size := by have := HM.out; rw [if_pos h] at this; omega
    have e2 : f3.extract n f3.size = ByteArray.empty := by have := HM.out; rw [if_pos h] at this; apply ByteArray.ext; simp; omega
    rw [e1, e2]
    exact ⟨rfl, ((HI.out.drewN nq).set 2 _ rfl).set 3 _ rfl⟩
  · go_end0
    have e1 : f2 - (n : Int) = 0 := by have := HM.out; rw [if_neg (by omega)] at this; omega
    have e2 : f2.toNat = n := by have := HM.out; rw [if_neg (by omega)] at this; omega
    rw [e1, ← e2]
    exact ⟨rfl, ((HI.out.drewN nq).set 2 _ rfl).set 3 _ rfl⟩
theorem CutI.cells {w0 W : World} {g : Nat} {cs : Array Value} {v : Value} {out : List S47} (h : CutI w0 W g cs v out) (j : Nat) : W.cell? ⟨g, j, none⟩ = cs[j]? := blk_cell h.1 j
set_option maxHeartbeats 1000000 in
theorem seek_is (g : Nat) (f0 : ByteArray) (f1 : Bool) (f2 : Int) (f3 : ByteArray) (v : Value) (out : List S47) (w0 w : World) (n : Int) (hn : idxByte f3 245 = n) (h0 : n ≠ 0) (hnl : n ≤ f3.size) (hs : f3.size ≤ 4611686018427387904) (hL : (out.length + 1) * 24 ≤ 140737488355328) (hI : CutI w0 w g #[.string f0, .bool f1, .int .i64 f2, .string f3, v] v out) :
    Calls Try.prog 19 #[.pointer (some ⟨g, 0, none⟩)] w fun e w' => e = .returned (.tuple #[]) ∧ ∃ v', CutI w0 w' g #[.string f0, .bool (decide (n < 0)), .int .i64 f2, .string (if n < 0 then ⟨#[]⟩ else f3.extract n.toNat f3.size), v'] v' (if f1 then out else out ++ [⟨2, ⟨#[]⟩⟩]) := by
  have HI := Aside0.mk hI
  have HN := Aside0.mk hn
  have HL := Aside0.mk hL
  have hc1 := (blk_cell hI.1 1).trans rfl
  have hc3 := (blk_cell hI.1 3).trans rfl
  have hf1 := blk_frozen hI.1 1
  have hf3 := blk_frozen hI.1 3
  clear hI hn hL
  have A3 : Aside0 (strings_IndexByte.f f3 245 = some n) := ⟨by rw [← HN.out]; rfl⟩
  have hc4 := (HI.out.cells 4).trans rfl
  have hf4 := blk_frozen HI.out.1 4
  have hf1' : w.frozen? ⟨g, 1, none⟩ = false := hf1
  cases f1
  · by_cases hneg : n < 0
    · have hd : decide (n < 0) = true := decide_eq_true hneg
      rw [if_pos hneg, hd]
      go_enter Try.func19, Try.ntmps19
      go_wp2_with (first | ((with_reducible refine gate_callee (f := 33) rfl ?_); refine goesL_ (some 7) rfl rfl Try.func33 (by kernel_rfl) rfl #[.string f3, .int .u8 245] rfl (by (try simp only [List.map_toArray, List.map_cons, List.map_nil]); first | done | rfl | (simp only [List.length_drop, List.length_take]; rfl)) ?_; (with_reducible refine (strings_IndexByte.calls f3 245 n _ A3.out).mono ?_); rintro e w' ⟨rfl, ⟨nd, rfl⟩⟩; refine ⟨_, rfl, ?_⟩) | ((with_reducible refine gate_builtin (b := .append) (xs := #[.tmp 26, .tmp 28]) rfl ?_); at_builtin; refine Kd.R_append k47 (w0 := w0) w0.heap.size rfl (.tmp 26) (.tmp 28) 42 47 (.agg #[(.int .u8 0), (.string ⟨#[]⟩)]) 24 rfl Try.underlying42 info47 rfl (by decide) (by omega) v out (⟨2, ⟨#[]⟩⟩ : S47) [.int .u8 2, .string ⟨#[]⟩] (fun k_ => k_ ≠ g) (fun _ => False) rfl ?aX ?aP (fun _ hk => hk.elim) ?aF ?aO ?aB ?aS ?aL ?_; (case aX => first | rfl | (go_simp; done) | (go_simp; rfl)); (case aP => exact k47_mkM _ _ _ _); (case aF => intro k_ hk_ he_; subst he_; exact absurd (CutI.lt ((HI.out.drewN nd).set 1 (.bool true) rfl)) (Nat.not_lt.2 hk_)); (case aO => exact ((HI.out.drewN nd).set 1 (.bool true) rfl).2.2.1); (case aB => exact ((HI.out.drewN nd).set 1 (.bool true) rfl).2.2.2); (case aS => exact ((HI.out.drewN nd).set 1 (.bool true) rfl).2.2.2.size); (case aL => exact HL.out); intro v1 w6 ho hb hg hat; obtain ⟨A1, c1, rfl⟩ := Kd.R_slice ho; rw [List.length_append, List.length_singleton] at ho hat; have HI6 := Aside0.mk (((HI.out.drewN nd).set 1 (.bool true) rfl).app hg ho hb); have hc64 := (HI6.out.cells 4).trans rfl; have hc63 := (HI6.out.cells 3).trans rfl; have hc62 := (HI6.out.cells 2).trans rfl; have hc61 := (HI6.out.cells 1).trans rfl; have hc60 := (HI6.out.cells 0).trans rfl; have hf64 := blk_frozen HI6.out.1 4; have hf63 := blk_frozen HI6.out.1 3; have hf62 := blk_frozen HI6.out.1 2; have hf61 := blk_frozen HI6.out.1 1; clear ho hb hg hat))
      first | go_end0 | ((try simp only [Exit.inBlock, Exit.then]); refine bodyPost_ret (results_none rfl _ _ _) rfl ?_)
      refine ⟨rfl, .slice A1 (out.length + 1) c1, ?_⟩
      exact (HI6.out.set 4 (.slice A1 (out.length + 1) c1) rfl).set 3 _ rfl
    · have hd : decide (n < 0) = false := decide_eq_false hneg
      have p0 : 0 ≤ n := by omega
      have pi0 := eq_true p0
      have pl0 := eq_true hnl
      rw [if_neg hneg, hd]
      go_enter Try.func19, Try.ntmps19
      go_wp2_with (first | ((with_reducible refine gate_callee (f := 33) rfl ?_); refine goesL_ (some 7) rfl rfl Try.func33 (by kernel_rfl) rfl #[.string f3, .int .u8 245] rfl (by (try simp only [List.map_toArray, List.map_cons, List.map_nil]); first | done | rfl | (simp only [List.length_drop, List.length_take]; rfl)) ?_; (with_reducible refine (strings_IndexByte.calls f3 245 n _ A3.out).mono ?_); rintro e w' ⟨rfl, ⟨nd, rfl⟩⟩; refine ⟨_, rfl, ?_⟩) | ((with_reducible refine gate_builtin (b := .append) (xs := #[.tmp 26, .tmp 28]) rfl ?_); at_builtin; refine Kd.R_append k47 (w0 := w0) w0.heap.size rfl (.tmp 26) (.tmp 28) 42 47 (.agg #[(.int .u8 0), (.string ⟨#[]⟩)]) 24 rfl Try.underlying42 info47 rfl (by decide) (by omega) v out (⟨2, ⟨#[]⟩⟩ : S47) [.int .u8 2, .string ⟨#[]⟩] (fun k_ => k_ ≠ g) (fun _ => False) rfl ?aX ?aP (fun _ hk => hk.elim) ?aF ?aO ?aB ?aS ?aL ?_; (case aX => first | rfl | (go_simp; done) | (go_simp; rfl)); (case aP => exact k47_mkM _ _ _ _); (case aF => intro k_ hk_ he_; subst he_; exact absurd (CutI.lt ((HI.out.drewN nd).set 1 (.bool true) rfl)) (Nat.not_lt.2 hk_)); (case aO => exact ((HI.out.drewN nd).set 1 (.bool true) rfl).2.2.1); (case aB => exact ((HI.out.drewN nd).set 1 (.bool true) rfl).2.2.2); (case aS => exact ((HI.out.drewN nd).set 1 (.bool true) rfl).2.2.2.size); (case aL => exact HL.out); intro v1 w6 ho hb hg hat; obtain ⟨A1, c1, rfl⟩ := Kd.R_slice ho; rw [List.length_append, List.length_singleton] at ho hat; have HI6 := Aside0.mk (((HI.out.drewN nd).set 1 (.bool true) rfl).app hg ho hb); have hc64 := (HI6.out.cells 4).trans rfl; have hc63 := (HI6.out.cells 3).trans rfl; have hc62 := (HI6.out.cells 2).trans rfl; have hc61 := (HI6.out.cells 1).trans rfl; have hc60 := (HI6.out.cells 0).trans rfl; have hf64 := blk_frozen HI6.out.1 4; have hf63 := blk_frozen HI6.out.1 3; have hf62 := blk_frozen HI6.out.1 2; have hf61 := blk_frozen HI6.out.1 1; clear ho hb hg hat))
      first | go_end0 | ((try simp only [Exit.inBlock, Exit.then]); refine bodyPost_ret (results_none rfl _ _ _) rfl ?_)
      refine ⟨rfl, .slice A1 (out.length + 1) c1, ?_⟩
      exact ((HI6.out.set 4 (.slice A1 (out.length + 1) c1) rfl).set 1 (.bool false) rfl).set 3 _ rfl
  · by_cases hneg : n < 0
    · have hd : decide (n < 0) = true := decide_eq_true hneg
      rw [if_pos hneg, hd]
      go_enter Try.func19, Try.ntmps19
      go_wp2_with (first | ((with_reducible refine gate_callee (f := 33) rfl ?_); refine goesL_ (some 7) rfl rfl Try.func33 (by kernel_rfl) rfl #[.string f3, .int .u8 245] rfl (by (try simp only [List.map_toArray, List.map_cons, List.map_nil]); first | done | rfl | (simp only [List.length_drop, List.length_take]; rfl)) ?_; (with_reducible refine (strings_IndexByte.calls f3 245 n _ A3.out).mono ?_); rintro e w' ⟨rfl, ⟨nd, rfl⟩⟩; refine ⟨_, rfl, ?_⟩))
      first | go_end0 | ((try simp only [Exit.inBlock, Exit.then]); refine bodyPost_ret (results_none rfl _ _ _) rfl ?_)
      exact ⟨rfl, v, (HI.out.drewN nd).set 3 _ rfl⟩
    · have hd : decide (n < 0) = false := decide_eq_false hneg
      have p0 : 0 ≤ n := by omega
      have pi0 := eq_true p0
      have pl0 := eq_true hnl
      rw [if_neg hneg, hd]
      go_enter Try.func19, Try.ntmps19
      go_wp2_with (first | ((with_reducible refine gate_callee (f := 33) rfl ?_); refine goesL_ (some 7) rfl rfl Try.func33 (by kernel_rfl) rfl #[.string f3, .int .u8 245] rfl (by (try simp only [List.map_toArray, List.map_cons, List.map_nil]); first | done | rfl | (simp only [List.length_drop, List.length_take]; rfl)) ?_; (with_reducible refine (strings_IndexByte.calls f3 245 n _ A3.out).mono ?_); rintro e w' ⟨rfl, ⟨nd, rfl⟩⟩; refine ⟨_, rfl, ?_⟩))
      first | go_end0 | ((try simp only [Exit.inBlock, Exit.then]); refine bodyPost_ret (results_none rfl _ _ _) rfl ?_)
      exact ⟨rfl, v, ((HI.out.drewN nd).set 1 (.bool false) rfl).set 3 _ rfl⟩
set_option maxHeartbeats 1000000 in
theorem take_few (g : Nat) (f0 : ByteArray) (f1 : Bool) (f2 : Int) (f3 : ByteArray) (v : Value) (out : List S47) (w0 w : World) (hs : (f3.size : Int) < 3) (hI : CutI w0 w g #[.string f0, .bool f1, .int .i64 f2, .string f3, v] v out) :
    Calls Try.prog 20 #[.pointer (some ⟨g, 0, none⟩)] w fun e w' => e = .returned (.tuple #[]) ∧ ∃ v', CutI w0 w' g #[.string f3, .bool f1, .int .i64 f2, .string ⟨#[]⟩, v'] v' (out) := by
  have HI := Aside0.mk hI
  have hc0 := (blk_cell hI.1 0).trans rfl
  have hf0 := blk_frozen hI.1 0
  have hc1 := (blk_cell hI.1 1).trans rfl
  have hf1 := blk_frozen hI.1 1
  have hc2 := (blk_cell hI.1 2).trans rfl
  have hf2 := blk_frozen hI.1 2
  have hc3 := (blk_cell hI.1 3).trans rfl
  have hf3 := blk_frozen hI.1 3
  have hc4 := (blk_cell hI.1 4).trans rfl
  have hf4 := blk_frozen hI.1 4
  clear hI
  have hd := decide_eq_true hs
  go_enter Try.func20, Try.ntmps20
  go_wp2
  first | go_end0 | ((try simp only [Exit.inBlock, Exit.then]); refine bodyPost_ret (results_none rfl _ _ _) rfl ?_)
  exact ⟨rfl, v, (HI.out.set 0 _ rfl).set 3 _ rfl⟩
set_option maxHeartbeats 1000000 in
theorem take_long (g : Nat) (f0 : ByteArray) (f1 : Bool) (f2 : Int) (f3 : ByteArray) (v : Value) (out : List S47) (w0 w : World) (n : Int) (hn : cutter_long.f f3 = some n) (hs : 3 ≤ (f3.size : Int)) (hf : cutter_fit.f n = some false) (hL : (out.length + 1) * 24 ≤ 140737488355328) (hI : CutI w0 w g #[.string f0, .bool f1, .int .i64 f2, .string f3, v] v out) :
    Calls Try.prog 20 #[.pointer (some ⟨g, 0, none⟩)] w fun e w' => e = .returned (.tuple #[]) ∧ ∃ v', CutI w0 w' g #[.string f0, .bool f1, .int .i64 n, .string (f3.extract 3 f3.size), v'] v' (out ++ [⟨3, ⟨#[]⟩⟩]) := by
  have HI := Aside0.mk hI
  have hc0 := (blk_cell hI.1 0).trans rfl
  have hf0 := blk_frozen hI.1 0
  have hc1 := (blk_cell hI.1 1).trans rfl
  have hf1 := blk_frozen hI.1 1
  have hc2 := (blk_cell hI.1 2).trans rfl
  have hf2 := blk_frozen hI.1 2
  have hc3 := (blk_cell hI.1 3).trans rfl
  have hf3 := blk_frozen hI.1 3
  have hc4 := (blk_cell hI.1 4).trans rfl
  have hf4 := blk_frozen hI.1 4
  clear hI
  have hd : decide ((f3.size : Int) < 3) = false := decide_eq_false (by omega)
  have HL := Aside0.mk hL
  have AL := Aside0.mk hn
  have AF := Aside0.mk hf
  have hs1 := eq_true hs
  clear hL hn hf
  go_enter Try.func20, Try.ntmps20
  go_wp2_with (first | ((with_reducible refine gate_callee (f := 34) rfl ?_); refine goesL_ (some 20) rfl rfl Try.func34 (by kernel_rfl) rfl #[.string f3] rfl (by (try simp only [List.map_toArray, List.map_cons, List.map_nil]); first | done | rfl | (simp only [List.length_drop, List.length_take]; rfl)) ?_; (with_reducible refine (cutter_long.calls f3 n _ AL.out).mono ?_); rintro e w' ⟨rfl, ⟨nd22, rfl⟩⟩; refine ⟨_, rfl, ?_⟩) | ((with_reducible refine gate_callee (f := 16) rfl ?_); refine goesL_ (some 44) rfl rfl Try.func16 (by kernel_rfl) rfl #[.int .i64 n] rfl (by (try simp only [List.map_toArray, List.map_cons, List.map_nil]); first | done | rfl | (simp only [List.length_drop, List.length_take]; rfl)) ?_; (with_reducible refine (cutter_fit.calls n false _ AF.out).mono ?_); rintro e w' ⟨rfl, ⟨nd19, rfl⟩⟩; refine ⟨_, rfl, ?_⟩) | ((with_reducible refine gate_builtin (b := .append) (xs := #[.tmp 50, .tmp 52]) rfl ?_); at_builtin; refine Kd.R_append k47 (w0 := w0) w0.heap.size rfl (.tmp 50) (.tmp 52) 42 47 (.agg #[(.int .u8 0), (.string ⟨#[]⟩)]) 24 rfl Try.underlying42 info47 rfl (by decide) (by omega) v out (⟨3, ⟨#[]⟩⟩ : S47) [.int .u8 3, .string ⟨#[]⟩] (fun k_ => k_ ≠ g) (fun _ => False) rfl ?aX ?aP (fun _ hk => hk.elim) ?aF ?aO ?aB ?aS ?aL ?_; (case aX => first | rfl | (go_simp; done) | (go_simp; rfl)); (case aP => exact k47_mkM _ _ _ _); (case aF => intro k_ hk_ he_; subst he_; exact absurd (CutI.lt ((HI.out.drewN (nd22 + nd19)))) (Nat.not_lt.2 hk_)); (case aO => exact ((HI.out.drewN (nd22 + nd19))).2.2.1); (case aB => exact ((HI.out.drewN (nd22 + nd19))).2.2.2); (case aS => exact ((HI.out.drewN (nd22 + nd19))).2.2.2.size); (case aL => exact HL.out); intro v1 w6 ho hb hg hat; obtain ⟨A1, c1, rfl⟩ := Kd.R_slice ho; rw [List.length_append, List.length_singleton] at ho hat; have HI6 := Aside0.mk (((HI.out.drewN (nd22 + nd19))).app hg ho hb); have hc64 := (HI6.out.cells 4).trans rfl; have hc63 := (HI6.out.cells 3).trans rfl; have hc62 := (HI6.out.cells 2).trans rfl; have hc61 := (HI6.out.cells 1).trans rfl; have hc60 := (HI6.out.cells 0).trans rfl; have hf64 := blk_frozen HI6.out.1 4; have hf63 := blk_frozen HI6.out.1 3; have hf62 := blk_frozen HI6.out.1 2; have hf61 := blk_frozen HI6.out.1 1; clear ho hb hg hat))
  have HI7 := Aside0.mk (HI6.out.set 4 (.slice A1 (out.length + 1) c1) rfl)
  clear hc60 hc61 hc62 hc63 hc64 hf61 hf62 hf63 hf64 HI6 HI hc0 hc1 hc2 hc3 hc4 hf0 hf1 hf2 hf3 hf4
  generalize w6.setCell ⟨g, 4, none⟩ (.slice A1 (out.length + 1) c1) = w7 at HI7 ⊢
  have hc0 := (HI7.out.cells 0).trans rfl
  have hc2 := (HI7.out.cells 2).trans rfl
  have hc3 := (HI7.out.cells 3).trans rfl
  have hf0 := blk_frozen HI7.out.1 0
  have hf2 := blk_frozen HI7.out.1 2
  have hf3 := blk_frozen HI7.out.1 3
  go_region
  first | go_end0 | ((try simp only [Exit.inBlock, Exit.then]); refine bodyPost_ret (results_none rfl _ _ _) rfl ?_)
  exact ⟨rfl, .slice A1 (out.length + 1) c1, ((HI7.out.set 2 _ rfl).set 3 _ rfl).drew⟩
set_option maxHeartbeats 1000000 in
theorem take_short (g : Nat) (f0 : ByteArray) (f1 : Bool) (f2 : Int) (f3 : ByteArray) (v : Value) (out : List S47) (w0 w : World) (n : Int) (hn : cutter_long.f f3 = some n) (hs : 3 ≤ (f3.size : Int)) (hsz : f3.size ≤ 4611686018427387904) (hf : cutter_fit.f n = some true) (hlt : (f3.size : Int) - 3 < n) (hI : CutI w0 w g #[.string f0, .bool f1, .int .i64 f2, .string f3, v] v out) :
    Calls Try.prog 20 #[.pointer (some ⟨g, 0, none⟩)] w fun e w' => e = .returned (.tuple #[]) ∧ ∃ v', CutI w0 w' g #[.string f3, .bool f1, .int .i64 f2, .string ⟨#[]⟩, v'] v' (out) := by
  have HI := Aside0.mk hI
  have hc0 := (blk_cell hI.1 0).trans rfl
  have hf0 := blk_frozen hI.1 0
  have hc1 := (blk_cell hI.1 1).trans rfl
  have hf1 := blk_frozen hI.1 1
  have hc2 := (blk_cell hI.1 2).trans rfl
  have hf2 := blk_frozen hI.1 2
  have hc3 := (blk_cell hI.1 3).trans rfl
  have hf3 := blk_frozen hI.1 3
  have hc4 := (blk_cell hI.1 4).trans rfl
  have hf4 := blk_frozen hI.1 4
  clear hI
  have hd : decide ((f3.size : Int) < 3) = false := decide_eq_false (by omega)
  have AL := Aside0.mk hn
  have AF := Aside0.mk hf
  have hd2 := decide_eq_true hlt
  clear hn hf
  go_enter Try.func20, Try.ntmps20
  go_wp2_with (first | ((with_reducible refine gate_callee (f := 34) rfl ?_); refine goesL_ (some 20) rfl rfl Try.func34 (by kernel_rfl) rfl #[.string f3] rfl (by (try simp only [List.map_toArray, List.map_cons, List.map_nil]); first | done | rfl | (simp only [List.length_drop, List.length_take]; rfl)) ?_; (with_reducible refine (cutter_long.calls f3 n _ AL.out).mono ?_); rintro e w' ⟨rfl, ⟨nd22, rfl⟩⟩; refine ⟨_, rfl, ?_⟩) | ((with_reducible refine gate_callee (f := 16) rfl ?_); refine goesL_ (some 44) rfl rfl Try.func16 (by kernel_rfl) rfl #[.int .i64 n] rfl (by (try simp only [List.map_toArray, List.map_cons, List.map_nil]); first | done | rfl | (simp only [List.length_drop, List.length_take]; rfl)) ?_; (with_reducible refine (cutter_fit.calls n true _ AF.out).mono ?_); rintro e w' ⟨rfl, ⟨nd19, rfl⟩⟩; refine ⟨_, rfl, ?_⟩))
  first | go_end0 | ((try simp only [Exit.inBlock, Exit.then]); refine bodyPost_ret (results_none rfl _ _ _) rfl ?_)
  exact ⟨rfl, v, ((HI.out.drewN _).set 0 _ rfl).set 3 _ rfl⟩
set_option maxHeartbeats 1000000 in
theorem take_body (g : Nat) (f0 : ByteArray) (f1 : Bool) (f2 : Int) (f3 : ByteArray) (v : Value) (out : List S47) (w0 w : World) (n : Int) (hn : cutter_long.f f3 = some n) (hs : 3 ≤ (f3.size : Int)) (hsz : f3.size ≤ 4611686018427387904) (hf : cutter_fit.f n = some true) (hn0 : 0 ≤ n) (hlt : 3 + n ≤ (f3.size : Int)) (hL : (out.length + 1) * 24 ≤ 140737488355328) (hI : CutI w0 w g #[.string f0, .bool f1, .int .i64 f2, .string f3, v] v out) :
    Calls Try.prog 20 #[.pointer (some ⟨g, 0, none⟩)] w fun e w' => e = .returned (.tuple #[]) ∧ ∃ v', CutI w0 w' g #[.string f0, .bool f1, .int .i64 f2, .string (f3.extract (3 + n).toNat f3.size), v'] v' (out ++ [⟨1, f3.extract 3 (3 + n).toNat⟩]) := by
  have HI := Aside0.mk hI
  have hc0 := (blk_cell hI.1 0).trans rfl
  have hf0 := blk_frozen hI.1 0
  have hc1 := (blk_cell hI.1 1).trans rfl
  have hf1 := blk_frozen hI.1 1
  have hc2 := (blk_cell hI.1 2).trans rfl
  have hf2 := blk_frozen hI.1 2
  have hc3 := (blk_cell hI.1 3).trans rfl
  have hf3 := blk_frozen hI.1 3
  have hc4 := (blk_cell hI.1 4).trans rfl
  have hf4 := blk_frozen hI.1 4
  clear hI
  have hd : decide ((f3.size : Int) < 3) = false := decide_eq_false (by omega)
  have HL := Aside0.mk hL
  have AL := Aside0.mk hn
  have AF := Aside0.mk hf
  have hd2 : decide ((f3.size : Int) - 3 < n) = false := decide_eq_false (by omega)
  clear hL hn hf
  go_enter Try.func20, Try.ntmps20
  go_wp2_with (first | ((with_reducible refine gate_callee (f := 34) rfl ?_); refine goesL_ (some 20) rfl rfl Try.func34 (by kernel_rfl) rfl #[.string f3] rfl (by (try simp only [List.map_toArray, List.map_cons, List.map_nil]); first | done | rfl | (simp only [List.length_drop, List.length_take]; rfl)) ?_; (with_reducible refine (cutter_long.calls f3 n _ AL.out).mono ?_); rintro e w' ⟨rfl, ⟨nd22, rfl⟩⟩; refine ⟨_, rfl, ?_⟩) | ((with_reducible refine gate_callee (f := 16) rfl ?_); refine goesL_ (some 44) rfl rfl Try.func16 (by kernel_rfl) rfl #[.int .i64 n] rfl (by (try simp only [List.map_toArray, List.map_cons, List.map_nil]); first | done | rfl | (simp only [List.length_drop, List.length_take]; rfl)) ?_; (with_reducible refine (cutter_fit.calls n true _ AF.out).mono ?_); rintro e w' ⟨rfl, ⟨nd19, rfl⟩⟩; refine ⟨_, rfl, ?_⟩))
  have HI7 := Aside0.mk (HI.out.drewN (nd22 + nd19))
  clear HI hc0 hc1 hc2 hc3 hc4 hf0 hf1 hf2 hf3 hf4
  generalize w.drewN (nd22 + nd19) = w7 at HI7 ⊢
  have HI8 := Aside0.mk HI7.out.drew
  have hc3 := (HI7.out.cells 3).trans rfl
  have hc4 := (HI7.out.cells 4).trans rfl
  have hf3 := blk_frozen HI7.out.1 3
  have hf4 := blk_frozen HI7.out.1 4
  have hca : (w7.alloc (.cells #[.int .u8 1, .string (f3.extract 3 (3 + n).toNat)] 47)).cell? ⟨g, 4, none⟩ = some v := (blk_cell (blk_alloc HI7.out.1 _) 4).trans rfl
  have hw3 : Go.IntKind.i64.wrap (3 + n) = 3 + n := by rw [i64_w]; unfold wrap64; omega
  have q1 : (3 : Int) ≤ 3 + n := by omega
  have q1_ := eq_true q1
  have q2_ := eq_true hlt
  go_region_law (refine Kd.R_append_step k47 (w0 := w0) w0.heap.size rfl (.tmp 25) (.tmp 31) 42 47 (.agg #[(.int .u8 0), (.string ⟨#[]⟩)]) 24 rfl Try.underlying42 info47 rfl (by decide) (by omega) v out (⟨1, f3.extract 3 (3 + n).toNat⟩ : S47) [.int .u8 1, .string (f3.extract 3 (3 + n).toNat)] (fun k_ => k_ ≠ g) (fun _ => False) rfl rfl (k47_mkM _ _ _ _) (fun _ hk => hk.elim) ?aF HI8.out.2.2.1 HI8.out.2.2.2 HI8.out.2.2.2.size HL.out ?_; (case aF => intro k_ hk_ he_; subst he_; exact absurd (CutI.lt HI8.out) (Nat.not_lt.2 hk_)); intro v1 w6 ho hb hg hat; obtain ⟨A1, c1, rfl⟩ := Kd.R_slice ho; rw [List.length_append, List.length_singleton] at ho hat; have HI6 := Aside0.mk (HI8.out.app hg ho hb); have hc64 := (HI6.out.cells 4).trans rfl; have hf64 := blk_frozen HI6.out.1 4; clear ho hb hg hat)
  all_goals
    have HI9 := Aside0.mk (HI6.out.set 4 (.slice A1 (out.length + 1) c1) rfl)
    clear hc64 hf64 HI6 HI7 HI8 hc3 hc4 hf3 hf4 hca
    generalize w6.setCell ⟨g, 4, none⟩ (.slice A1 (out.length + 1) c1) = w9 at HI9 ⊢
    have hc3 := (HI9.out.cells 3).trans rfl
    have hf3 := blk_frozen HI9.out.1 3
    have q3_ : (0 ≤ 3 + n) = True := eq_true (by omega)
    go_wp2
    first | go_end0 | ((try simp only [Exit.inBlock, Exit.then]); refine bodyPost_ret (results_none rfl _ _ _) rfl ?_)
    exact ⟨rfl, .slice A1 (out.length + 1) c1, HI9.out.set 3 _ rfl⟩
theorem cut_away {W : World} {base b : Nat} {ok : Nat → Prop} {v : Value} {out : List S47} (h : Kd.R k47 47 W base ok v out) (hok : ∀ k, ok k → k ≠ b) (j : Nat) (u : Value) : Kd.R k47 47 (W.setCell ⟨b, j, none⟩ u) base ok v out := Kd.R_step h (fun k hk _ => Below.heap_setCell W ⟨b, j, none⟩ u k (hok k hk))
theorem toList_nil_iff (s : ByteArray) : s.toList = [] ↔ s.size = 0 := by
  rw [ByteArray.toList_eq, ← List.length_eq_zero_iff, Array.length_toList]
  rfl
def cutter_Feed.l0 : Nat → ByteArray → Bool → Int → ByteArray → List S47 → Option (ByteArray × Bool × Int × List S47 × Int)
  | 0, _, _, _, _, _ => none
  | k + 1, x0, x1, x2, x3, xo =>
    if ¬ (x3.size ≤ 4611686018427387904 ∧ 0 ≤ x2 ∧ x2 ≤ 4611686018427387904 ∧ (xo.length + 1) * 24 ≤ 140737488355328) then none
    else if x3.size = 0 then some (x0, x1, x2, xo, 0)
    else if x2 > 0 then cutter_Feed.l0 k x0 x1 (x2 - (min x3.size x2.toNat : Nat)) (x3.extract (min x3.size x2.toNat) x3.size) xo
    else if bt x3 0 ≠ 245 then
      (if idxByte x3 245 ≠ 0 ∧ idxByte x3 245 ≤ x3.size then cutter_Feed.l0 k x0 (decide (idxByte x3 245 < 0)) x2 (if idxByte x3 245 < 0 then ⟨#[]⟩ else x3.extract (idxByte x3 245).toNat x3.size) (if x1 then xo else xo ++ [⟨2, ⟨#[]⟩⟩]) else none)
    else if (x3.size : Int) < 3 then cutter_Feed.l0 k x3 false x2 ⟨#[]⟩ xo
    else (cutter_long.f x3).bind fun n => (cutter_fit.f n).bind fun t =>
      if t = false then cutter_Feed.l0 k x0 false n (x3.extract 3 x3.size) (xo ++ [⟨3, ⟨#[]⟩⟩])
      else if (x3.size : Int) - 3 < n then cutter_Feed.l0 k x3 false x2 ⟨#[]⟩ xo
      else if 0 ≤ n then cutter_Feed.l0 k x0 false x2 (x3.extract (3 + n).toNat x3.size) (xo ++ [⟨1, x3.extract 3 (3 + n).toNat⟩])
      else none
def cutter_Feed.f (k : Nat) (a0_0 : ByteArray) (a0_1 : Bool) (a0_2 : Int) (a1 : ByteArray) : Option (ByteArray × Bool × Int × List S47 × Int) :=
  (cutter_Check.f a0_0 a0_1 a0_2).bind fun t => if t = 0 then (if a1.size = 0 then some (a0_0, a0_1, a0_2, [], 0) else if a0_0.size + a1.size ≤ 9223372036854775807 then cutter_Feed.l0 k ⟨#[]⟩ a0_1 a0_2 (a0_0 ++ a1) [] else none) else some (⟨#[]⟩, false, 0, [], t)
set_option maxHeartbeats 8000000 in
set_option maxRecDepth 100000 in
theorem cutter_Feed.calls (k : Nat) (a0_0 : ByteArray) (a0_1 : Bool) (a0_2 : Int) (a1 : ByteArray) (r1 : ByteArray) (r2 : Bool) (r3 : Int) (r4 : List (S47)) (r5 : Int) (w : World) (h : cutter_Feed.f k a0_0 a0_1 a0_2 a1 = some (r1, r2, r3, r4, r5)) :
    Calls Try.prog 7 #[.agg #[.string a0_0, .bool a0_1, .int .i64 a0_2], .string a1] w fun e w' => ∃ v3_ : Value, e = .returned (.tuple #[.agg #[.string r1, .bool r2, .int .i64 r3], v3_, .int .i64 r5]) ∧ Kd.R k47 47 w' w.heap.size (fun _ => True) v3_ r4 ∧ Below w.heap.size w w' := by
  have hu23 := Try.underlying41
  have hu43 := Try.underlying64
  have HB := Aside0.mk (Below.refl w.heap.size w)
  obtain ⟨t, A0, H⟩ := Option.bind_eq_some_iff.mp h
  have A := Aside0.mk A0
  clear h A0
  by_cases c : t = 0
  · rw [if_pos c] at H
    subst c
    by_cases c1 : a1.size = 0
    · rw [if_pos c1] at H
      simp only [Option.some.injEq, Prod.mk.injEq] at H
      obtain ⟨rfl, rfl, rfl, rfl, rfl⟩ := H
      have c2 : (a1.toList == ([] : List UInt8)) = true := by rw [(toList_nil_iff a1).2 c1]; rfl
      go_enter Try.func7, Try.ntmps7
      go_wp2_with (first | ((with_reducible refine gate_callee (f := 17) rfl ?_); refine goesL_ (some 10) rfl rfl Try.func17 (by kernel_rfl) rfl #[.agg #[.string a0_0, .bool a0_1, .int .i64 a0_2]] rfl (by (try simp only [List.map_toArray, List.map_cons, List.map_nil]); first | done | rfl | (simp only [List.length_drop, List.length_take]; rfl)) ?_; (with_reducible refine (cutter_Check.calls a0_0 a0_1 a0_2 0 _ A.out).mono ?_); rintro e w5 ⟨rfl, hb⟩; refine ⟨_, rfl, ?_⟩; have BK2 := Aside0.mk (blk_below (g := w.heap.size) (o := .cells #[.string a0_0, .bool a0_1, .int .i64 a0_2] 41 (0, 0)) (blk_alloc (heap_alloc_new w _) _) hb); have BK4 := Aside0.mk (blk_below (g := w.heap.size + 1) (o := .cells #[.string ⟨#[]⟩, .bool false, .int .i64 0] 41 (0, 0)) (by simpa using heap_alloc_new (w.alloc (.cells #[.string a0_0, .bool a0_1, .int .i64 a0_2] 41)) (.cells #[.string ⟨#[]⟩, .bool false, .int .i64 0] 41)) hb); have HB5 := Aside0.mk (below_then (below_alloc (below_alloc (Below.refl w.heap.size w) _) _) (by simp; omega) hb); have HS5 := Aside0.mk hb.size; clear hb; have hc20 := (blk_cell BK2.out 0).trans rfl; have hc21 := (blk_cell BK2.out 1).trans rfl; have hc22 := (blk_cell BK2.out 2).trans rfl; have hc40 := (blk_cell BK4.out 0).trans rfl; have hc41 := (blk_cell BK4.out 1).trans rfl; have hc42 := (blk_cell BK4.out 2).trans rfl; have hf40 := blk_frozen BK4.out 0; have hf41 := blk_frozen BK4.out 1; have hf42 := blk_frozen BK4.out 2))
      refine bodyPost_ret (results_ctt rfl _ _ (w.heap.size + 1) 41 #[.string a0_0, .bool a0_1, .int .i64 a0_2] (0, 0) _ rfl (blk_put (blk_put (blk_put BK4.out 0 _ rfl) 1 _ rfl) 2 _ rfl) Try.underlying41 rfl (by kernel_rfl)) rfl ?_
      exact ⟨_, rfl, Kd.R_nil _ _ _ _ _, (((HB5.out).setCell (p := ⟨w.heap.size + 1, 0, none⟩) (Nat.le_succ _) _).setCell (p := ⟨w.heap.size + 1, 1, none⟩) (Nat.le_succ _) _).setCell (p := ⟨w.heap.size + 1, 2, none⟩) (Nat.le_succ _) _⟩
    · rw [if_neg c1] at H
      by_cases c3 : a0_0.size + a1.size ≤ 9223372036854775807
      · rw [if_pos c3] at H
        have H' := Aside0.mk H
        clear H
        have c4b0 := eq_true c3
        have c4b1 : decide (a0_0.size + a1.size ≤ 9223372036854775807) = true := decide_eq_true c3
        have c2 : (a1.toList == ([] : List UInt8)) = false := beq_eq_false_iff_ne.mpr (fun e => c1 ((toList_nil_iff a1).1 e))
        go_enter Try.func7, Try.ntmps7
        go_wp2_with (first | ((with_reducible refine gate_callee (f := 17) rfl ?_); refine goesL_ (some 10) rfl rfl Try.func17 (by kernel_rfl) rfl #[.agg #[.string a0_0, .bool a0_1, .int .i64 a0_2]] rfl (by (try simp only [List.map_toArray, List.map_cons, List.map_nil]); first | done | rfl | (simp only [List.length_drop, List.length_take]; rfl)) ?_; (with_reducible refine (cutter_Check.calls a0_0 a0_1 a0_2 0 _ A.out).mono ?_); rintro e w5 ⟨rfl, hb⟩; refine ⟨_, rfl, ?_⟩; have BK2 := Aside0.mk (blk_below (g := w.heap.size) (o := .cells #[.string a0_0, .bool a0_1, .int .i64 a0_2] 41 (0, 0)) (blk_alloc (heap_alloc_new w _) _) hb); have BK4 := Aside0.mk (blk_below (g := w.heap.size + 1) (o := .cells #[.string ⟨#[]⟩, .bool false, .int .i64 0] 41 (0, 0)) (by simpa using heap_alloc_new (w.alloc (.cells #[.string a0_0, .bool a0_1, .int .i64 a0_2] 41)) (.cells #[.string ⟨#[]⟩, .bool false, .int .i64 0] 41)) hb); have HB5 := Aside0.mk (below_then (below_alloc (below_alloc (Below.refl w.heap.size w) _) _) (by simp; omega) hb); have HS5 := Aside0.mk hb.size; clear hb; have hc20 := (blk_cell BK2.out 0).trans rfl; have hc21 := (blk_cell BK2.out 1).trans rfl; have hc22 := (blk_cell BK2.out 2).trans rfl; have hc40 := (blk_cell BK4.out 0).trans rfl; have hc41 := (blk_cell BK4.out 1).trans rfl; have hc42 := (blk_cell BK4.out 2).trans rfl; have hf40 := blk_frozen BK4.out 0; have hf41 := blk_frozen BK4.out 1; have hf42 := blk_frozen BK4.out 2))

        have HI0 : Aside0 (CutI w5 (w5.alloc (.cells #[.string ⟨#[]⟩, .bool a0_1, .int .i64 a0_2, .string (a0_0 ++ a1), .slice none 0 0] 64)) w5.heap.size #[.string ⟨#[]⟩, .bool a0_1, .int .i64 a0_2, .string (a0_0 ++ a1), .slice none 0 0] (.slice none 0 0) []) := ⟨heap_alloc_new _ _, Nat.le_refl _, Kd.R_nil _ _ _ _ _, below_alloc (Below.refl _ _) _⟩
        clear hc20 hc21 hc22 hc40 hc41 hc42 hf40 hf41 hf42 c2 c3 c4b0 c4b1 c1
        generalize w5.alloc (.cells #[.string ⟨#[]⟩, .bool a0_1, .int .i64 a0_2, .string (a0_0 ++ a1), .slice none 0 0] 64) = w7 at HI0 ⊢
        go_loopg [] k (fun kq w' => ∃ (x0 : ByteArray) (x1 : Bool) (x2 : Int) (x3 : ByteArray) (v : Value) (xo : List S47), Aside0 (cutter_Feed.l0 kq x0 x1 x2 x3 xo = some (r1, r2, r3, r4, r5)) ∧ Aside0 (kq ≤ k) ∧ Aside0 (CutI w5 w' w5.heap.size #[.string x0, .bool x1, .int .i64 x2, .string x3, v] v xo))
        case atStart => exact ⟨⟨#[]⟩, a0_1, a0_2, a0_0 ++ a1, .slice none 0 0, [], H', ⟨Nat.le_refl _⟩, HI0⟩
        case round =>
          clear H' HI0
          obtain ⟨x0, x1, x2, x3, v, xo, HA, HK1, HI⟩ := hrel
          cases gk with
          | zero => exact absurd HA.out (by simp [cutter_Feed.l0])
          | succ k1 =>
            have H := HA.out
            clear HA
            unfold cutter_Feed.l0 at H
            have hc0 := (HI.out.cells 0).trans rfl
            have hc1 := (HI.out.cells 1).trans rfl
            have hc2 := (HI.out.cells 2).trans rfl
            have hc3 := (HI.out.cells 3).trans rfl
            have hc4 := (HI.out.cells 4).trans rfl
            have hf1 := blk_frozen HI.out.1 1
            by_cases c5 : x3.size ≤ 4611686018427387904 ∧ 0 ≤ x2 ∧ x2 ≤ 4611686018427387904 ∧ (xo.length + 1) * 24 ≤ 140737488355328
            · rw [if_neg (not_not_intro c5)] at H
              obtain ⟨c5a, c5b, c5c, c5d⟩ := c5
              by_cases c6 : x3.size = 0
              · rw [if_pos c6] at H
                simp only [Option.some.injEq, Prod.mk.injEq] at H
                obtain ⟨rfl, rfl, rfl, rfl, rfl⟩ := H
                have c7 : (x3.toList != ([] : List UInt8)) = false := by rw [(toList_nil_iff x3).2 c6]; rfl
                have c7i : x3.toList.isEmpty = true := List.isEmpty_iff.mpr ((toList_nil_iff x3).2 c6)
                have BK6 := Aside0.mk (blk_below BK4.out HI.out.2.2.2)
                have hc40 := (blk_cell BK6.out 0).trans rfl
                have hc41 := (blk_cell BK6.out 1).trans rfl
                have hc42 := (blk_cell BK6.out 2).trans rfl
                have hf40 := blk_frozen BK6.out 0
                have hf41 := blk_frozen BK6.out 1
                have hf42 := blk_frozen BK6.out 2
                have hlt := HS5.out
                go_wp2
                have hne : w.heap.size + 1 ≠ w5.heap.size := by have := BK4.out; have := blk_lt this; omega
                go_region
                go_wp2
                refine bodyPost_ret (results_ctt rfl _ _ (w.heap.size + 1) 41 #[.string x0, .bool x1, .int .i64 x2] (0, 0) _ rfl (blk_drew (blk_put (blk_put (blk_put BK6.out 0 _ rfl) 1 _ rfl) 2 _ rfl)) Try.underlying41 rfl (by kernel_rfl)) rfl ?_
                have hR := Kd.R_bound HI.out.2.2.1
                have hsz := blk_lt BK4.out
                refine ⟨v, rfl, ?_, ?_⟩
                · exact Kd.R_mono (Kd.R_drew (cut_away (cut_away (cut_away (Kd.R_lower hR HB5.out.size) (b := w.heap.size + 1) (fun k_ hk_ => by have := hk_.2.1; omega) 0 _) (b := w.heap.size + 1) (fun k_ hk_ => by have := hk_.2.1; omega) 1 _) (b := w.heap.size + 1) (fun k_ hk_ => by have := hk_.2.1; omega) 2 _)) (fun _ _ => trivial)
                · exact below_drew1 ((((below_step HB5.out HI.out.2.2.2).setCell (p := ⟨w.heap.size + 1, 0, none⟩) (Nat.le_succ _) _).setCell (p := ⟨w.heap.size + 1, 1, none⟩) (Nat.le_succ _) _).setCell (p := ⟨w.heap.size + 1, 2, none⟩) (Nat.le_succ _) _)
              · rw [if_neg c6] at H
                have c7 : (x3.toList != ([] : List UInt8)) = true := bne_iff_ne.mpr (fun e => c6 ((toList_nil_iff x3).1 e))
                have c7i : x3.toList.isEmpty = false := Bool.eq_false_iff.mpr (fun e => c6 ((toList_nil_iff x3).1 (List.isEmpty_iff.mp e)))
                by_cases c8 : x2 > 0
                · rw [if_pos c8] at H
                  have H' := Aside0.mk H
                  clear H
                  have c8b : decide (0 < x2) = true := decide_eq_true c8
                  have hmn : (if (x3.size : Int) < x2 then (x3.size : Int) else x2) = ((min x3.size x2.toNat : Nat) : Int) := by split <;> omega
                  go_wp2_with (first | ((with_reducible refine gate_callee (f := 18) rfl ?_); refine goesL_ (some 48) rfl rfl Try.func18 (by kernel_rfl) rfl #[.pointer (some ⟨w5.heap.size, 0, none⟩)] rfl (by (try simp only [List.map_toArray, List.map_cons, List.map_nil]); first | done | rfl | (simp only [List.length_drop, List.length_take]; rfl)) ?_; (with_reducible refine (skip_is w5.heap.size x0 x1 x2 x3 v xo w5 _ (min x3.size x2.toNat) (Nat.min_le_left _ _) c5a c5b c5c hmn HI.out).mono ?_); rintro e w6 ⟨rfl, hI⟩; refine ⟨_, rfl, ?_⟩; have HI6 := Aside0.mk hI; clear hI))
                  go_roundg k1
                  case measure => have := HK1.out; omega
                  case rel => exact ⟨x0, x1, _, _, v, xo, H', ⟨by have := HK1.out; omega⟩, HI6⟩
                · rw [if_neg c8] at H
                  have c8b : decide (0 < x2) = false := decide_eq_false c8
                  have q0 : (0 < (x3.size : Int)) = True := eq_true (by omega)
                  have q1 : (0 < x3.size) = True := eq_true (by omega)
                  have hx : ∀ h : 0 < x3.size, ((x3[0]'h).toNat : Int) = bt x3 0 := bt_at x3 0
                  by_cases c9 : bt x3 0 ≠ 245
                  · rw [if_pos c9] at H
                    have c9b : (bt x3 0 != 245) = true := bne_iff_ne.mpr c9
                    by_cases c10 : idxByte x3 245 ≠ 0 ∧ idxByte x3 245 ≤ x3.size
                    · rw [if_pos c10] at H
                      have H' := Aside0.mk H
                      clear H
                      go_wp2_with (first | ((with_reducible refine gate_callee (f := 19) rfl ?_); refine goesL_ (some 57) rfl rfl Try.func19 (by kernel_rfl) rfl #[.pointer (some ⟨w5.heap.size, 0, none⟩)] rfl (by (try simp only [List.map_toArray, List.map_cons, List.map_nil]); first | done | rfl | (simp only [List.length_drop, List.length_take]; rfl)) ?_; (with_reducible refine (seek_is w5.heap.size x0 x1 x2 x3 v xo w5 _ _ rfl c10.1 c10.2 c5a c5d HI.out).mono ?_); rintro e w6 ⟨rfl, v6, hI⟩; refine ⟨_, rfl, ?_⟩; have HI6 := Aside0.mk hI; clear hI))
                      go_roundg k1
                      case measure => have := HK1.out; omega
                      case rel => exact ⟨x0, _, _, _, v6, _, H', ⟨by have := HK1.out; omega⟩, HI6⟩
                    · rw [if_neg c10] at H
                      cases H
                  · rw [if_neg c9] at H
                    have c9b : (bt x3 0 != 245) = false := bne_eq_false_iff_eq.mpr (Classical.not_not.mp c9)
                    have HI1 := Aside0.mk (HI.out.set 1 (.bool false) (cs' := #[.string x0, .bool false, .int .i64 x2, .string x3, v]) rfl)
                    by_cases c11 : (x3.size : Int) < 3
                    · rw [if_pos c11] at H
                      have H' := Aside0.mk H
                      clear H
                      go_wp2_with (first | ((with_reducible refine gate_callee (f := 20) rfl ?_); refine goesL_ (some 39) rfl rfl Try.func20 (by kernel_rfl) rfl #[.pointer (some ⟨w5.heap.size, 0, none⟩)] rfl (by (try simp only [List.map_toArray, List.map_cons, List.map_nil]); first | done | rfl | (simp only [List.length_drop, List.length_take]; rfl)) ?_; (with_reducible refine (take_few w5.heap.size x0 false x2 x3 v xo w5 _ c11 HI1.out).mono ?_); rintro e w6 ⟨rfl, v6, hI⟩; refine ⟨_, rfl, ?_⟩; have HI6 := Aside0.mk hI; clear hI))
                      go_roundg k1
                      case measure => have := HK1.out; omega
                      case rel => exact ⟨x3, false, x2, _, v6, xo, H', ⟨by have := HK1.out; omega⟩, HI6⟩
                    · rw [if_neg c11] at H
                      obtain ⟨n, hn, H⟩ := Option.bind_eq_some_iff.mp H
                      obtain ⟨t, ht, H⟩ := Option.bind_eq_some_iff.mp H
                      have AL := Aside0.mk hn
                      have AF := Aside0.mk ht
                      clear hn ht
                      have c11b : 3 ≤ (x3.size : Int) := by omega
                      by_cases c12 : t = false
                      · subst c12
                        rw [if_pos rfl] at H
                        have H' := Aside0.mk H
                        clear H
                        go_wp2_with (first | ((with_reducible refine gate_callee (f := 20) rfl ?_); refine goesL_ (some 39) rfl rfl Try.func20 (by kernel_rfl) rfl #[.pointer (some ⟨w5.heap.size, 0, none⟩)] rfl (by (try simp only [List.map_toArray, List.map_cons, List.map_nil]); first | done | rfl | (simp only [List.length_drop, List.length_take]; rfl)) ?_; (with_reducible refine (take_long w5.heap.size x0 false x2 x3 v xo w5 _ n AL.out c11b AF.out c5d HI1.out).mono ?_); rintro e w6 ⟨rfl, v6, hI⟩; refine ⟨_, rfl, ?_⟩; have HI6 := Aside0.mk hI; clear hI))
                        go_roundg k1
                        case measure => have := HK1.out; omega
                        case rel => exact ⟨x0, false, n, _, v6, _, H', ⟨by have := HK1.out; omega⟩, HI6⟩
                      · rw [if_neg c12] at H
                        have c12' : t = true := by simpa using c12
                        subst c12'
                        by_cases c13 : (x3.size : Int) - 3 < n
                        · rw [if_pos c13] at H
                          have H' := Aside0.mk H
                          clear H
                          go_wp2_with (first | ((with_reducible refine gate_callee (f := 20) rfl ?_); refine goesL_ (some 39) rfl rfl Try.func20 (by kernel_rfl) rfl #[.pointer (some ⟨w5.heap.size, 0, none⟩)] rfl (by (try simp only [List.map_toArray, List.map_cons, List.map_nil]); first | done | rfl | (simp only [List.length_drop, List.length_take]; rfl)) ?_; (with_reducible refine (take_short w5.heap.size x0 false x2 x3 v xo w5 _ n AL.out c11b c5a AF.out c13 HI1.out).mono ?_); rintro e w6 ⟨rfl, v6, hI⟩; refine ⟨_, rfl, ?_⟩; have HI6 := Aside0.mk hI; clear hI))
                          go_roundg k1
                          case measure => have := HK1.out; omega
                          case rel => exact ⟨x3, false, x2, _, v6, xo, H', ⟨by have := HK1.out; omega⟩, HI6⟩
                        · rw [if_neg c13] at H
                          by_cases c14 : 0 ≤ n
                          · rw [if_pos c14] at H
                            have H' := Aside0.mk H
                            clear H
                            go_wp2_with (first | ((with_reducible refine gate_callee (f := 20) rfl ?_); refine goesL_ (some 39) rfl rfl Try.func20 (by kernel_rfl) rfl #[.pointer (some ⟨w5.heap.size, 0, none⟩)] rfl (by (try simp only [List.map_toArray, List.map_cons, List.map_nil]); first | done | rfl | (simp only [List.length_drop, List.length_take]; rfl)) ?_; (with_reducible refine (take_body w5.heap.size x0 false x2 x3 v xo w5 _ n AL.out c11b c5a AF.out c14 (by omega) c5d HI1.out).mono ?_); rintro e w6 ⟨rfl, v6, hI⟩; refine ⟨_, rfl, ?_⟩; have HI6 := Aside0.mk hI; clear hI))
                            go_roundg k1
                            case measure => have := HK1.out; omega
                            case rel => exact ⟨x0, false, x2, _, v6, _, H', ⟨by have := HK1.out; omega⟩, HI6⟩
                          · rw [if_neg c14] at H
                            cases H
            · rw [if_pos c5] at H
              cases H

      · rw [if_neg c3] at H
        cases H
  · rw [if_neg c] at H
    simp only [Option.some.injEq, Prod.mk.injEq] at H
    obtain ⟨rfl, rfl, rfl, rfl, rfl⟩ := H
    have c2 : (t != 0) = true := by simpa using c
    go_enter Try.func7, Try.ntmps7
    go_wp2_with (first | ((with_reducible refine gate_callee (f := 17) rfl ?_); refine goesL_ (some 10) rfl rfl Try.func17 (by kernel_rfl) rfl #[.agg #[.string a0_0, .bool a0_1, .int .i64 a0_2]] rfl (by (try simp only [List.map_toArray, List.map_cons, List.map_nil]); first | done | rfl | (simp only [List.length_drop, List.length_take]; rfl)) ?_; (with_reducible refine (cutter_Check.calls a0_0 a0_1 a0_2 t _ A.out).mono ?_); rintro e w5 ⟨rfl, hb⟩; refine ⟨_, rfl, ?_⟩; have BK2 := Aside0.mk (blk_below (g := w.heap.size) (o := .cells #[.string a0_0, .bool a0_1, .int .i64 a0_2] 41 (0, 0)) (blk_alloc (heap_alloc_new w _) _) hb); have BK4 := Aside0.mk (blk_below (g := w.heap.size + 1) (o := .cells #[.string ⟨#[]⟩, .bool false, .int .i64 0] 41 (0, 0)) (by simpa using heap_alloc_new (w.alloc (.cells #[.string a0_0, .bool a0_1, .int .i64 a0_2] 41)) (.cells #[.string ⟨#[]⟩, .bool false, .int .i64 0] 41)) hb); have HB5 := Aside0.mk (below_then (below_alloc (below_alloc (Below.refl w.heap.size w) _) _) (by simp; omega) hb); have HS5 := Aside0.mk hb.size; clear hb; have hc20 := (blk_cell BK2.out 0).trans rfl; have hc21 := (blk_cell BK2.out 1).trans rfl; have hc22 := (blk_cell BK2.out 2).trans rfl; have hc40 := (blk_cell BK4.out 0).trans rfl; have hc41 := (blk_cell BK4.out 1).trans rfl; have hc42 := (blk_cell BK4.out 2).trans rfl; have hf40 := blk_frozen BK4.out 0; have hf41 := blk_frozen BK4.out 1; have hf42 := blk_frozen BK4.out 2))
    refine bodyPost_ret (results_ctt rfl _ _ (w.heap.size + 1) 41 #[.string (⟨#[]⟩ : ByteArray), .bool false, .int .i64 0] (0, 0) _ rfl (blk_put (blk_put (blk_put BK4.out 0 _ rfl) 1 _ rfl) 2 _ rfl) Try.underlying41 rfl (by kernel_rfl)) rfl ?_
    exact ⟨_, rfl, Kd.R_nil _ _ _ _ _, (((HB5.out).setCell (p := ⟨w.heap.size + 1, 0, none⟩) (Nat.le_succ _) _).setCell (p := ⟨w.heap.size + 1, 1, none⟩) (Nat.le_succ _) _).setCell (p := ⟨w.heap.size + 1, 2, none⟩) (Nat.le_succ _) _⟩
end Go.Proofs.Ytcnkiigobcigbaa.Q
end
