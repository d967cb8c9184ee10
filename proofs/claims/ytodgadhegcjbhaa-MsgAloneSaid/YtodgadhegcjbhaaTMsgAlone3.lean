-- Merged and trimmed by this session's program wip/tools/trim.py.
import Derived.Test.YtodgadhegcjbhaaTMsgAlone2
section
namespace Go.Proofs.Ytodgadhegcjbhaa.Q
open Go.RowKit Go.Proofs.YtodgadhegcjbhaaW.PrintWords Go.Proofs.YtodgadhegcjbhaaW.PrintLast Go.Proofs.YtodgadhegcjbhaaW.PrintMore
attribute [local go_sem] max2_int min2_int max_two min_two max_three min_three max_four min_four   -- for this text's walks alone
set_option linter.unusedVariables false
set_option linter.unusedSimpArgs false
set_option maxHeartbeats 8000000 in
set_option maxRecDepth 100000 in
theorem msg_Put.calls (k : Nat) (a0_0 : Int) (a0_1 : Int) (a0_2 : Int) (a0_3 : Int) (a0_4 : Bool) (a0_5 : Int) (a0_6 : Int) (a0_7 : Int) (a0_8 : Int) (a0_9 : Int) (a0_10 : Int) (a0_11 : Int) (r1 : ByteArray) (r2 : Int) (w : World) (h : msg_Put.f k a0_0 a0_1 a0_2 a0_3 a0_4 a0_5 a0_6 a0_7 a0_8 a0_9 a0_10 a0_11 = some (r1, r2)) :
  Calls Try.prog 8 #[.agg #[.int .u8 a0_0, .int .i64 a0_1, .int .u64 a0_2, .int .i64 a0_3, .bool a0_4, .int .u64 a0_5, .int .u64 a0_6, .int .i64 a0_7, .int .u8 a0_8, .int .i64 a0_9, .int .i64 a0_10, .int .i64 a0_11]] w fun e w' => e = .returned (.tuple #[.string r1, .int .i64 r2]) ∧ Below w.heap.size w w' := by
 have hu32 := Try.underlying32
 have hu27 := Try.underlying27
 have hu30 := Try.underlying30
 have HB := Ax (Below.refl w.heap.size w)
 have H : ((msg_Check.f k a0_0 a0_1 a0_2 a0_3 a0_4 a0_5 a0_6 a0_7 a0_8 a0_9 a0_10 a0_11).bind fun t148 => (if t148 = 0 then ((num_Add.f k (([a0_0] : List Int)) (IntKind.u64.wrap (a0_1))).bind fun t152 => ((num_Add.f k t152 a0_2).bind fun t155 => ((num_Add.f k t155 (IntKind.u64.wrap (a0_3))).bind fun t158 => (if a0_0 = 3 then ((msg_prefix.f t158 a0_4 a0_5 a0_6 a0_7).bind fun t161 => ((msg_action.f k t161 a0_8 a0_9).bind fun t164 => (some (strOfNums t164, 0)))) else (if a0_0 = 4 then ((msg_prefix.f t158 a0_4 a0_5 a0_6 a0_7).bind fun t167 => (some (strOfNums t167, 0))) else (if a0_0 = 5 then ((num_Add.f k t158 (IntKind.u64.wrap (a0_10))).bind fun t170 => ((num_Add.f k t170 (IntKind.u64.wrap (a0_11))).bind fun t173 => (some (strOfNums t173, 0)))) else (if a0_0 = 6 then ((num_Add.f k t158 (IntKind.u64.wrap (a0_10))).bind fun t176 => (some (strOfNums t176, 0))) else (some (strOfNums t158, 0))))))))) else (some ((⟨#[]⟩ : ByteArray), t148)))) = some (r1, r2) := h
 clear h
 replace H := Option.bind_eq_some_iff.mp H
 obtain ⟨t148, A20, H⟩ := H
 replace H : (if t148 = 0 then ((num_Add.f k (([a0_0] : List Int)) (IntKind.u64.wrap (a0_1))).bind fun t152 => ((num_Add.f k t152 a0_2).bind fun t155 => ((num_Add.f k t155 (IntKind.u64.wrap (a0_3))).bind fun t158 => (if a0_0 = 3 then ((msg_prefix.f t158 a0_4 a0_5 a0_6 a0_7).bind fun t161 => ((msg_action.f k t161 a0_8 a0_9).bind fun t164 => (some (strOfNums t164, 0)))) else (if a0_0 = 4 then ((msg_prefix.f t158 a0_4 a0_5 a0_6 a0_7).bind fun t167 => (some (strOfNums t167, 0))) else (if a0_0 = 5 then ((num_Add.f k t158 (IntKind.u64.wrap (a0_10))).bind fun t170 => ((num_Add.f k t170 (IntKind.u64.wrap (a0_11))).bind fun t173 => (some (strOfNums t173, 0)))) else (if a0_0 = 6 then ((num_Add.f k t158 (IntKind.u64.wrap (a0_10))).bind fun t176 => (some (strOfNums t176, 0))) else (some (strOfNums t158, 0))))))))) else (some ((⟨#[]⟩ : ByteArray), t148))) = some (r1, r2) := H
 have A2 := Ax A20
 clear A20
 by_cases c3 : t148 = 0
 ·rw [if_pos c3] at H
  have c3b0 : (t148 == 0) = true := beq_iff_eq.mpr c3
  have c3b1 : (t148 != 0) = false := bne_eq_false_iff_eq.mpr c3
  clear c3
  obtain ⟨y149, hy149⟩ : ∃ y_ : List Int, y_ = (([a0_0] : List Int)) := ⟨_, rfl⟩
  replace H : ((num_Add.f k y149 (IntKind.u64.wrap (a0_1))).bind fun t152 => ((num_Add.f k t152 a0_2).bind fun t155 => ((num_Add.f k t155 (IntKind.u64.wrap (a0_3))).bind fun t158 => (if a0_0 = 3 then ((msg_prefix.f t158 a0_4 a0_5 a0_6 a0_7).bind fun t161 => ((msg_action.f k t161 a0_8 a0_9).bind fun t164 => (some (strOfNums t164, 0)))) else (if a0_0 = 4 then ((msg_prefix.f t158 a0_4 a0_5 a0_6 a0_7).bind fun t167 => (some (strOfNums t167, 0))) else (if a0_0 = 5 then ((num_Add.f k t158 (IntKind.u64.wrap (a0_10))).bind fun t170 => ((num_Add.f k t170 (IntKind.u64.wrap (a0_11))).bind fun t173 => (some (strOfNums t173, 0)))) else (if a0_0 = 6 then ((num_Add.f k t158 (IntKind.u64.wrap (a0_10))).bind fun t176 => (some (strOfNums t176, 0))) else (some (strOfNums t158, 0))))))))) = some (r1, r2) := by first | (rw [hy149]; with_reducible exact H) | (have H2_ := (Option.bind_some _ _).symm.trans H; rw [hy149]; with_reducible exact H2_) | (have H2_ := (Option.bind_some _ _).symm.trans H; with_reducible exact H2_) | with_reducible exact H | (rw [hy149]; exact H) | exact H
  have Ny149 := Ax hy149
  clear hy149
  replace H := Option.bind_eq_some_iff.mp H
  obtain ⟨t152, A40, H⟩ := H
  replace H : ((num_Add.f k t152 a0_2).bind fun t155 => ((num_Add.f k t155 (IntKind.u64.wrap (a0_3))).bind fun t158 => (if a0_0 = 3 then ((msg_prefix.f t158 a0_4 a0_5 a0_6 a0_7).bind fun t161 => ((msg_action.f k t161 a0_8 a0_9).bind fun t164 => (some (strOfNums t164, 0)))) else (if a0_0 = 4 then ((msg_prefix.f t158 a0_4 a0_5 a0_6 a0_7).bind fun t167 => (some (strOfNums t167, 0))) else (if a0_0 = 5 then ((num_Add.f k t158 (IntKind.u64.wrap (a0_10))).bind fun t170 => ((num_Add.f k t170 (IntKind.u64.wrap (a0_11))).bind fun t173 => (some (strOfNums t173, 0)))) else (if a0_0 = 6 then ((num_Add.f k t158 (IntKind.u64.wrap (a0_10))).bind fun t176 => (some (strOfNums t176, 0))) else (some (strOfNums t158, 0)))))))) = some (r1, r2) := H
  have A4 := Ax A40
  clear A40
  replace H := Option.bind_eq_some_iff.mp H
  obtain ⟨t155, A50, H⟩ := H
  replace H : ((num_Add.f k t155 (IntKind.u64.wrap (a0_3))).bind fun t158 => (if a0_0 = 3 then ((msg_prefix.f t158 a0_4 a0_5 a0_6 a0_7).bind fun t161 => ((msg_action.f k t161 a0_8 a0_9).bind fun t164 => (some (strOfNums t164, 0)))) else (if a0_0 = 4 then ((msg_prefix.f t158 a0_4 a0_5 a0_6 a0_7).bind fun t167 => (some (strOfNums t167, 0))) else (if a0_0 = 5 then ((num_Add.f k t158 (IntKind.u64.wrap (a0_10))).bind fun t170 => ((num_Add.f k t170 (IntKind.u64.wrap (a0_11))).bind fun t173 => (some (strOfNums t173, 0)))) else (if a0_0 = 6 then ((num_Add.f k t158 (IntKind.u64.wrap (a0_10))).bind fun t176 => (some (strOfNums t176, 0))) else (some (strOfNums t158, 0))))))) = some (r1, r2) := H
  have A5 := Ax A50
  clear A50
  replace H := Option.bind_eq_some_iff.mp H
  obtain ⟨t158, A60, H⟩ := H
  replace H : (if a0_0 = 3 then ((msg_prefix.f t158 a0_4 a0_5 a0_6 a0_7).bind fun t161 => ((msg_action.f k t161 a0_8 a0_9).bind fun t164 => (some (strOfNums t164, 0)))) else (if a0_0 = 4 then ((msg_prefix.f t158 a0_4 a0_5 a0_6 a0_7).bind fun t167 => (some (strOfNums t167, 0))) else (if a0_0 = 5 then ((num_Add.f k t158 (IntKind.u64.wrap (a0_10))).bind fun t170 => ((num_Add.f k t170 (IntKind.u64.wrap (a0_11))).bind fun t173 => (some (strOfNums t173, 0)))) else (if a0_0 = 6 then ((num_Add.f k t158 (IntKind.u64.wrap (a0_10))).bind fun t176 => (some (strOfNums t176, 0))) else (some (strOfNums t158, 0)))))) = some (r1, r2) := H
  have A6 := Ax A60
  clear A60
  by_cases c7 : a0_0 = 3
  ·rw [if_pos c7] at H
   have c7b0 : (a0_0 == 3) = true := beq_iff_eq.mpr c7
   have c7b1 : (a0_0 != 3) = false := bne_eq_false_iff_eq.mpr c7
   clear c7
   replace H := Option.bind_eq_some_iff.mp H
   obtain ⟨t161, A80, H⟩ := H
   replace H : ((msg_action.f k t161 a0_8 a0_9).bind fun t164 => (some (strOfNums t164, 0))) = some (r1, r2) := H
   have A8 := Ax A80
   clear A80
   replace H := Option.bind_eq_some_iff.mp H
   obtain ⟨t164, A90, H⟩ := H
   replace H : (some (strOfNums t164, 0)) = some (r1, r2) := H
   have A9 := Ax A90
   clear A90
   simp only [Option.some.injEq, Prod.mk.injEq] at H
   obtain ⟨rfl, rfl⟩ := H
   go_enter Try.func8, Try.ntmps8
   try go_wp2_with (first | ((with_reducible refine gate_dst (N := 1) rfl ?_); refine box_event ?hg (N := 1) ?hd (cs := #[.int .u8 a0_0, .int .i64 a0_1, .int .u64 a0_2, .int .i64 a0_3, .bool a0_4, .int .u64 a0_5, .int .u64 a0_6, .int .i64 a0_7, .int .u8 a0_8, .int .i64 a0_9, .int .i64 a0_10, .int .i64 a0_11]) (t := 32) ?hr ?_; (case hd => rfl); (case hg => rfl); (case hr => first | (go_simp; done) | (go_simp; rfl)); intro gb147 hg w10 hbox hb; have n0_ := Bs0 HB hb; have n1_ := Ax (hbox); have n2_ := Gw0 HB hg; have n3_ := Gw0 HB hg; clear HB; have HB := n0_; have BK147 := n1_; have GW147 := n2_; have GE147 := n3_; clear n0_ n1_ n2_ n3_; clear hb hbox hg; obtain ⟨hcz11_0, hcz11_1, hcz11_2, hcz11_3, hcz11_4, hcz11_5, hcz11_6, hcz11_7, hcz11_8, hcz11_9, hcz11_10, hcz11_11, hfz11_0, hfz11_1, hfz11_2, hfz11_3, hfz11_4, hfz11_5, hfz11_6, hfz11_7, hfz11_8, hfz11_9, hfz11_10, hfz11_11⟩ := cl12 BK147) | ((with_reducible refine gate_callee (f := 13) rfl ?_); refine goesL_ (some 7) rfl rfl Try.func13 (by kernel_rfl) rfl #[.agg #[.int .u8 a0_0, .int .i64 a0_1, .int .u64 a0_2, .int .i64 a0_3, .bool a0_4, .int .u64 a0_5, .int .u64 a0_6, .int .i64 a0_7, .int .u8 a0_8, .int .i64 a0_9, .int .i64 a0_10, .int .i64 a0_11]] rfl gS ?_; (with_reducible refine (msg_Check.calls k a0_0 a0_1 a0_2 a0_3 a0_4 a0_5 a0_6 a0_7 a0_8 a0_9 a0_10 a0_11 t148 _ A2.out).mono ?_); rintro e w12 ⟨rfl, hb⟩; refine ⟨_, rfl, ?_⟩; replace BK147 := Bx0 BK147 hb; replace HB := Bs1 HB hb GE147.out; (try clear hb)))
   replace BK147 := Ax (blk_drew BK147.out)
   replace HB := Ax (below_drew1 HB.out)
   refine start_ (n := 15) (S := fun w' => w'.cell? ⟨gb147, 0, none⟩ = some (.int .u8 a0_0) ∧ w'.cell? ⟨gb147, 1, none⟩ = some (.int .i64 a0_1) ∧ w'.cell? ⟨gb147, 2, none⟩ = some (.int .u64 a0_2) ∧ w'.cell? ⟨gb147, 3, none⟩ = some (.int .i64 a0_3) ∧ w'.cell? ⟨gb147, 4, none⟩ = some (.bool a0_4) ∧ w'.cell? ⟨gb147, 5, none⟩ = some (.int .u64 a0_5) ∧ w'.cell? ⟨gb147, 6, none⟩ = some (.int .u64 a0_6) ∧ w'.cell? ⟨gb147, 7, none⟩ = some (.int .i64 a0_7) ∧ w'.cell? ⟨gb147, 8, none⟩ = some (.int .u8 a0_8) ∧ w'.cell? ⟨gb147, 9, none⟩ = some (.int .i64 a0_9) ∧ w'.cell? ⟨gb147, 10, none⟩ = some (.int .i64 a0_10) ∧ w'.cell? ⟨gb147, 11, none⟩ = some (.int .i64 a0_11)) (ds := []) #[fa,fa,fa,fa,fa,fa,fa,fa,fa,fa,fa,fa,fa,fa,fa] (by kernel_rfl) rfl rfl ⟨(blk_cell BK147.out 0).trans rfl, (blk_cell BK147.out 1).trans rfl, (blk_cell BK147.out 2).trans rfl, (blk_cell BK147.out 3).trans rfl, (blk_cell BK147.out 4).trans rfl, (blk_cell BK147.out 5).trans rfl, (blk_cell BK147.out 6).trans rfl, (blk_cell BK147.out 7).trans rfl, (blk_cell BK147.out 8).trans rfl, (blk_cell BK147.out 9).trans rfl, (blk_cell BK147.out 10).trans rfl, (blk_cell BK147.out 11).trans rfl⟩ (fun hHeld => ?_); refine with_tabW msg_Put.tab4 msg_Put.bits4 (fun HT_ HW_ => ?_)
   generalize w12.drew = w13 at BK147 HB hHeld ⊢
   refine pure_ (i := 0) (N := some 11) (v := ?_) (a' := ?_) #[tr,fa,fa,fa,fa,fa,fa,fa,fa,fa,fa,fa,fa,fa,fa] rfl rfl (any_of HT_.out (by kernel_rfl)) (fun _ _ _ h => h) (Or.inl ⟨by rfl, ?_⟩) ?_ ?_
   rotate_left
   ·intro w'
    go_simp
    with_reducible rfl
   rotate_left
   ·simp only [sP]
    rfl
   refine pure_ (i := 3) (N := some 14) (v := ?_) (a' := ?_) #[tr,fa,fa,tr,fa,fa,fa,fa,fa,fa,fa,fa,fa,fa,fa] rfl rfl (any_of HT_.out (by kernel_rfl)) (fun _ _ _ h => h) (Or.inl ⟨by rfl, ?_⟩) ?_ ?_
   rotate_left
   ·intro w'
    go_simp
    with_reducible rfl
   rotate_left
   ·simp only [sP]
    rfl
   refine pure_ (i := 7) (N := some 18) (v := ?_) (a' := ?_) #[tr,fa,fa,tr,fa,fa,fa,tr,fa,fa,fa,fa,fa,fa,fa] rfl rfl (any_of HT_.out (by kernel_rfl)) (fun _ _ _ h => h) (Or.inl ⟨by rfl, ?_⟩) ?_ ?_
   rotate_left
   ·intro w'
    go_simp
    with_reducible rfl
   rotate_left
   ·simp only [sP]
    rfl
   refine pure_ (i := 10) (N := some 21) (v := ?_) (a' := ?_) #[tr,fa,fa,tr,fa,fa,fa,tr,fa,fa,tr,fa,fa,fa,fa] rfl rfl (any_of HT_.out (by kernel_rfl)) (fun _ _ _ h => h) (Or.inl ⟨by rfl, ?_⟩) ?_ ?_
   rotate_left
   ·intro w'
    go_simp
    with_reducible rfl
   rotate_left
   ·simp only [sP]
    rfl
   refine take_ (i := 1) (N := some 12) (v := ?_) (a' := ?_) #[tr,tr,fa,tr,fa,fa,fa,tr,fa,fa,tr,fa,fa,fa,fa] rfl rfl (take_ofW HT_.out HW_.out (by kernel_rfl)) (fun _ _ _ h => h) (Or.inl ⟨by rfl, ?_⟩) hHeld ?_ ?_
   rotate_left
   ·rintro w' ⟨s0, s1, s2, s3, s4, s5, s6, s7, s8, s9, s10, s11⟩
    go_simp
    with_reducible rfl
   rotate_left
   ·simp only [sP]
    rfl
   refine take_ (i := 4) (N := some 15) (v := ?_) (a' := ?_) #[tr,tr,fa,tr,tr,fa,fa,tr,fa,fa,tr,fa,fa,fa,fa] rfl rfl (take_ofW HT_.out HW_.out (by kernel_rfl)) (fun _ _ _ h => h) (Or.inl ⟨by rfl, ?_⟩) hHeld ?_ ?_
   rotate_left
   ·rintro w' ⟨s0, s1, s2, s3, s4, s5, s6, s7, s8, s9, s10, s11⟩
    go_simp
    with_reducible rfl
   rotate_left
   ·simp only [sP]
    rfl
   refine pure_ (i := 5) (N := some 16) (v := ?_) (a' := ?_) #[tr,tr,fa,tr,tr,tr,fa,tr,fa,fa,tr,fa,fa,fa,fa] rfl rfl (any_of HT_.out (by kernel_rfl)) (fun _ _ _ h => h) (Or.inl ⟨by rfl, ?_⟩) ?_ ?_
   rotate_left
   ·intro w'
    go_simp
    with_reducible rfl
   rotate_left
   ·simp only [sP]
    rfl
   refine take_ (i := 8) (N := some 19) (v := ?_) (a' := ?_) #[tr,tr,fa,tr,tr,tr,fa,tr,tr,fa,tr,fa,fa,fa,fa] rfl rfl (take_ofW HT_.out HW_.out (by kernel_rfl)) (fun _ _ _ h => h) (Or.inl ⟨by rfl, ?_⟩) hHeld ?_ ?_
   rotate_left
   ·rintro w' ⟨s0, s1, s2, s3, s4, s5, s6, s7, s8, s9, s10, s11⟩
    go_simp
    with_reducible rfl
   rotate_left
   ·simp only [sP]
    rfl
   refine take_ (i := 11) (N := some 22) (v := ?_) (a' := ?_) #[tr,tr,fa,tr,tr,tr,fa,tr,tr,fa,tr,tr,fa,fa,fa] rfl rfl (take_ofW HT_.out HW_.out (by kernel_rfl)) (fun _ _ _ h => h) (Or.inl ⟨by rfl, ?_⟩) hHeld ?_ ?_
   rotate_left
   ·rintro w' ⟨s0, s1, s2, s3, s4, s5, s6, s7, s8, s9, s10, s11⟩
    go_simp
    with_reducible rfl
   rotate_left
   ·simp only [sP]
    rfl
   refine pure_ (i := 12) (N := some 23) (v := ?_) (a' := ?_) #[tr,tr,fa,tr,tr,tr,fa,tr,tr,fa,tr,tr,tr,fa,fa] rfl rfl (any_of HT_.out (by kernel_rfl)) (fun _ _ _ h => h) (Or.inl ⟨by rfl, ?_⟩) ?_ ?_
   rotate_left
   ·intro w'
    go_simp
    with_reducible rfl
   rotate_left
   ·simp only [sP]
    rfl
   refine one_ (i := 2) (N := some 13) #[tr,tr,tr,tr,tr,tr,fa,tr,tr,fa,tr,tr,tr,fa,fa] rfl rfl (one_of HT_.out (by kernel_rfl)) (by decide) (fun K hK => ?_)
   refine Kd.R_lit_step (Kd.int .u8) _ 5 ?hg (N := 13) ?hd (xs := ([a0_0] : List Int)) (inner := [.int .u8 a0_0]) (ok := fun _ => True) (okp := fun _ => True) ?hr ?hp (fun _ hk => hk) trivial (Below.refl _ _) (Nat.le_refl _) (by simp) ?_; (case hd => rfl); (case hg => rfl); (case hr => first | (go_simp; done) | (go_simp; rfl)); (case hp => exact (Reps.one (show Kd.M (Kd.int .u8) _ _ _ a0_0 [.int .u8 a0_0] from rfl) (Reps.none _ _)))
   intro v150 w14 ho15 hb hg_ hnew_
   clear hg_ hnew_
   (first | rw [← Ny149.out] at ho15 | (simp only [Int.reduceToNat] at ho15; rw [← Ny149.out] at ho15))
   have HO151 := Ax (Kd.R_lower ho15 (below_size (bw1 HB.out GE147.out)))
   replace BK147 := Bx0 BK147 hb
   replace HB := Bs1 HB hb GE147.out
   clear hb ho15
   obtain ⟨Ao16, co16, eo16⟩ := Kd.R_slice HO151.out
   (first | subst eo16 | (injection eo16 with f1_ f2_ f3_; have f4_ := f1_.symm; have f5_ := f3_.symm; clear f1_ f2_ f3_; subst f4_; subst f5_))
   refine hK.out _ _ ⟨(blk_cell BK147.out 0).trans rfl, (blk_cell BK147.out 1).trans rfl, (blk_cell BK147.out 2).trans rfl, (blk_cell BK147.out 3).trans rfl, (blk_cell BK147.out 4).trans rfl, (blk_cell BK147.out 5).trans rfl, (blk_cell BK147.out 6).trans rfl, (blk_cell BK147.out 7).trans rfl, (blk_cell BK147.out 8).trans rfl, (blk_cell BK147.out 9).trans rfl, (blk_cell BK147.out 10).trans rfl, (blk_cell BK147.out 11).trans rfl⟩ (fun hHeld => ?_)
   clear hK K
   refine norm_ (a' := ?_) ?_ ?_
   rotate_left
   ·show Act.put _ (some 13) _ = _
    simp only [sP]
    rfl
   refine one_ (i := 6) (N := some 17) #[tr,tr,tr,tr,tr,tr,tr,tr,tr,fa,tr,tr,tr,fa,fa] rfl rfl (one_of HT_.out (by kernel_rfl)) (by decide) (fun K hK => ?_)
   refine goes_ Try.func23 (by kernel_rfl) rfl #[.slice Ao16 y149.length co16, .int .u64 (IntKind.u64.wrap (a0_1))] (by rfl) rfl rfl gS ?_
   with_reducible refine (num_Add.calls k (fun k_ => some k_ = (.slice Ao16 y149.length co16 : Value).ownBlock) (.slice Ao16 y149.length co16) y149 (IntKind.u64.wrap (a0_1)) t152 w _ ?side1 ?side2 A4.out).mono ?_
   (case side1 => repeat (first | (with_reducible first | exact HB.out | apply below_alloc | apply pw_below_drewN | apply below_drew1 | refine below_set ?_ GE147.out) | exact HB.out))
   (case side2 => exact Kd.R_tight rfl HO151.out)
   rintro e w17 ⟨v153, rfl, ho0, hb, hkp⟩
   refine ⟨_, rfl, ?_⟩
   have n0_ := Ax (blk_kept (bf0 BK147.out) hkp (fun hs_ => (fun e_ => (Kd.R_ne HO151.out BK147.out (by decide)) e_) hs_))
   have n1_ := Ax (Kd.R_mono (ok' := fun k_ => True) ho0 (fun k_ hk_ => trivial))
   have n2_ := Ax (hb)
   clear BK147
   clear HB
   clear HO151
   have BK147 := n0_
   have HO154 := n1_
   have HB := n2_
   clear n0_ n1_ n2_
   (try clear hb)
   (try clear hkp)
   (try clear ho0)
   obtain ⟨Ao18, co18, eo18⟩ := Kd.R_slice HO154.out
   (first | subst eo18 | (injection eo18 with f1_ f2_ f3_; have f4_ := f1_.symm; have f5_ := f3_.symm; clear f1_ f2_ f3_; subst f4_; subst f5_))
   refine hK.out _ _ ⟨(blk_cell BK147.out 0).trans rfl, (blk_cell BK147.out 1).trans rfl, (blk_cell BK147.out 2).trans rfl, (blk_cell BK147.out 3).trans rfl, (blk_cell BK147.out 4).trans rfl, (blk_cell BK147.out 5).trans rfl, (blk_cell BK147.out 6).trans rfl, (blk_cell BK147.out 7).trans rfl, (blk_cell BK147.out 8).trans rfl, (blk_cell BK147.out 9).trans rfl, (blk_cell BK147.out 10).trans rfl, (blk_cell BK147.out 11).trans rfl⟩ (fun hHeld => ?_)
   clear hK K
   refine norm_ (a' := ?_) ?_ ?_
   rotate_left
   ·show Act.put _ (some 17) _ = _
    simp only [sP]
    rfl
   refine one_ (i := 9) (N := some 20) #[tr,tr,tr,tr,tr,tr,tr,tr,tr,tr,tr,tr,tr,fa,fa] rfl rfl (one_of HT_.out (by kernel_rfl)) (by decide) (fun K hK => ?_)
   refine goes_ Try.func23 (by kernel_rfl) rfl #[.slice Ao18 t152.length co18, .int .u64 a0_2] (by rfl) rfl rfl gS ?_
   with_reducible refine (num_Add.calls k (fun k_ => some k_ = (.slice Ao18 t152.length co18 : Value).ownBlock) (.slice Ao18 t152.length co18) t152 a0_2 t155 w _ ?side1 ?side2 A5.out).mono ?_
   (case side1 => repeat (first | (with_reducible first | exact HB.out | apply below_alloc | apply pw_below_drewN | apply below_drew1 | refine below_set ?_ GE147.out) | exact HB.out))
   (case side2 => exact Kd.R_tight rfl HO154.out)
   rintro e w19 ⟨v156, rfl, ho0, hb, hkp⟩
   refine ⟨_, rfl, ?_⟩
   have n0_ := Ax (blk_kept (bf0 BK147.out) hkp (fun hs_ => (fun e_ => (Kd.R_ne HO154.out BK147.out (by decide)) e_) hs_))
   have n1_ := Ax (Kd.R_mono (ok' := fun k_ => True) ho0 (fun k_ hk_ => trivial))
   have n2_ := Ax (hb)
   clear BK147
   clear HB
   clear HO154
   have BK147 := n0_
   have HO157 := n1_
   have HB := n2_
   clear n0_ n1_ n2_
   (try clear hb)
   (try clear hkp)
   (try clear ho0)
   obtain ⟨Ao20, co20, eo20⟩ := Kd.R_slice HO157.out
   (first | subst eo20 | (injection eo20 with f1_ f2_ f3_; have f4_ := f1_.symm; have f5_ := f3_.symm; clear f1_ f2_ f3_; subst f4_; subst f5_))
   refine hK.out _ _ ⟨(blk_cell BK147.out 0).trans rfl, (blk_cell BK147.out 1).trans rfl, (blk_cell BK147.out 2).trans rfl, (blk_cell BK147.out 3).trans rfl, (blk_cell BK147.out 4).trans rfl, (blk_cell BK147.out 5).trans rfl, (blk_cell BK147.out 6).trans rfl, (blk_cell BK147.out 7).trans rfl, (blk_cell BK147.out 8).trans rfl, (blk_cell BK147.out 9).trans rfl, (blk_cell BK147.out 10).trans rfl, (blk_cell BK147.out 11).trans rfl⟩ (fun hHeld => ?_)
   clear hK K
   refine norm_ (a' := ?_) ?_ ?_
   rotate_left
   ·show Act.put _ (some 20) _ = _
    simp only [sP]
    rfl
   refine one_ (i := 13) (N := some 24) #[tr,tr,tr,tr,tr,tr,tr,tr,tr,tr,tr,tr,tr,tr,fa] rfl rfl (one_of HT_.out (by kernel_rfl)) (by decide) (fun K hK => ?_)
   refine goes_ Try.func23 (by kernel_rfl) rfl #[.slice Ao20 t155.length co20, .int .u64 (IntKind.u64.wrap (a0_3))] (by rfl) rfl rfl gS ?_
   with_reducible refine (num_Add.calls k (fun k_ => some k_ = (.slice Ao20 t155.length co20 : Value).ownBlock) (.slice Ao20 t155.length co20) t155 (IntKind.u64.wrap (a0_3)) t158 w _ ?side1 ?side2 A6.out).mono ?_
   (case side1 => repeat (first | (with_reducible first | exact HB.out | apply below_alloc | apply pw_below_drewN | apply below_drew1 | refine below_set ?_ GE147.out) | exact HB.out))
   (case side2 => exact Kd.R_tight rfl HO157.out)
   rintro e w21 ⟨v159, rfl, ho0, hb, hkp⟩
   refine ⟨_, rfl, ?_⟩
   have n0_ := Ax (blk_kept (bf0 BK147.out) hkp (fun hs_ => (fun e_ => (Kd.R_ne HO157.out BK147.out (by decide)) e_) hs_))
   have n1_ := Ax (Kd.R_mono (ok' := fun k_ => True) ho0 (fun k_ hk_ => trivial))
   have n2_ := Ax (hb)
   clear BK147
   clear HB
   clear HO157
   have BK147 := n0_
   have HO160 := n1_
   have HB := n2_
   clear n0_ n1_ n2_
   (try clear hb)
   (try clear hkp)
   (try clear ho0)
   refine hK.out _ _ ⟨(blk_cell BK147.out 0).trans rfl, (blk_cell BK147.out 1).trans rfl, (blk_cell BK147.out 2).trans rfl, (blk_cell BK147.out 3).trans rfl, (blk_cell BK147.out 4).trans rfl, (blk_cell BK147.out 5).trans rfl, (blk_cell BK147.out 6).trans rfl, (blk_cell BK147.out 7).trans rfl, (blk_cell BK147.out 8).trans rfl, (blk_cell BK147.out 9).trans rfl, (blk_cell BK147.out 10).trans rfl, (blk_cell BK147.out 11).trans rfl⟩ (fun hHeld => ?_)
   clear hK K
   refine norm_ (a' := ?_) ?_ ?_
   rotate_left
   ·show Act.put _ (some 24) _ = _
    simp only [sP]
    rfl
   refine pure_ (i := 14) (N := some 5) (v := ?_) (a' := ?_) #[tr,tr,tr,tr,tr,tr,tr,tr,tr,tr,tr,tr,tr,tr,tr] rfl rfl (any_of HT_.out (by kernel_rfl)) (fun _ _ _ h => h) (Or.inl ⟨by rfl, ?_⟩) ?_ ?_
   rotate_left
   ·intro w'
    go_simp
    with_reducible rfl
   rotate_left
   ·simp only [sP]
    rfl
   refine done_ (done_of HT_.out (by kernel_rfl)) ?_
   obtain ⟨hcz22_0, hcz22_1, hcz22_2, hcz22_3, hcz22_4, hcz22_5, hcz22_6, hcz22_7, hcz22_8, hcz22_9, hcz22_10, hcz22_11, hfz22_0, hfz22_1, hfz22_2, hfz22_3, hfz22_4, hfz22_5, hfz22_6, hfz22_7, hfz22_8, hfz22_9, hfz22_10, hfz22_11⟩ := cl12 BK147
   try go_wp2
   replace HO160 := Ax (Kd.R_drew HO160.out)
   replace BK147 := Ax (blk_drew BK147.out)
   replace HB := Ax (below_drew1 HB.out)
   obtain ⟨Ao24, co24, eo24⟩ := Kd.R_slice HO160.out
   (first | subst eo24 | (injection eo24 with f1_ f2_ f3_; have f4_ := f1_.symm; have f5_ := f3_.symm; clear f1_ f2_ f3_; subst f4_; subst f5_))
   refine start_ (n := 8) (S := fun w' => w'.cell? ⟨gb147, 0, none⟩ = some (.int .u8 a0_0) ∧ w'.cell? ⟨gb147, 1, none⟩ = some (.int .i64 a0_1) ∧ w'.cell? ⟨gb147, 2, none⟩ = some (.int .u64 a0_2) ∧ w'.cell? ⟨gb147, 3, none⟩ = some (.int .i64 a0_3) ∧ w'.cell? ⟨gb147, 4, none⟩ = some (.bool a0_4) ∧ w'.cell? ⟨gb147, 5, none⟩ = some (.int .u64 a0_5) ∧ w'.cell? ⟨gb147, 6, none⟩ = some (.int .u64 a0_6) ∧ w'.cell? ⟨gb147, 7, none⟩ = some (.int .i64 a0_7) ∧ w'.cell? ⟨gb147, 8, none⟩ = some (.int .u8 a0_8) ∧ w'.cell? ⟨gb147, 9, none⟩ = some (.int .i64 a0_9) ∧ w'.cell? ⟨gb147, 10, none⟩ = some (.int .i64 a0_10) ∧ w'.cell? ⟨gb147, 11, none⟩ = some (.int .i64 a0_11)) (ds := []) #[fa,fa,fa,fa,fa,fa,fa,fa] (by kernel_rfl) rfl rfl ⟨(blk_cell BK147.out 0).trans rfl, (blk_cell BK147.out 1).trans rfl, (blk_cell BK147.out 2).trans rfl, (blk_cell BK147.out 3).trans rfl, (blk_cell BK147.out 4).trans rfl, (blk_cell BK147.out 5).trans rfl, (blk_cell BK147.out 6).trans rfl, (blk_cell BK147.out 7).trans rfl, (blk_cell BK147.out 8).trans rfl, (blk_cell BK147.out 9).trans rfl, (blk_cell BK147.out 10).trans rfl, (blk_cell BK147.out 11).trans rfl⟩ (fun hHeld => ?_); refine with_tabW msg_Put.tab7 msg_Put.bits7 (fun HT_ HW_ => ?_)
   generalize w21.drew = w23 at HO160 BK147 HB hHeld ⊢
   refine pure_ (i := 0) (N := some 29) (v := ?_) (a' := ?_) #[tr,fa,fa,fa,fa,fa,fa,fa] rfl rfl (any_of HT_.out (by kernel_rfl)) (fun _ _ _ h => h) (Or.inl ⟨by rfl, ?_⟩) ?_ ?_
   rotate_left
   ·intro w'
    go_simp
    with_reducible rfl
   rotate_left
   ·simp only [sP]
    rfl
   refine pure_ (i := 1) (N := some 30) (v := ?_) (a' := ?_) #[tr,tr,fa,fa,fa,fa,fa,fa] rfl rfl (any_of HT_.out (by kernel_rfl)) (fun _ _ _ h => h) (Or.inl ⟨by rfl, ?_⟩) ?_ ?_
   rotate_left
   ·intro w'
    go_simp
    with_reducible rfl
   rotate_left
   ·simp only [sP]
    rfl
   refine pure_ (i := 4) (N := some 33) (v := ?_) (a' := ?_) #[tr,tr,fa,fa,tr,fa,fa,fa] rfl rfl (any_of HT_.out (by kernel_rfl)) (fun _ _ _ h => h) (Or.inl ⟨by rfl, ?_⟩) ?_ ?_
   rotate_left
   ·intro w'
    go_simp
    with_reducible rfl
   rotate_left
   ·simp only [sP]
    rfl
   refine take_ (i := 2) (N := some 31) (v := ?_) (a' := ?_) #[tr,tr,tr,fa,tr,fa,fa,fa] rfl rfl (take_ofW HT_.out HW_.out (by kernel_rfl)) (fun _ _ _ h => h) (Or.inl ⟨by rfl, ?_⟩) hHeld ?_ ?_
   rotate_left
   ·rintro w' ⟨s0, s1, s2, s3, s4, s5, s6, s7, s8, s9, s10, s11⟩
    go_simp
    with_reducible rfl
   rotate_left
   ·simp only [sP]
    rfl
   refine take_ (i := 5) (N := some 34) (v := ?_) (a' := ?_) #[tr,tr,tr,fa,tr,tr,fa,fa] rfl rfl (take_ofW HT_.out HW_.out (by kernel_rfl)) (fun _ _ _ h => h) (Or.inl ⟨by rfl, ?_⟩) hHeld ?_ ?_
   rotate_left
   ·rintro w' ⟨s0, s1, s2, s3, s4, s5, s6, s7, s8, s9, s10, s11⟩
    go_simp
    with_reducible rfl
   rotate_left
   ·simp only [sP]
    rfl
   refine one_ (i := 3) (N := some 32) #[tr,tr,tr,tr,tr,tr,fa,fa] rfl rfl (one_of HT_.out (by kernel_rfl)) (by decide) (fun K hK => ?_)
   refine goes_ Try.func25 (by kernel_rfl) rfl #[.slice Ao24 t158.length co24, .agg #[.bool a0_4, .int .u64 a0_5, .int .u64 a0_6, .int .i64 a0_7]] (by rfl) rfl rfl gS ?_
   with_reducible refine (msg_prefix.calls (fun k_ => some k_ = (.slice Ao24 t158.length co24 : Value).ownBlock) (.slice Ao24 t158.length co24) t158 a0_4 a0_5 a0_6 a0_7 t161 w _ ?side1 ?side2 A8.out).mono ?_
   (case side1 => repeat (first | (with_reducible first | exact HB.out | apply below_alloc | apply pw_below_drewN | apply below_drew1 | refine below_set ?_ GE147.out) | exact HB.out))
   (case side2 => exact Kd.R_tight rfl HO160.out)
   rintro e w25 ⟨v162, rfl, ho0, hb, hkp⟩
   refine ⟨_, rfl, ?_⟩
   have n0_ := Ax (blk_kept (bf0 BK147.out) hkp (fun hs_ => (fun e_ => (Kd.R_ne HO160.out BK147.out (by decide)) e_) hs_))
   have n1_ := Ax (Kd.R_mono (ok' := fun k_ => True) ho0 (fun k_ hk_ => trivial))
   have n2_ := Ax (hb)
   clear BK147
   clear HB
   clear HO160
   have BK147 := n0_
   have HO163 := n1_
   have HB := n2_
   clear n0_ n1_ n2_
   (try clear hb)
   (try clear hkp)
   (try clear ho0)
   obtain ⟨Ao26, co26, eo26⟩ := Kd.R_slice HO163.out
   (first | subst eo26 | (injection eo26 with f1_ f2_ f3_; have f4_ := f1_.symm; have f5_ := f3_.symm; clear f1_ f2_ f3_; subst f4_; subst f5_))
   refine hK.out _ _ ⟨(blk_cell BK147.out 0).trans rfl, (blk_cell BK147.out 1).trans rfl, (blk_cell BK147.out 2).trans rfl, (blk_cell BK147.out 3).trans rfl, (blk_cell BK147.out 4).trans rfl, (blk_cell BK147.out 5).trans rfl, (blk_cell BK147.out 6).trans rfl, (blk_cell BK147.out 7).trans rfl, (blk_cell BK147.out 8).trans rfl, (blk_cell BK147.out 9).trans rfl, (blk_cell BK147.out 10).trans rfl, (blk_cell BK147.out 11).trans rfl⟩ (fun hHeld => ?_)
   clear hK K
   refine norm_ (a' := ?_) ?_ ?_
   rotate_left
   ·show Act.put _ (some 32) _ = _
    simp only [sP]
    rfl
   refine one_ (i := 6) (N := some 35) #[tr,tr,tr,tr,tr,tr,tr,fa] rfl rfl (one_of HT_.out (by kernel_rfl)) (by decide) (fun K hK => ?_)
   refine goes_ Try.func24 (by kernel_rfl) rfl #[.slice Ao26 t161.length co26, .agg #[.int .u8 a0_8, .int .i64 a0_9]] (by rfl) rfl rfl gS ?_
   with_reducible refine (msg_action.calls k (fun k_ => some k_ = (.slice Ao26 t161.length co26 : Value).ownBlock) (.slice Ao26 t161.length co26) t161 a0_8 a0_9 t164 w _ ?side1 ?side2 A9.out).mono ?_
   (case side1 => repeat (first | (with_reducible first | exact HB.out | apply below_alloc | apply pw_below_drewN | apply below_drew1 | refine below_set ?_ GE147.out) | exact HB.out))
   (case side2 => exact Kd.R_tight rfl HO163.out)
   rintro e w27 ⟨v165, rfl, ho0, hb, hkp⟩
   refine ⟨_, rfl, ?_⟩
   have n0_ := Ax (blk_kept (bf0 BK147.out) hkp (fun hs_ => (fun e_ => (Kd.R_ne HO163.out BK147.out (by decide)) e_) hs_))
   have n1_ := Ax (Kd.R_mono (ok' := fun k_ => True) ho0 (fun k_ hk_ => trivial))
   have n2_ := Ax (hb)
   clear BK147
   clear HB
   clear HO163
   have BK147 := n0_
   have HO166 := n1_
   have HB := n2_
   clear n0_ n1_ n2_
   (try clear hb)
   (try clear hkp)
   (try clear ho0)
   refine hK.out _ _ ⟨(blk_cell BK147.out 0).trans rfl, (blk_cell BK147.out 1).trans rfl, (blk_cell BK147.out 2).trans rfl, (blk_cell BK147.out 3).trans rfl, (blk_cell BK147.out 4).trans rfl, (blk_cell BK147.out 5).trans rfl, (blk_cell BK147.out 6).trans rfl, (blk_cell BK147.out 7).trans rfl, (blk_cell BK147.out 8).trans rfl, (blk_cell BK147.out 9).trans rfl, (blk_cell BK147.out 10).trans rfl, (blk_cell BK147.out 11).trans rfl⟩ (fun hHeld => ?_)
   clear hK K
   refine norm_ (a' := ?_) ?_ ?_
   rotate_left
   ·show Act.put _ (some 35) _ = _
    simp only [sP]
    rfl
   refine pure_ (i := 7) (N := some 5) (v := ?_) (a' := ?_) #[tr,tr,tr,tr,tr,tr,tr,tr] rfl rfl (any_of HT_.out (by kernel_rfl)) (fun _ _ _ h => h) (Or.inl ⟨by rfl, ?_⟩) ?_ ?_
   rotate_left
   ·intro w'
    go_simp
    with_reducible rfl
   rotate_left
   ·simp only [sP]
    rfl
   refine done_ (done_of HT_.out (by kernel_rfl)) ?_
   have hcv28 := own_string (P := Try.prog) Try.underlying49 Try.underlying5 Try.underlying9 (Kd.own_of_R HO166.out)
   try go_wp2
   go_ret2
   exact ⟨eS, bw1 HB.out GE147.out⟩
  ·rw [if_neg c7] at H
   have c7b0 : (a0_0 == 3) = false := beq_eq_false_iff_ne.mpr c7
   have c7b1 : (a0_0 != 3) = true := bne_iff_ne.mpr c7
   by_cases c29 : a0_0 = 4
   ·rw [if_pos c29] at H
    have c29b0 : (a0_0 == 4) = true := beq_iff_eq.mpr c29
    have c29b1 : (a0_0 != 4) = false := bne_eq_false_iff_eq.mpr c29
    clear c29
    replace H := Option.bind_eq_some_iff.mp H
    obtain ⟨t167, A300, H⟩ := H
    replace H : (some (strOfNums t167, 0)) = some (r1, r2) := H
    have A30 := Ax A300
    clear A300
    simp only [Option.some.injEq, Prod.mk.injEq] at H
    obtain ⟨rfl, rfl⟩ := H
    go_enter Try.func8, Try.ntmps8
    try go_wp2_with (first | ((with_reducible refine gate_dst (N := 1) rfl ?_); refine box_event ?hg (N := 1) ?hd (cs := #[.int .u8 a0_0, .int .i64 a0_1, .int .u64 a0_2, .int .i64 a0_3, .bool a0_4, .int .u64 a0_5, .int .u64 a0_6, .int .i64 a0_7, .int .u8 a0_8, .int .i64 a0_9, .int .i64 a0_10, .int .i64 a0_11]) (t := 32) ?hr ?_; (case hd => rfl); (case hg => rfl); (case hr => first | (go_simp; done) | (go_simp; rfl)); intro gb147 hg w31 hbox hb; have n0_ := Bs0 HB hb; have n1_ := Ax (hbox); have n2_ := Gw0 HB hg; have n3_ := Gw0 HB hg; clear HB; have HB := n0_; have BK147 := n1_; have GW147 := n2_; have GE147 := n3_; clear n0_ n1_ n2_ n3_; clear hb hbox hg; obtain ⟨hcz32_0, hcz32_1, hcz32_2, hcz32_3, hcz32_4, hcz32_5, hcz32_6, hcz32_7, hcz32_8, hcz32_9, hcz32_10, hcz32_11, hfz32_0, hfz32_1, hfz32_2, hfz32_3, hfz32_4, hfz32_5, hfz32_6, hfz32_7, hfz32_8, hfz32_9, hfz32_10, hfz32_11⟩ := cl12 BK147) | ((with_reducible refine gate_callee (f := 13) rfl ?_); refine goesL_ (some 7) rfl rfl Try.func13 (by kernel_rfl) rfl #[.agg #[.int .u8 a0_0, .int .i64 a0_1, .int .u64 a0_2, .int .i64 a0_3, .bool a0_4, .int .u64 a0_5, .int .u64 a0_6, .int .i64 a0_7, .int .u8 a0_8, .int .i64 a0_9, .int .i64 a0_10, .int .i64 a0_11]] rfl gS ?_; (with_reducible refine (msg_Check.calls k a0_0 a0_1 a0_2 a0_3 a0_4 a0_5 a0_6 a0_7 a0_8 a0_9 a0_10 a0_11 t148 _ A2.out).mono ?_); rintro e w33 ⟨rfl, hb⟩; refine ⟨_, rfl, ?_⟩; replace BK147 := Bx0 BK147 hb; replace HB := Bs1 HB hb GE147.out; (try clear hb)))
    replace BK147 := Ax (blk_drew BK147.out)
    replace HB := Ax (below_drew1 HB.out)
    refine start_ (n := 15) (S := fun w' => w'.cell? ⟨gb147, 0, none⟩ = some (.int .u8 a0_0) ∧ w'.cell? ⟨gb147, 1, none⟩ = some (.int .i64 a0_1) ∧ w'.cell? ⟨gb147, 2, none⟩ = some (.int .u64 a0_2) ∧ w'.cell? ⟨gb147, 3, none⟩ = some (.int .i64 a0_3) ∧ w'.cell? ⟨gb147, 4, none⟩ = some (.bool a0_4) ∧ w'.cell? ⟨gb147, 5, none⟩ = some (.int .u64 a0_5) ∧ w'.cell? ⟨gb147, 6, none⟩ = some (.int .u64 a0_6) ∧ w'.cell? ⟨gb147, 7, none⟩ = some (.int .i64 a0_7) ∧ w'.cell? ⟨gb147, 8, none⟩ = some (.int .u8 a0_8) ∧ w'.cell? ⟨gb147, 9, none⟩ = some (.int .i64 a0_9) ∧ w'.cell? ⟨gb147, 10, none⟩ = some (.int .i64 a0_10) ∧ w'.cell? ⟨gb147, 11, none⟩ = some (.int .i64 a0_11)) (ds := []) #[fa,fa,fa,fa,fa,fa,fa,fa,fa,fa,fa,fa,fa,fa,fa] (by kernel_rfl) rfl rfl ⟨(blk_cell BK147.out 0).trans rfl, (blk_cell BK147.out 1).trans rfl, (blk_cell BK147.out 2).trans rfl, (blk_cell BK147.out 3).trans rfl, (blk_cell BK147.out 4).trans rfl, (blk_cell BK147.out 5).trans rfl, (blk_cell BK147.out 6).trans rfl, (blk_cell BK147.out 7).trans rfl, (blk_cell BK147.out 8).trans rfl, (blk_cell BK147.out 9).trans rfl, (blk_cell BK147.out 10).trans rfl, (blk_cell BK147.out 11).trans rfl⟩ (fun hHeld => ?_); refine with_tabW msg_Put.tab4 msg_Put.bits4 (fun HT_ HW_ => ?_)
    generalize w33.drew = w34 at BK147 HB hHeld ⊢
    refine pure_ (i := 0) (N := some 11) (v := ?_) (a' := ?_) #[tr,fa,fa,fa,fa,fa,fa,fa,fa,fa,fa,fa,fa,fa,fa] rfl rfl (any_of HT_.out (by kernel_rfl)) (fun _ _ _ h => h) (Or.inl ⟨by rfl, ?_⟩) ?_ ?_
    rotate_left
    ·intro w'
     go_simp
     with_reducible rfl
    rotate_left
    ·simp only [sP]
     rfl
    refine pure_ (i := 3) (N := some 14) (v := ?_) (a' := ?_) #[tr,fa,fa,tr,fa,fa,fa,fa,fa,fa,fa,fa,fa,fa,fa] rfl rfl (any_of HT_.out (by kernel_rfl)) (fun _ _ _ h => h) (Or.inl ⟨by rfl, ?_⟩) ?_ ?_
    rotate_left
    ·intro w'
     go_simp
     with_reducible rfl
    rotate_left
    ·simp only [sP]
     rfl
    refine pure_ (i := 7) (N := some 18) (v := ?_) (a' := ?_) #[tr,fa,fa,tr,fa,fa,fa,tr,fa,fa,fa,fa,fa,fa,fa] rfl rfl (any_of HT_.out (by kernel_rfl)) (fun _ _ _ h => h) (Or.inl ⟨by rfl, ?_⟩) ?_ ?_
    rotate_left
    ·intro w'
     go_simp
     with_reducible rfl
    rotate_left
    ·simp only [sP]
     rfl
    refine pure_ (i := 10) (N := some 21) (v := ?_) (a' := ?_) #[tr,fa,fa,tr,fa,fa,fa,tr,fa,fa,tr,fa,fa,fa,fa] rfl rfl (any_of HT_.out (by kernel_rfl)) (fun _ _ _ h => h) (Or.inl ⟨by rfl, ?_⟩) ?_ ?_
    rotate_left
    ·intro w'
     go_simp
     with_reducible rfl
    rotate_left
    ·simp only [sP]
     rfl
    refine take_ (i := 1) (N := some 12) (v := ?_) (a' := ?_) #[tr,tr,fa,tr,fa,fa,fa,tr,fa,fa,tr,fa,fa,fa,fa] rfl rfl (take_ofW HT_.out HW_.out (by kernel_rfl)) (fun _ _ _ h => h) (Or.inl ⟨by rfl, ?_⟩) hHeld ?_ ?_
    rotate_left
    ·rintro w' ⟨s0, s1, s2, s3, s4, s5, s6, s7, s8, s9, s10, s11⟩
     go_simp
     with_reducible rfl
    rotate_left
    ·simp only [sP]
     rfl
    refine take_ (i := 4) (N := some 15) (v := ?_) (a' := ?_) #[tr,tr,fa,tr,tr,fa,fa,tr,fa,fa,tr,fa,fa,fa,fa] rfl rfl (take_ofW HT_.out HW_.out (by kernel_rfl)) (fun _ _ _ h => h) (Or.inl ⟨by rfl, ?_⟩) hHeld ?_ ?_
    rotate_left
    ·rintro w' ⟨s0, s1, s2, s3, s4, s5, s6, s7, s8, s9, s10, s11⟩
     go_simp
     with_reducible rfl
    rotate_left
    ·simp only [sP]
     rfl
    refine pure_ (i := 5) (N := some 16) (v := ?_) (a' := ?_) #[tr,tr,fa,tr,tr,tr,fa,tr,fa,fa,tr,fa,fa,fa,fa] rfl rfl (any_of HT_.out (by kernel_rfl)) (fun _ _ _ h => h) (Or.inl ⟨by rfl, ?_⟩) ?_ ?_
    rotate_left
    ·intro w'
     go_simp
     with_reducible rfl
    rotate_left
    ·simp only [sP]
     rfl
    refine take_ (i := 8) (N := some 19) (v := ?_) (a' := ?_) #[tr,tr,fa,tr,tr,tr,fa,tr,tr,fa,tr,fa,fa,fa,fa] rfl rfl (take_ofW HT_.out HW_.out (by kernel_rfl)) (fun _ _ _ h => h) (Or.inl ⟨by rfl, ?_⟩) hHeld ?_ ?_
    rotate_left
    ·rintro w' ⟨s0, s1, s2, s3, s4, s5, s6, s7, s8, s9, s10, s11⟩
     go_simp
     with_reducible rfl
    rotate_left
    ·simp only [sP]
     rfl
    refine take_ (i := 11) (N := some 22) (v := ?_) (a' := ?_) #[tr,tr,fa,tr,tr,tr,fa,tr,tr,fa,tr,tr,fa,fa,fa] rfl rfl (take_ofW HT_.out HW_.out (by kernel_rfl)) (fun _ _ _ h => h) (Or.inl ⟨by rfl, ?_⟩) hHeld ?_ ?_
    rotate_left
    ·rintro w' ⟨s0, s1, s2, s3, s4, s5, s6, s7, s8, s9, s10, s11⟩
     go_simp
     with_reducible rfl
    rotate_left
    ·simp only [sP]
     rfl
    refine pure_ (i := 12) (N := some 23) (v := ?_) (a' := ?_) #[tr,tr,fa,tr,tr,tr,fa,tr,tr,fa,tr,tr,tr,fa,fa] rfl rfl (any_of HT_.out (by kernel_rfl)) (fun _ _ _ h => h) (Or.inl ⟨by rfl, ?_⟩) ?_ ?_
    rotate_left
    ·intro w'
     go_simp
     with_reducible rfl
    rotate_left
    ·simp only [sP]
     rfl
    refine one_ (i := 2) (N := some 13) #[tr,tr,tr,tr,tr,tr,fa,tr,tr,fa,tr,tr,tr,fa,fa] rfl rfl (one_of HT_.out (by kernel_rfl)) (by decide) (fun K hK => ?_)
    refine Kd.R_lit_step (Kd.int .u8) _ 5 ?hg (N := 13) ?hd (xs := ([a0_0] : List Int)) (inner := [.int .u8 a0_0]) (ok := fun _ => True) (okp := fun _ => True) ?hr ?hp (fun _ hk => hk) trivial (Below.refl _ _) (Nat.le_refl _) (by simp) ?_; (case hd => rfl); (case hg => rfl); (case hr => first | (go_simp; done) | (go_simp; rfl)); (case hp => exact (Reps.one (show Kd.M (Kd.int .u8) _ _ _ a0_0 [.int .u8 a0_0] from rfl) (Reps.none _ _)))
    intro v150 w35 ho36 hb hg_ hnew_
    clear hg_ hnew_
    (first | rw [← Ny149.out] at ho36 | (simp only [Int.reduceToNat] at ho36; rw [← Ny149.out] at ho36))
    have HO151 := Ax (Kd.R_lower ho36 (below_size (bw1 HB.out GE147.out)))
    replace BK147 := Bx0 BK147 hb
    replace HB := Bs1 HB hb GE147.out
    clear hb ho36
    obtain ⟨Ao37, co37, eo37⟩ := Kd.R_slice HO151.out
    (first | subst eo37 | (injection eo37 with f1_ f2_ f3_; have f4_ := f1_.symm; have f5_ := f3_.symm; clear f1_ f2_ f3_; subst f4_; subst f5_))
    refine hK.out _ _ ⟨(blk_cell BK147.out 0).trans rfl, (blk_cell BK147.out 1).trans rfl, (blk_cell BK147.out 2).trans rfl, (blk_cell BK147.out 3).trans rfl, (blk_cell BK147.out 4).trans rfl, (blk_cell BK147.out 5).trans rfl, (blk_cell BK147.out 6).trans rfl, (blk_cell BK147.out 7).trans rfl, (blk_cell BK147.out 8).trans rfl, (blk_cell BK147.out 9).trans rfl, (blk_cell BK147.out 10).trans rfl, (blk_cell BK147.out 11).trans rfl⟩ (fun hHeld => ?_)
    clear hK K
    refine norm_ (a' := ?_) ?_ ?_
    rotate_left
    ·show Act.put _ (some 13) _ = _
     simp only [sP]
     rfl
    refine one_ (i := 6) (N := some 17) #[tr,tr,tr,tr,tr,tr,tr,tr,tr,fa,tr,tr,tr,fa,fa] rfl rfl (one_of HT_.out (by kernel_rfl)) (by decide) (fun K hK => ?_)
    refine goes_ Try.func23 (by kernel_rfl) rfl #[.slice Ao37 y149.length co37, .int .u64 (IntKind.u64.wrap (a0_1))] (by rfl) rfl rfl gS ?_
    with_reducible refine (num_Add.calls k (fun k_ => some k_ = (.slice Ao37 y149.length co37 : Value).ownBlock) (.slice Ao37 y149.length co37) y149 (IntKind.u64.wrap (a0_1)) t152 w _ ?side1 ?side2 A4.out).mono ?_
    (case side1 => repeat (first | (with_reducible first | exact HB.out | apply below_alloc | apply pw_below_drewN | apply below_drew1 | refine below_set ?_ GE147.out) | exact HB.out))
    (case side2 => exact Kd.R_tight rfl HO151.out)
    rintro e w38 ⟨v153, rfl, ho0, hb, hkp⟩
    refine ⟨_, rfl, ?_⟩
    have n0_ := Ax (blk_kept (bf0 BK147.out) hkp (fun hs_ => (fun e_ => (Kd.R_ne HO151.out BK147.out (by decide)) e_) hs_))
    have n1_ := Ax (Kd.R_mono (ok' := fun k_ => True) ho0 (fun k_ hk_ => trivial))
    have n2_ := Ax (hb)
    clear BK147
    clear HB
    clear HO151
    have BK147 := n0_
    have HO154 := n1_
    have HB := n2_
    clear n0_ n1_ n2_
    (try clear hb)
    (try clear hkp)
    (try clear ho0)
    obtain ⟨Ao39, co39, eo39⟩ := Kd.R_slice HO154.out
    (first | subst eo39 | (injection eo39 with f1_ f2_ f3_; have f4_ := f1_.symm; have f5_ := f3_.symm; clear f1_ f2_ f3_; subst f4_; subst f5_))
    refine hK.out _ _ ⟨(blk_cell BK147.out 0).trans rfl, (blk_cell BK147.out 1).trans rfl, (blk_cell BK147.out 2).trans rfl, (blk_cell BK147.out 3).trans rfl, (blk_cell BK147.out 4).trans rfl, (blk_cell BK147.out 5).trans rfl, (blk_cell BK147.out 6).trans rfl, (blk_cell BK147.out 7).trans rfl, (blk_cell BK147.out 8).trans rfl, (blk_cell BK147.out 9).trans rfl, (blk_cell BK147.out 10).trans rfl, (blk_cell BK147.out 11).trans rfl⟩ (fun hHeld => ?_)
    clear hK K
    refine norm_ (a' := ?_) ?_ ?_
    rotate_left
    ·show Act.put _ (some 17) _ = _
     simp only [sP]
     rfl
    refine one_ (i := 9) (N := some 20) #[tr,tr,tr,tr,tr,tr,tr,tr,tr,tr,tr,tr,tr,fa,fa] rfl rfl (one_of HT_.out (by kernel_rfl)) (by decide) (fun K hK => ?_)
    refine goes_ Try.func23 (by kernel_rfl) rfl #[.slice Ao39 t152.length co39, .int .u64 a0_2] (by rfl) rfl rfl gS ?_
    with_reducible refine (num_Add.calls k (fun k_ => some k_ = (.slice Ao39 t152.length co39 : Value).ownBlock) (.slice Ao39 t152.length co39) t152 a0_2 t155 w _ ?side1 ?side2 A5.out).mono ?_
    (case side1 => repeat (first | (with_reducible first | exact HB.out | apply below_alloc | apply pw_below_drewN | apply below_drew1 | refine below_set ?_ GE147.out) | exact HB.out))
    (case side2 => exact Kd.R_tight rfl HO154.out)
    rintro e w40 ⟨v156, rfl, ho0, hb, hkp⟩
    refine ⟨_, rfl, ?_⟩
    have n0_ := Ax (blk_kept (bf0 BK147.out) hkp (fun hs_ => (fun e_ => (Kd.R_ne HO154.out BK147.out (by decide)) e_) hs_))
    have n1_ := Ax (Kd.R_mono (ok' := fun k_ => True) ho0 (fun k_ hk_ => trivial))
    have n2_ := Ax (hb)
    clear BK147
    clear HB
    clear HO154
    have BK147 := n0_
    have HO157 := n1_
    have HB := n2_
    clear n0_ n1_ n2_
    (try clear hb)
    (try clear hkp)
    (try clear ho0)
    obtain ⟨Ao41, co41, eo41⟩ := Kd.R_slice HO157.out
    (first | subst eo41 | (injection eo41 with f1_ f2_ f3_; have f4_ := f1_.symm; have f5_ := f3_.symm; clear f1_ f2_ f3_; subst f4_; subst f5_))
    refine hK.out _ _ ⟨(blk_cell BK147.out 0).trans rfl, (blk_cell BK147.out 1).trans rfl, (blk_cell BK147.out 2).trans rfl, (blk_cell BK147.out 3).trans rfl, (blk_cell BK147.out 4).trans rfl, (blk_cell BK147.out 5).trans rfl, (blk_cell BK147.out 6).trans rfl, (blk_cell BK147.out 7).trans rfl, (blk_cell BK147.out 8).trans rfl, (blk_cell BK147.out 9).trans rfl, (blk_cell BK147.out 10).trans rfl, (blk_cell BK147.out 11).trans rfl⟩ (fun hHeld => ?_)
    clear hK K
    refine norm_ (a' := ?_) ?_ ?_
    rotate_left
    ·show Act.put _ (some 20) _ = _
     simp only [sP]
     rfl
    refine one_ (i := 13) (N := some 24) #[tr,tr,tr,tr,tr,tr,tr,tr,tr,tr,tr,tr,tr,tr,fa] rfl rfl (one_of HT_.out (by kernel_rfl)) (by decide) (fun K hK => ?_)
    refine goes_ Try.func23 (by kernel_rfl) rfl #[.slice Ao41 t155.length co41, .int .u64 (IntKind.u64.wrap (a0_3))] (by rfl) rfl rfl gS ?_
    with_reducible refine (num_Add.calls k (fun k_ => some k_ = (.slice Ao41 t155.length co41 : Value).ownBlock) (.slice Ao41 t155.length co41) t155 (IntKind.u64.wrap (a0_3)) t158 w _ ?side1 ?side2 A6.out).mono ?_
    (case side1 => repeat (first | (with_reducible first | exact HB.out | apply below_alloc | apply pw_below_drewN | apply below_drew1 | refine below_set ?_ GE147.out) | exact HB.out))
    (case side2 => exact Kd.R_tight rfl HO157.out)
    rintro e w42 ⟨v159, rfl, ho0, hb, hkp⟩
    refine ⟨_, rfl, ?_⟩
    have n0_ := Ax (blk_kept (bf0 BK147.out) hkp (fun hs_ => (fun e_ => (Kd.R_ne HO157.out BK147.out (by decide)) e_) hs_))
    have n1_ := Ax (Kd.R_mono (ok' := fun k_ => True) ho0 (fun k_ hk_ => trivial))
    have n2_ := Ax (hb)
    clear BK147
    clear HB
    clear HO157
    have BK147 := n0_
    have HO160 := n1_
    have HB := n2_
    clear n0_ n1_ n2_
    (try clear hb)
    (try clear hkp)
    (try clear ho0)
    refine hK.out _ _ ⟨(blk_cell BK147.out 0).trans rfl, (blk_cell BK147.out 1).trans rfl, (blk_cell BK147.out 2).trans rfl, (blk_cell BK147.out 3).trans rfl, (blk_cell BK147.out 4).trans rfl, (blk_cell BK147.out 5).trans rfl, (blk_cell BK147.out 6).trans rfl, (blk_cell BK147.out 7).trans rfl, (blk_cell BK147.out 8).trans rfl, (blk_cell BK147.out 9).trans rfl, (blk_cell BK147.out 10).trans rfl, (blk_cell BK147.out 11).trans rfl⟩ (fun hHeld => ?_)
    clear hK K
    refine norm_ (a' := ?_) ?_ ?_
    rotate_left
    ·show Act.put _ (some 24) _ = _
     simp only [sP]
     rfl
    refine pure_ (i := 14) (N := some 5) (v := ?_) (a' := ?_) #[tr,tr,tr,tr,tr,tr,tr,tr,tr,tr,tr,tr,tr,tr,tr] rfl rfl (any_of HT_.out (by kernel_rfl)) (fun _ _ _ h => h) (Or.inl ⟨by rfl, ?_⟩) ?_ ?_
    rotate_left
    ·intro w'
     go_simp
     with_reducible rfl
    rotate_left
    ·simp only [sP]
     rfl
    refine done_ (done_of HT_.out (by kernel_rfl)) ?_
    obtain ⟨hcz43_0, hcz43_1, hcz43_2, hcz43_3, hcz43_4, hcz43_5, hcz43_6, hcz43_7, hcz43_8, hcz43_9, hcz43_10, hcz43_11, hfz43_0, hfz43_1, hfz43_2, hfz43_3, hfz43_4, hfz43_5, hfz43_6, hfz43_7, hfz43_8, hfz43_9, hfz43_10, hfz43_11⟩ := cl12 BK147
    obtain ⟨Ao44, co44, eo44⟩ := Kd.R_slice HO160.out
    subst eo44
    try go_wp2_with (first | ((with_reducible refine gate_callee (f := 25) rfl ?_); refine goesL_ (some 41) rfl rfl Try.func25 (by kernel_rfl) rfl #[.slice Ao44 t158.length co44, .agg #[.bool a0_4, .int .u64 a0_5, .int .u64 a0_6, .int .i64 a0_7]] rfl gS ?_; (with_reducible refine (msg_prefix.calls (fun k_ => some k_ = (.slice Ao44 t158.length co44 : Value).ownBlock) (.slice Ao44 t158.length co44) t158 a0_4 a0_5 a0_6 a0_7 t167 w _ ?side1 ?side2 A30.out).mono ?_); (case side1 => repeat (first | (with_reducible first | exact HB.out | apply below_alloc | apply pw_below_drewN | apply below_drew1 | refine below_set ?_ GE147.out) | exact HB.out)); (case side2 => exact Kd.R_tight rfl HO160.out); rintro e w45 ⟨v168, rfl, ho0, hb, hkp⟩; refine ⟨_, rfl, ?_⟩; have n0_ := Ax (blk_kept (bf0 BK147.out) hkp (fun hs_ => (fun e_ => (Kd.R_ne HO160.out BK147.out (by decide)) e_) hs_)); have n1_ := Ax (Kd.R_mono (ok' := fun k_ => True) ho0 (fun k_ hk_ => trivial)); have n2_ := Ax (hb); clear BK147; clear HB; clear HO160; have BK147 := n0_; have HO169 := n1_; have HB := n2_; clear n0_ n1_ n2_; (try clear hb); (try clear hkp); (try clear ho0); have hcv46 := own_string (P := Try.prog) Try.underlying49 Try.underlying5 Try.underlying9 (Kd.own_of_R HO169.out)))
    go_ret2
    exact ⟨eS, bw1 HB.out GE147.out⟩
   ·rw [if_neg c29] at H
    have c29b0 : (a0_0 == 4) = false := beq_eq_false_iff_ne.mpr c29
    have c29b1 : (a0_0 != 4) = true := bne_iff_ne.mpr c29
    by_cases c47 : a0_0 = 5
    ·rw [if_pos c47] at H
     have c47b0 : (a0_0 == 5) = true := beq_iff_eq.mpr c47
     have c47b1 : (a0_0 != 5) = false := bne_eq_false_iff_eq.mpr c47
     clear c47
     replace H := Option.bind_eq_some_iff.mp H
     obtain ⟨t170, A480, H⟩ := H
     replace H : ((num_Add.f k t170 (IntKind.u64.wrap (a0_11))).bind fun t173 => (some (strOfNums t173, 0))) = some (r1, r2) := H
     have A48 := Ax A480
     clear A480
     replace H := Option.bind_eq_some_iff.mp H
     obtain ⟨t173, A490, H⟩ := H
     replace H : (some (strOfNums t173, 0)) = some (r1, r2) := H
     have A49 := Ax A490
     clear A490
     simp only [Option.some.injEq, Prod.mk.injEq] at H
     obtain ⟨rfl, rfl⟩ := H
     go_enter Try.func8, Try.ntmps8
     try go_wp2_with (first | ((with_reducible refine gate_dst (N := 1) rfl ?_); refine box_event ?hg (N := 1) ?hd (cs := #[.int .u8 a0_0, .int .i64 a0_1, .int .u64 a0_2, .int .i64 a0_3, .bool a0_4, .int .u64 a0_5, .int .u64 a0_6, .int .i64 a0_7, .int .u8 a0_8, .int .i64 a0_9, .int .i64 a0_10, .int .i64 a0_11]) (t := 32) ?hr ?_; (case hd => rfl); (case hg => rfl); (case hr => first | (go_simp; done) | (go_simp; rfl)); intro gb147 hg w50 hbox hb; have n0_ := Bs0 HB hb; have n1_ := Ax (hbox); have n2_ := Gw0 HB hg; have n3_ := Gw0 HB hg; clear HB; have HB := n0_; have BK147 := n1_; have GW147 := n2_; have GE147 := n3_; clear n0_ n1_ n2_ n3_; clear hb hbox hg; obtain ⟨hcz51_0, hcz51_1, hcz51_2, hcz51_3, hcz51_4, hcz51_5, hcz51_6, hcz51_7, hcz51_8, hcz51_9, hcz51_10, hcz51_11, hfz51_0, hfz51_1, hfz51_2, hfz51_3, hfz51_4, hfz51_5, hfz51_6, hfz51_7, hfz51_8, hfz51_9, hfz51_10, hfz51_11⟩ := cl12 BK147) | ((with_reducible refine gate_callee (f := 13) rfl ?_); refine goesL_ (some 7) rfl rfl Try.func13 (by kernel_rfl) rfl #[.agg #[.int .u8 a0_0, .int .i64 a0_1, .int .u64 a0_2, .int .i64 a0_3, .bool a0_4, .int .u64 a0_5, .int .u64 a0_6, .int .i64 a0_7, .int .u8 a0_8, .int .i64 a0_9, .int .i64 a0_10, .int .i64 a0_11]] rfl gS ?_; (with_reducible refine (msg_Check.calls k a0_0 a0_1 a0_2 a0_3 a0_4 a0_5 a0_6 a0_7 a0_8 a0_9 a0_10 a0_11 t148 _ A2.out).mono ?_); rintro e w52 ⟨rfl, hb⟩; refine ⟨_, rfl, ?_⟩; replace BK147 := Bx0 BK147 hb; replace HB := Bs1 HB hb GE147.out; (try clear hb)))
     replace BK147 := Ax (blk_drew BK147.out)
     replace HB := Ax (below_drew1 HB.out)
     refine start_ (n := 15) (S := fun w' => w'.cell? ⟨gb147, 0, none⟩ = some (.int .u8 a0_0) ∧ w'.cell? ⟨gb147, 1, none⟩ = some (.int .i64 a0_1) ∧ w'.cell? ⟨gb147, 2, none⟩ = some (.int .u64 a0_2) ∧ w'.cell? ⟨gb147, 3, none⟩ = some (.int .i64 a0_3) ∧ w'.cell? ⟨gb147, 4, none⟩ = some (.bool a0_4) ∧ w'.cell? ⟨gb147, 5, none⟩ = some (.int .u64 a0_5) ∧ w'.cell? ⟨gb147, 6, none⟩ = some (.int .u64 a0_6) ∧ w'.cell? ⟨gb147, 7, none⟩ = some (.int .i64 a0_7) ∧ w'.cell? ⟨gb147, 8, none⟩ = some (.int .u8 a0_8) ∧ w'.cell? ⟨gb147, 9, none⟩ = some (.int .i64 a0_9) ∧ w'.cell? ⟨gb147, 10, none⟩ = some (.int .i64 a0_10) ∧ w'.cell? ⟨gb147, 11, none⟩ = some (.int .i64 a0_11)) (ds := []) #[fa,fa,fa,fa,fa,fa,fa,fa,fa,fa,fa,fa,fa,fa,fa] (by kernel_rfl) rfl rfl ⟨(blk_cell BK147.out 0).trans rfl, (blk_cell BK147.out 1).trans rfl, (blk_cell BK147.out 2).trans rfl, (blk_cell BK147.out 3).trans rfl, (blk_cell BK147.out 4).trans rfl, (blk_cell BK147.out 5).trans rfl, (blk_cell BK147.out 6).trans rfl, (blk_cell BK147.out 7).trans rfl, (blk_cell BK147.out 8).trans rfl, (blk_cell BK147.out 9).trans rfl, (blk_cell BK147.out 10).trans rfl, (blk_cell BK147.out 11).trans rfl⟩ (fun hHeld => ?_); refine with_tabW msg_Put.tab4 msg_Put.bits4 (fun HT_ HW_ => ?_)
     generalize w52.drew = w53 at BK147 HB hHeld ⊢
     refine pure_ (i := 0) (N := some 11) (v := ?_) (a' := ?_) #[tr,fa,fa,fa,fa,fa,fa,fa,fa,fa,fa,fa,fa,fa,fa] rfl rfl (any_of HT_.out (by kernel_rfl)) (fun _ _ _ h => h) (Or.inl ⟨by rfl, ?_⟩) ?_ ?_
     rotate_left
     ·intro w'
      go_simp
      with_reducible rfl
     rotate_left
     ·simp only [sP]
      rfl
     refine pure_ (i := 3) (N := some 14) (v := ?_) (a' := ?_) #[tr,fa,fa,tr,fa,fa,fa,fa,fa,fa,fa,fa,fa,fa,fa] rfl rfl (any_of HT_.out (by kernel_rfl)) (fun _ _ _ h => h) (Or.inl ⟨by rfl, ?_⟩) ?_ ?_
     rotate_left
     ·intro w'
      go_simp
      with_reducible rfl
     rotate_left
     ·simp only [sP]
      rfl
     refine pure_ (i := 7) (N := some 18) (v := ?_) (a' := ?_) #[tr,fa,fa,tr,fa,fa,fa,tr,fa,fa,fa,fa,fa,fa,fa] rfl rfl (any_of HT_.out (by kernel_rfl)) (fun _ _ _ h => h) (Or.inl ⟨by rfl, ?_⟩) ?_ ?_
     rotate_left
     ·intro w'
      go_simp
      with_reducible rfl
     rotate_left
     ·simp only [sP]
      rfl
     refine pure_ (i := 10) (N := some 21) (v := ?_) (a' := ?_) #[tr,fa,fa,tr,fa,fa,fa,tr,fa,fa,tr,fa,fa,fa,fa] rfl rfl (any_of HT_.out (by kernel_rfl)) (fun _ _ _ h => h) (Or.inl ⟨by rfl, ?_⟩) ?_ ?_
     rotate_left
     ·intro w'
      go_simp
      with_reducible rfl
     rotate_left
     ·simp only [sP]
      rfl
     refine take_ (i := 1) (N := some 12) (v := ?_) (a' := ?_) #[tr,tr,fa,tr,fa,fa,fa,tr,fa,fa,tr,fa,fa,fa,fa] rfl rfl (take_ofW HT_.out HW_.out (by kernel_rfl)) (fun _ _ _ h => h) (Or.inl ⟨by rfl, ?_⟩) hHeld ?_ ?_
     rotate_left
     ·rintro w' ⟨s0, s1, s2, s3, s4, s5, s6, s7, s8, s9, s10, s11⟩
      go_simp
      with_reducible rfl
     rotate_left
     ·simp only [sP]
      rfl
     refine take_ (i := 4) (N := some 15) (v := ?_) (a' := ?_) #[tr,tr,fa,tr,tr,fa,fa,tr,fa,fa,tr,fa,fa,fa,fa] rfl rfl (take_ofW HT_.out HW_.out (by kernel_rfl)) (fun _ _ _ h => h) (Or.inl ⟨by rfl, ?_⟩) hHeld ?_ ?_
     rotate_left
     ·rintro w' ⟨s0, s1, s2, s3, s4, s5, s6, s7, s8, s9, s10, s11⟩
      go_simp
      with_reducible rfl
     rotate_left
     ·simp only [sP]
      rfl
     refine pure_ (i := 5) (N := some 16) (v := ?_) (a' := ?_) #[tr,tr,fa,tr,tr,tr,fa,tr,fa,fa,tr,fa,fa,fa,fa] rfl rfl (any_of HT_.out (by kernel_rfl)) (fun _ _ _ h => h) (Or.inl ⟨by rfl, ?_⟩) ?_ ?_
     rotate_left
     ·intro w'
      go_simp
      with_reducible rfl
     rotate_left
     ·simp only [sP]
      rfl
     refine take_ (i := 8) (N := some 19) (v := ?_) (a' := ?_) #[tr,tr,fa,tr,tr,tr,fa,tr,tr,fa,tr,fa,fa,fa,fa] rfl rfl (take_ofW HT_.out HW_.out (by kernel_rfl)) (fun _ _ _ h => h) (Or.inl ⟨by rfl, ?_⟩) hHeld ?_ ?_
     rotate_left
     ·rintro w' ⟨s0, s1, s2, s3, s4, s5, s6, s7, s8, s9, s10, s11⟩
      go_simp
      with_reducible rfl
     rotate_left
     ·simp only [sP]
      rfl
     refine take_ (i := 11) (N := some 22) (v := ?_) (a' := ?_) #[tr,tr,fa,tr,tr,tr,fa,tr,tr,fa,tr,tr,fa,fa,fa] rfl rfl (take_ofW HT_.out HW_.out (by kernel_rfl)) (fun _ _ _ h => h) (Or.inl ⟨by rfl, ?_⟩) hHeld ?_ ?_
     rotate_left
     ·rintro w' ⟨s0, s1, s2, s3, s4, s5, s6, s7, s8, s9, s10, s11⟩
      go_simp
      with_reducible rfl
     rotate_left
     ·simp only [sP]
      rfl
     refine pure_ (i := 12) (N := some 23) (v := ?_) (a' := ?_) #[tr,tr,fa,tr,tr,tr,fa,tr,tr,fa,tr,tr,tr,fa,fa] rfl rfl (any_of HT_.out (by kernel_rfl)) (fun _ _ _ h => h) (Or.inl ⟨by rfl, ?_⟩) ?_ ?_
     rotate_left
     ·intro w'
      go_simp
      with_reducible rfl
     rotate_left
     ·simp only [sP]
      rfl
     refine one_ (i := 2) (N := some 13) #[tr,tr,tr,tr,tr,tr,fa,tr,tr,fa,tr,tr,tr,fa,fa] rfl rfl (one_of HT_.out (by kernel_rfl)) (by decide) (fun K hK => ?_)
     refine Kd.R_lit_step (Kd.int .u8) _ 5 ?hg (N := 13) ?hd (xs := ([a0_0] : List Int)) (inner := [.int .u8 a0_0]) (ok := fun _ => True) (okp := fun _ => True) ?hr ?hp (fun _ hk => hk) trivial (Below.refl _ _) (Nat.le_refl _) (by simp) ?_; (case hd => rfl); (case hg => rfl); (case hr => first | (go_simp; done) | (go_simp; rfl)); (case hp => exact (Reps.one (show Kd.M (Kd.int .u8) _ _ _ a0_0 [.int .u8 a0_0] from rfl) (Reps.none _ _)))
     intro v150 w54 ho55 hb hg_ hnew_
     clear hg_ hnew_
     (first | rw [← Ny149.out] at ho55 | (simp only [Int.reduceToNat] at ho55; rw [← Ny149.out] at ho55))
     have HO151 := Ax (Kd.R_lower ho55 (below_size (bw1 HB.out GE147.out)))
     replace BK147 := Bx0 BK147 hb
     replace HB := Bs1 HB hb GE147.out
     clear hb ho55
     obtain ⟨Ao56, co56, eo56⟩ := Kd.R_slice HO151.out
     (first | subst eo56 | (injection eo56 with f1_ f2_ f3_; have f4_ := f1_.symm; have f5_ := f3_.symm; clear f1_ f2_ f3_; subst f4_; subst f5_))
     refine hK.out _ _ ⟨(blk_cell BK147.out 0).trans rfl, (blk_cell BK147.out 1).trans rfl, (blk_cell BK147.out 2).trans rfl, (blk_cell BK147.out 3).trans rfl, (blk_cell BK147.out 4).trans rfl, (blk_cell BK147.out 5).trans rfl, (blk_cell BK147.out 6).trans rfl, (blk_cell BK147.out 7).trans rfl, (blk_cell BK147.out 8).trans rfl, (blk_cell BK147.out 9).trans rfl, (blk_cell BK147.out 10).trans rfl, (blk_cell BK147.out 11).trans rfl⟩ (fun hHeld => ?_)
     clear hK K
     refine norm_ (a' := ?_) ?_ ?_
     rotate_left
     ·show Act.put _ (some 13) _ = _
      simp only [sP]
      rfl
     refine one_ (i := 6) (N := some 17) #[tr,tr,tr,tr,tr,tr,tr,tr,tr,fa,tr,tr,tr,fa,fa] rfl rfl (one_of HT_.out (by kernel_rfl)) (by decide) (fun K hK => ?_)
     refine goes_ Try.func23 (by kernel_rfl) rfl #[.slice Ao56 y149.length co56, .int .u64 (IntKind.u64.wrap (a0_1))] (by rfl) rfl rfl gS ?_
     with_reducible refine (num_Add.calls k (fun k_ => some k_ = (.slice Ao56 y149.length co56 : Value).ownBlock) (.slice Ao56 y149.length co56) y149 (IntKind.u64.wrap (a0_1)) t152 w _ ?side1 ?side2 A4.out).mono ?_
     (case side1 => repeat (first | (with_reducible first | exact HB.out | apply below_alloc | apply pw_below_drewN | apply below_drew1 | refine below_set ?_ GE147.out) | exact HB.out))
     (case side2 => exact Kd.R_tight rfl HO151.out)
     rintro e w57 ⟨v153, rfl, ho0, hb, hkp⟩
     refine ⟨_, rfl, ?_⟩
     have n0_ := Ax (blk_kept (bf0 BK147.out) hkp (fun hs_ => (fun e_ => (Kd.R_ne HO151.out BK147.out (by decide)) e_) hs_))
     have n1_ := Ax (Kd.R_mono (ok' := fun k_ => True) ho0 (fun k_ hk_ => trivial))
     have n2_ := Ax (hb)
     clear BK147
     clear HB
     clear HO151
     have BK147 := n0_
     have HO154 := n1_
     have HB := n2_
     clear n0_ n1_ n2_
     (try clear hb)
     (try clear hkp)
     (try clear ho0)
     obtain ⟨Ao58, co58, eo58⟩ := Kd.R_slice HO154.out
     (first | subst eo58 | (injection eo58 with f1_ f2_ f3_; have f4_ := f1_.symm; have f5_ := f3_.symm; clear f1_ f2_ f3_; subst f4_; subst f5_))
     refine hK.out _ _ ⟨(blk_cell BK147.out 0).trans rfl, (blk_cell BK147.out 1).trans rfl, (blk_cell BK147.out 2).trans rfl, (blk_cell BK147.out 3).trans rfl, (blk_cell BK147.out 4).trans rfl, (blk_cell BK147.out 5).trans rfl, (blk_cell BK147.out 6).trans rfl, (blk_cell BK147.out 7).trans rfl, (blk_cell BK147.out 8).trans rfl, (blk_cell BK147.out 9).trans rfl, (blk_cell BK147.out 10).trans rfl, (blk_cell BK147.out 11).trans rfl⟩ (fun hHeld => ?_)
     clear hK K
     refine norm_ (a' := ?_) ?_ ?_
     rotate_left
     ·show Act.put _ (some 17) _ = _
      simp only [sP]
      rfl
     refine one_ (i := 9) (N := some 20) #[tr,tr,tr,tr,tr,tr,tr,tr,tr,tr,tr,tr,tr,fa,fa] rfl rfl (one_of HT_.out (by kernel_rfl)) (by decide) (fun K hK => ?_)
     refine goes_ Try.func23 (by kernel_rfl) rfl #[.slice Ao58 t152.length co58, .int .u64 a0_2] (by rfl) rfl rfl gS ?_
     with_reducible refine (num_Add.calls k (fun k_ => some k_ = (.slice Ao58 t152.length co58 : Value).ownBlock) (.slice Ao58 t152.length co58) t152 a0_2 t155 w _ ?side1 ?side2 A5.out).mono ?_
     (case side1 => repeat (first | (with_reducible first | exact HB.out | apply below_alloc | apply pw_below_drewN | apply below_drew1 | refine below_set ?_ GE147.out) | exact HB.out))
     (case side2 => exact Kd.R_tight rfl HO154.out)
     rintro e w59 ⟨v156, rfl, ho0, hb, hkp⟩
     refine ⟨_, rfl, ?_⟩
     have n0_ := Ax (blk_kept (bf0 BK147.out) hkp (fun hs_ => (fun e_ => (Kd.R_ne HO154.out BK147.out (by decide)) e_) hs_))
     have n1_ := Ax (Kd.R_mono (ok' := fun k_ => True) ho0 (fun k_ hk_ => trivial))
     have n2_ := Ax (hb)
     clear BK147
     clear HB
     clear HO154
     have BK147 := n0_
     have HO157 := n1_
     have HB := n2_
     clear n0_ n1_ n2_
     (try clear hb)
     (try clear hkp)
     (try clear ho0)
     obtain ⟨Ao60, co60, eo60⟩ := Kd.R_slice HO157.out
     (first | subst eo60 | (injection eo60 with f1_ f2_ f3_; have f4_ := f1_.symm; have f5_ := f3_.symm; clear f1_ f2_ f3_; subst f4_; subst f5_))
     refine hK.out _ _ ⟨(blk_cell BK147.out 0).trans rfl, (blk_cell BK147.out 1).trans rfl, (blk_cell BK147.out 2).trans rfl, (blk_cell BK147.out 3).trans rfl, (blk_cell BK147.out 4).trans rfl, (blk_cell BK147.out 5).trans rfl, (blk_cell BK147.out 6).trans rfl, (blk_cell BK147.out 7).trans rfl, (blk_cell BK147.out 8).trans rfl, (blk_cell BK147.out 9).trans rfl, (blk_cell BK147.out 10).trans rfl, (blk_cell BK147.out 11).trans rfl⟩ (fun hHeld => ?_)
     clear hK K
     refine norm_ (a' := ?_) ?_ ?_
     rotate_left
     ·show Act.put _ (some 20) _ = _
      simp only [sP]
      rfl
     refine one_ (i := 13) (N := some 24) #[tr,tr,tr,tr,tr,tr,tr,tr,tr,tr,tr,tr,tr,tr,fa] rfl rfl (one_of HT_.out (by kernel_rfl)) (by decide) (fun K hK => ?_)
     refine goes_ Try.func23 (by kernel_rfl) rfl #[.slice Ao60 t155.length co60, .int .u64 (IntKind.u64.wrap (a0_3))] (by rfl) rfl rfl gS ?_
     with_reducible refine (num_Add.calls k (fun k_ => some k_ = (.slice Ao60 t155.length co60 : Value).ownBlock) (.slice Ao60 t155.length co60) t155 (IntKind.u64.wrap (a0_3)) t158 w _ ?side1 ?side2 A6.out).mono ?_
     (case side1 => repeat (first | (with_reducible first | exact HB.out | apply below_alloc | apply pw_below_drewN | apply below_drew1 | refine below_set ?_ GE147.out) | exact HB.out))
     (case side2 => exact Kd.R_tight rfl HO157.out)
     rintro e w61 ⟨v159, rfl, ho0, hb, hkp⟩
     refine ⟨_, rfl, ?_⟩
     have n0_ := Ax (blk_kept (bf0 BK147.out) hkp (fun hs_ => (fun e_ => (Kd.R_ne HO157.out BK147.out (by decide)) e_) hs_))
     have n1_ := Ax (Kd.R_mono (ok' := fun k_ => True) ho0 (fun k_ hk_ => trivial))
     have n2_ := Ax (hb)
     clear BK147
     clear HB
     clear HO157
     have BK147 := n0_
     have HO160 := n1_
     have HB := n2_
     clear n0_ n1_ n2_
     (try clear hb)
     (try clear hkp)
     (try clear ho0)
     refine hK.out _ _ ⟨(blk_cell BK147.out 0).trans rfl, (blk_cell BK147.out 1).trans rfl, (blk_cell BK147.out 2).trans rfl, (blk_cell BK147.out 3).trans rfl, (blk_cell BK147.out 4).trans rfl, (blk_cell BK147.out 5).trans rfl, (blk_cell BK147.out 6).trans rfl, (blk_cell BK147.out 7).trans rfl, (blk_cell BK147.out 8).trans rfl, (blk_cell BK147.out 9).trans rfl, (blk_cell BK147.out 10).trans rfl, (blk_cell BK147.out 11).trans rfl⟩ (fun hHeld => ?_)
     clear hK K
     refine norm_ (a' := ?_) ?_ ?_
     rotate_left
     ·show Act.put _ (some 24) _ = _
      simp only [sP]
      rfl
     refine pure_ (i := 14) (N := some 5) (v := ?_) (a' := ?_) #[tr,tr,tr,tr,tr,tr,tr,tr,tr,tr,tr,tr,tr,tr,tr] rfl rfl (any_of HT_.out (by kernel_rfl)) (fun _ _ _ h => h) (Or.inl ⟨by rfl, ?_⟩) ?_ ?_
     rotate_left
     ·intro w'
      go_simp
      with_reducible rfl
     rotate_left
     ·simp only [sP]
      rfl
     refine done_ (done_of HT_.out (by kernel_rfl)) ?_
     obtain ⟨hcz62_0, hcz62_1, hcz62_2, hcz62_3, hcz62_4, hcz62_5, hcz62_6, hcz62_7, hcz62_8, hcz62_9, hcz62_10, hcz62_11, hfz62_0, hfz62_1, hfz62_2, hfz62_3, hfz62_4, hfz62_5, hfz62_6, hfz62_7, hfz62_8, hfz62_9, hfz62_10, hfz62_11⟩ := cl12 BK147
     try go_wp2
     replace HO160 := Ax (Kd.R_drew HO160.out)
     replace BK147 := Ax (blk_drew BK147.out)
     replace HB := Ax (below_drew1 HB.out)
     obtain ⟨Ao64, co64, eo64⟩ := Kd.R_slice HO160.out
     (first | subst eo64 | (injection eo64 with f1_ f2_ f3_; have f4_ := f1_.symm; have f5_ := f3_.symm; clear f1_ f2_ f3_; subst f4_; subst f5_))
     refine start_ (n := 10) (S := fun w' => w'.cell? ⟨gb147, 0, none⟩ = some (.int .u8 a0_0) ∧ w'.cell? ⟨gb147, 1, none⟩ = some (.int .i64 a0_1) ∧ w'.cell? ⟨gb147, 2, none⟩ = some (.int .u64 a0_2) ∧ w'.cell? ⟨gb147, 3, none⟩ = some (.int .i64 a0_3) ∧ w'.cell? ⟨gb147, 4, none⟩ = some (.bool a0_4) ∧ w'.cell? ⟨gb147, 5, none⟩ = some (.int .u64 a0_5) ∧ w'.cell? ⟨gb147, 6, none⟩ = some (.int .u64 a0_6) ∧ w'.cell? ⟨gb147, 7, none⟩ = some (.int .i64 a0_7) ∧ w'.cell? ⟨gb147, 8, none⟩ = some (.int .u8 a0_8) ∧ w'.cell? ⟨gb147, 9, none⟩ = some (.int .i64 a0_9) ∧ w'.cell? ⟨gb147, 10, none⟩ = some (.int .i64 a0_10) ∧ w'.cell? ⟨gb147, 11, none⟩ = some (.int .i64 a0_11)) (ds := []) #[fa,fa,fa,fa,fa,fa,fa,fa,fa,fa] (by kernel_rfl) rfl rfl ⟨(blk_cell BK147.out 0).trans rfl, (blk_cell BK147.out 1).trans rfl, (blk_cell BK147.out 2).trans rfl, (blk_cell BK147.out 3).trans rfl, (blk_cell BK147.out 4).trans rfl, (blk_cell BK147.out 5).trans rfl, (blk_cell BK147.out 6).trans rfl, (blk_cell BK147.out 7).trans rfl, (blk_cell BK147.out 8).trans rfl, (blk_cell BK147.out 9).trans rfl, (blk_cell BK147.out 10).trans rfl, (blk_cell BK147.out 11).trans rfl⟩ (fun hHeld => ?_); refine with_tabW msg_Put.tab11 msg_Put.bits11 (fun HT_ HW_ => ?_)
     generalize w61.drew = w63 at HO160 BK147 HB hHeld ⊢
     refine pure_ (i := 0) (N := some 44) (v := ?_) (a' := ?_) #[tr,fa,fa,fa,fa,fa,fa,fa,fa,fa] rfl rfl (any_of HT_.out (by kernel_rfl)) (fun _ _ _ h => h) (Or.inl ⟨by rfl, ?_⟩) ?_ ?_
     rotate_left
     ·intro w'
      go_simp
      with_reducible rfl
     rotate_left
     ·simp only [sP]
      rfl
     refine pure_ (i := 1) (N := some 45) (v := ?_) (a' := ?_) #[tr,tr,fa,fa,fa,fa,fa,fa,fa,fa] rfl rfl (any_of HT_.out (by kernel_rfl)) (fun _ _ _ h => h) (Or.inl ⟨by rfl, ?_⟩) ?_ ?_
     rotate_left
     ·intro w'
      go_simp
      with_reducible rfl
     rotate_left
     ·simp only [sP]
      rfl
     refine pure_ (i := 5) (N := some 49) (v := ?_) (a' := ?_) #[tr,tr,fa,fa,fa,tr,fa,fa,fa,fa] rfl rfl (any_of HT_.out (by kernel_rfl)) (fun _ _ _ h => h) (Or.inl ⟨by rfl, ?_⟩) ?_ ?_
     rotate_left
     ·intro w'
      go_simp
      with_reducible rfl
     rotate_left
     ·simp only [sP]
      rfl
     refine take_ (i := 2) (N := some 46) (v := ?_) (a' := ?_) #[tr,tr,tr,fa,fa,tr,fa,fa,fa,fa] rfl rfl (take_ofW HT_.out HW_.out (by kernel_rfl)) (fun _ _ _ h => h) (Or.inl ⟨by rfl, ?_⟩) hHeld ?_ ?_
     rotate_left
     ·rintro w' ⟨s0, s1, s2, s3, s4, s5, s6, s7, s8, s9, s10, s11⟩
      go_simp
      with_reducible rfl
     rotate_left
     ·simp only [sP]
      rfl
     refine pure_ (i := 3) (N := some 47) (v := ?_) (a' := ?_) #[tr,tr,tr,tr,fa,tr,fa,fa,fa,fa] rfl rfl (any_of HT_.out (by kernel_rfl)) (fun _ _ _ h => h) (Or.inl ⟨by rfl, ?_⟩) ?_ ?_
     rotate_left
     ·intro w'
      go_simp
      with_reducible rfl
     rotate_left
     ·simp only [sP]
      rfl
     refine take_ (i := 6) (N := some 50) (v := ?_) (a' := ?_) #[tr,tr,tr,tr,fa,tr,tr,fa,fa,fa] rfl rfl (take_ofW HT_.out HW_.out (by kernel_rfl)) (fun _ _ _ h => h) (Or.inl ⟨by rfl, ?_⟩) hHeld ?_ ?_
     rotate_left
     ·rintro w' ⟨s0, s1, s2, s3, s4, s5, s6, s7, s8, s9, s10, s11⟩
      go_simp
      with_reducible rfl
     rotate_left
     ·simp only [sP]
      rfl
     refine pure_ (i := 7) (N := some 51) (v := ?_) (a' := ?_) #[tr,tr,tr,tr,fa,tr,tr,tr,fa,fa] rfl rfl (any_of HT_.out (by kernel_rfl)) (fun _ _ _ h => h) (Or.inl ⟨by rfl, ?_⟩) ?_ ?_
     rotate_left
     ·intro w'
      go_simp
      with_reducible rfl
     rotate_left
     ·simp only [sP]
      rfl
     refine one_ (i := 4) (N := some 48) #[tr,tr,tr,tr,tr,tr,tr,tr,fa,fa] rfl rfl (one_of HT_.out (by kernel_rfl)) (by decide) (fun K hK => ?_)
     refine goes_ Try.func23 (by kernel_rfl) rfl #[.slice Ao64 t158.length co64, .int .u64 (IntKind.u64.wrap (a0_10))] (by rfl) rfl rfl gS ?_
     with_reducible refine (num_Add.calls k (fun k_ => some k_ = (.slice Ao64 t158.length co64 : Value).ownBlock) (.slice Ao64 t158.length co64) t158 (IntKind.u64.wrap (a0_10)) t170 w _ ?side1 ?side2 A48.out).mono ?_
     (case side1 => repeat (first | (with_reducible first | exact HB.out | apply below_alloc | apply pw_below_drewN | apply below_drew1 | refine below_set ?_ GE147.out) | exact HB.out))
     (case side2 => exact Kd.R_tight rfl HO160.out)
     rintro e w65 ⟨v171, rfl, ho0, hb, hkp⟩
     refine ⟨_, rfl, ?_⟩
     have n0_ := Ax (blk_kept (bf0 BK147.out) hkp (fun hs_ => (fun e_ => (Kd.R_ne HO160.out BK147.out (by decide)) e_) hs_))
     have n1_ := Ax (Kd.R_mono (ok' := fun k_ => True) ho0 (fun k_ hk_ => trivial))
     have n2_ := Ax (hb)
     clear BK147
     clear HB
     clear HO160
     have BK147 := n0_
     have HO172 := n1_
     have HB := n2_
     clear n0_ n1_ n2_
     (try clear hb)
     (try clear hkp)
     (try clear ho0)
     obtain ⟨Ao66, co66, eo66⟩ := Kd.R_slice HO172.out
     (first | subst eo66 | (injection eo66 with f1_ f2_ f3_; have f4_ := f1_.symm; have f5_ := f3_.symm; clear f1_ f2_ f3_; subst f4_; subst f5_))
     refine hK.out _ _ ⟨(blk_cell BK147.out 0).trans rfl, (blk_cell BK147.out 1).trans rfl, (blk_cell BK147.out 2).trans rfl, (blk_cell BK147.out 3).trans rfl, (blk_cell BK147.out 4).trans rfl, (blk_cell BK147.out 5).trans rfl, (blk_cell BK147.out 6).trans rfl, (blk_cell BK147.out 7).trans rfl, (blk_cell BK147.out 8).trans rfl, (blk_cell BK147.out 9).trans rfl, (blk_cell BK147.out 10).trans rfl, (blk_cell BK147.out 11).trans rfl⟩ (fun hHeld => ?_)
     clear hK K
     refine norm_ (a' := ?_) ?_ ?_
     rotate_left
     ·show Act.put _ (some 48) _ = _
      simp only [sP]
      rfl
     refine one_ (i := 8) (N := some 52) #[tr,tr,tr,tr,tr,tr,tr,tr,tr,fa] rfl rfl (one_of HT_.out (by kernel_rfl)) (by decide) (fun K hK => ?_)
     refine goes_ Try.func23 (by kernel_rfl) rfl #[.slice Ao66 t170.length co66, .int .u64 (IntKind.u64.wrap (a0_11))] (by rfl) rfl rfl gS ?_
     with_reducible refine (num_Add.calls k (fun k_ => some k_ = (.slice Ao66 t170.length co66 : Value).ownBlock) (.slice Ao66 t170.length co66) t170 (IntKind.u64.wrap (a0_11)) t173 w _ ?side1 ?side2 A49.out).mono ?_
     (case side1 => repeat (first | (with_reducible first | exact HB.out | apply below_alloc | apply pw_below_drewN | apply below_drew1 | refine below_set ?_ GE147.out) | exact HB.out))
     (case side2 => exact Kd.R_tight rfl HO172.out)
     rintro e w67 ⟨v174, rfl, ho0, hb, hkp⟩
     refine ⟨_, rfl, ?_⟩
     have n0_ := Ax (blk_kept (bf0 BK147.out) hkp (fun hs_ => (fun e_ => (Kd.R_ne HO172.out BK147.out (by decide)) e_) hs_))
     have n1_ := Ax (Kd.R_mono (ok' := fun k_ => True) ho0 (fun k_ hk_ => trivial))
     have n2_ := Ax (hb)
     clear BK147
     clear HB
     clear HO172
     have BK147 := n0_
     have HO175 := n1_
     have HB := n2_
     clear n0_ n1_ n2_
     (try clear hb)
     (try clear hkp)
     (try clear ho0)
     refine hK.out _ _ ⟨(blk_cell BK147.out 0).trans rfl, (blk_cell BK147.out 1).trans rfl, (blk_cell BK147.out 2).trans rfl, (blk_cell BK147.out 3).trans rfl, (blk_cell BK147.out 4).trans rfl, (blk_cell BK147.out 5).trans rfl, (blk_cell BK147.out 6).trans rfl, (blk_cell BK147.out 7).trans rfl, (blk_cell BK147.out 8).trans rfl, (blk_cell BK147.out 9).trans rfl, (blk_cell BK147.out 10).trans rfl, (blk_cell BK147.out 11).trans rfl⟩ (fun hHeld => ?_)
     clear hK K
     refine norm_ (a' := ?_) ?_ ?_
     rotate_left
     ·show Act.put _ (some 52) _ = _
      simp only [sP]
      rfl
     refine pure_ (i := 9) (N := some 5) (v := ?_) (a' := ?_) #[tr,tr,tr,tr,tr,tr,tr,tr,tr,tr] rfl rfl (any_of HT_.out (by kernel_rfl)) (fun _ _ _ h => h) (Or.inl ⟨by rfl, ?_⟩) ?_ ?_
     rotate_left
     ·intro w'
      go_simp
      with_reducible rfl
     rotate_left
     ·simp only [sP]
      rfl
     refine done_ (done_of HT_.out (by kernel_rfl)) ?_
     have hcv68 := own_string (P := Try.prog) Try.underlying49 Try.underlying5 Try.underlying9 (Kd.own_of_R HO175.out)
     try go_wp2
     go_ret2
     exact ⟨eS, bw1 HB.out GE147.out⟩
    ·rw [if_neg c47] at H
     have c47b0 : (a0_0 == 5) = false := beq_eq_false_iff_ne.mpr c47
     have c47b1 : (a0_0 != 5) = true := bne_iff_ne.mpr c47
     by_cases c69 : a0_0 = 6
     ·rw [if_pos c69] at H
      have c69b0 : (a0_0 == 6) = true := beq_iff_eq.mpr c69
      have c69b1 : (a0_0 != 6) = false := bne_eq_false_iff_eq.mpr c69
      clear c69
      replace H := Option.bind_eq_some_iff.mp H
      obtain ⟨t176, A700, H⟩ := H
      replace H : (some (strOfNums t176, 0)) = some (r1, r2) := H
      have A70 := Ax A700
      clear A700
      simp only [Option.some.injEq, Prod.mk.injEq] at H
      obtain ⟨rfl, rfl⟩ := H
      go_enter Try.func8, Try.ntmps8
      try go_wp2_with (first | ((with_reducible refine gate_dst (N := 1) rfl ?_); refine box_event ?hg (N := 1) ?hd (cs := #[.int .u8 a0_0, .int .i64 a0_1, .int .u64 a0_2, .int .i64 a0_3, .bool a0_4, .int .u64 a0_5, .int .u64 a0_6, .int .i64 a0_7, .int .u8 a0_8, .int .i64 a0_9, .int .i64 a0_10, .int .i64 a0_11]) (t := 32) ?hr ?_; (case hd => rfl); (case hg => rfl); (case hr => first | (go_simp; done) | (go_simp; rfl)); intro gb147 hg w71 hbox hb; have n0_ := Bs0 HB hb; have n1_ := Ax (hbox); have n2_ := Gw0 HB hg; have n3_ := Gw0 HB hg; clear HB; have HB := n0_; have BK147 := n1_; have GW147 := n2_; have GE147 := n3_; clear n0_ n1_ n2_ n3_; clear hb hbox hg; obtain ⟨hcz72_0, hcz72_1, hcz72_2, hcz72_3, hcz72_4, hcz72_5, hcz72_6, hcz72_7, hcz72_8, hcz72_9, hcz72_10, hcz72_11, hfz72_0, hfz72_1, hfz72_2, hfz72_3, hfz72_4, hfz72_5, hfz72_6, hfz72_7, hfz72_8, hfz72_9, hfz72_10, hfz72_11⟩ := cl12 BK147) | ((with_reducible refine gate_callee (f := 13) rfl ?_); refine goesL_ (some 7) rfl rfl Try.func13 (by kernel_rfl) rfl #[.agg #[.int .u8 a0_0, .int .i64 a0_1, .int .u64 a0_2, .int .i64 a0_3, .bool a0_4, .int .u64 a0_5, .int .u64 a0_6, .int .i64 a0_7, .int .u8 a0_8, .int .i64 a0_9, .int .i64 a0_10, .int .i64 a0_11]] rfl gS ?_; (with_reducible refine (msg_Check.calls k a0_0 a0_1 a0_2 a0_3 a0_4 a0_5 a0_6 a0_7 a0_8 a0_9 a0_10 a0_11 t148 _ A2.out).mono ?_); rintro e w73 ⟨rfl, hb⟩; refine ⟨_, rfl, ?_⟩; replace BK147 := Bx0 BK147 hb; replace HB := Bs1 HB hb GE147.out; (try clear hb)))
      replace BK147 := Ax (blk_drew BK147.out)
      replace HB := Ax (below_drew1 HB.out)
      refine start_ (n := 15) (S := fun w' => w'.cell? ⟨gb147, 0, none⟩ = some (.int .u8 a0_0) ∧ w'.cell? ⟨gb147, 1, none⟩ = some (.int .i64 a0_1) ∧ w'.cell? ⟨gb147, 2, none⟩ = some (.int .u64 a0_2) ∧ w'.cell? ⟨gb147, 3, none⟩ = some (.int .i64 a0_3) ∧ w'.cell? ⟨gb147, 4, none⟩ = some (.bool a0_4) ∧ w'.cell? ⟨gb147, 5, none⟩ = some (.int .u64 a0_5) ∧ w'.cell? ⟨gb147, 6, none⟩ = some (.int .u64 a0_6) ∧ w'.cell? ⟨gb147, 7, none⟩ = some (.int .i64 a0_7) ∧ w'.cell? ⟨gb147, 8, none⟩ = some (.int .u8 a0_8) ∧ w'.cell? ⟨gb147, 9, none⟩ = some (.int .i64 a0_9) ∧ w'.cell? ⟨gb147, 10, none⟩ = some (.int .i64 a0_10) ∧ w'.cell? ⟨gb147, 11, none⟩ = some (.int .i64 a0_11)) (ds := []) #[fa,fa,fa,fa,fa,fa,fa,fa,fa,fa,fa,fa,fa,fa,fa] (by kernel_rfl) rfl rfl ⟨(blk_cell BK147.out 0).trans rfl, (blk_cell BK147.out 1).trans rfl, (blk_cell BK147.out 2).trans rfl, (blk_cell BK147.out 3).trans rfl, (blk_cell BK147.out 4).trans rfl, (blk_cell BK147.out 5).trans rfl, (blk_cell BK147.out 6).trans rfl, (blk_cell BK147.out 7).trans rfl, (blk_cell BK147.out 8).trans rfl, (blk_cell BK147.out 9).trans rfl, (blk_cell BK147.out 10).trans rfl, (blk_cell BK147.out 11).trans rfl⟩ (fun hHeld => ?_); refine with_tabW msg_Put.tab4 msg_Put.bits4 (fun HT_ HW_ => ?_)
      generalize w73.drew = w74 at BK147 HB hHeld ⊢
      refine pure_ (i := 0) (N := some 11) (v := ?_) (a' := ?_) #[tr,fa,fa,fa,fa,fa,fa,fa,fa,fa,fa,fa,fa,fa,fa] rfl rfl (any_of HT_.out (by kernel_rfl)) (fun _ _ _ h => h) (Or.inl ⟨by rfl, ?_⟩) ?_ ?_
      rotate_left
      ·intro w'
       go_simp
       with_reducible rfl
      rotate_left
      ·simp only [sP]
       rfl
      refine pure_ (i := 3) (N := some 14) (v := ?_) (a' := ?_) #[tr,fa,fa,tr,fa,fa,fa,fa,fa,fa,fa,fa,fa,fa,fa] rfl rfl (any_of HT_.out (by kernel_rfl)) (fun _ _ _ h => h) (Or.inl ⟨by rfl, ?_⟩) ?_ ?_
      rotate_left
      ·intro w'
       go_simp
       with_reducible rfl
      rotate_left
      ·simp only [sP]
       rfl
      refine pure_ (i := 7) (N := some 18) (v := ?_) (a' := ?_) #[tr,fa,fa,tr,fa,fa,fa,tr,fa,fa,fa,fa,fa,fa,fa] rfl rfl (any_of HT_.out (by kernel_rfl)) (fun _ _ _ h => h) (Or.inl ⟨by rfl, ?_⟩) ?_ ?_
      rotate_left
      ·intro w'
       go_simp
       with_reducible rfl
      rotate_left
      ·simp only [sP]
       rfl
      refine pure_ (i := 10) (N := some 21) (v := ?_) (a' := ?_) #[tr,fa,fa,tr,fa,fa,fa,tr,fa,fa,tr,fa,fa,fa,fa] rfl rfl (any_of HT_.out (by kernel_rfl)) (fun _ _ _ h => h) (Or.inl ⟨by rfl, ?_⟩) ?_ ?_
      rotate_left
      ·intro w'
       go_simp
       with_reducible rfl
      rotate_left
      ·simp only [sP]
       rfl
      refine take_ (i := 1) (N := some 12) (v := ?_) (a' := ?_) #[tr,tr,fa,tr,fa,fa,fa,tr,fa,fa,tr,fa,fa,fa,fa] rfl rfl (take_ofW HT_.out HW_.out (by kernel_rfl)) (fun _ _ _ h => h) (Or.inl ⟨by rfl, ?_⟩) hHeld ?_ ?_
      rotate_left
      ·rintro w' ⟨s0, s1, s2, s3, s4, s5, s6, s7, s8, s9, s10, s11⟩
       go_simp
       with_reducible rfl
      rotate_left
      ·simp only [sP]
       rfl
      refine take_ (i := 4) (N := some 15) (v := ?_) (a' := ?_) #[tr,tr,fa,tr,tr,fa,fa,tr,fa,fa,tr,fa,fa,fa,fa] rfl rfl (take_ofW HT_.out HW_.out (by kernel_rfl)) (fun _ _ _ h => h) (Or.inl ⟨by rfl, ?_⟩) hHeld ?_ ?_
      rotate_left
      ·rintro w' ⟨s0, s1, s2, s3, s4, s5, s6, s7, s8, s9, s10, s11⟩
       go_simp
       with_reducible rfl
      rotate_left
      ·simp only [sP]
       rfl
      refine pure_ (i := 5) (N := some 16) (v := ?_) (a' := ?_) #[tr,tr,fa,tr,tr,tr,fa,tr,fa,fa,tr,fa,fa,fa,fa] rfl rfl (any_of HT_.out (by kernel_rfl)) (fun _ _ _ h => h) (Or.inl ⟨by rfl, ?_⟩) ?_ ?_
      rotate_left
      ·intro w'
       go_simp
       with_reducible rfl
      rotate_left
      ·simp only [sP]
       rfl
      refine take_ (i := 8) (N := some 19) (v := ?_) (a' := ?_) #[tr,tr,fa,tr,tr,tr,fa,tr,tr,fa,tr,fa,fa,fa,fa] rfl rfl (take_ofW HT_.out HW_.out (by kernel_rfl)) (fun _ _ _ h => h) (Or.inl ⟨by rfl, ?_⟩) hHeld ?_ ?_
      rotate_left
      ·rintro w' ⟨s0, s1, s2, s3, s4, s5, s6, s7, s8, s9, s10, s11⟩
       go_simp
       with_reducible rfl
      rotate_left
      ·simp only [sP]
       rfl
      refine take_ (i := 11) (N := some 22) (v := ?_) (a' := ?_) #[tr,tr,fa,tr,tr,tr,fa,tr,tr,fa,tr,tr,fa,fa,fa] rfl rfl (take_ofW HT_.out HW_.out (by kernel_rfl)) (fun _ _ _ h => h) (Or.inl ⟨by rfl, ?_⟩) hHeld ?_ ?_
      rotate_left
      ·rintro w' ⟨s0, s1, s2, s3, s4, s5, s6, s7, s8, s9, s10, s11⟩
       go_simp
       with_reducible rfl
      rotate_left
      ·simp only [sP]
       rfl
      refine pure_ (i := 12) (N := some 23) (v := ?_) (a' := ?_) #[tr,tr,fa,tr,tr,tr,fa,tr,tr,fa,tr,tr,tr,fa,fa] rfl rfl (any_of HT_.out (by kernel_rfl)) (fun _ _ _ h => h) (Or.inl ⟨by rfl, ?_⟩) ?_ ?_
      rotate_left
      ·intro w'
       go_simp
       with_reducible rfl
      rotate_left
      ·simp only [sP]
       rfl
      refine one_ (i := 2) (N := some 13) #[tr,tr,tr,tr,tr,tr,fa,tr,tr,fa,tr,tr,tr,fa,fa] rfl rfl (one_of HT_.out (by kernel_rfl)) (by decide) (fun K hK => ?_)
      refine Kd.R_lit_step (Kd.int .u8) _ 5 ?hg (N := 13) ?hd (xs := ([a0_0] : List Int)) (inner := [.int .u8 a0_0]) (ok := fun _ => True) (okp := fun _ => True) ?hr ?hp (fun _ hk => hk) trivial (Below.refl _ _) (Nat.le_refl _) (by simp) ?_; (case hd => rfl); (case hg => rfl); (case hr => first | (go_simp; done) | (go_simp; rfl)); (case hp => exact (Reps.one (show Kd.M (Kd.int .u8) _ _ _ a0_0 [.int .u8 a0_0] from rfl) (Reps.none _ _)))
      intro v150 w75 ho76 hb hg_ hnew_
      clear hg_ hnew_
      (first | rw [← Ny149.out] at ho76 | (simp only [Int.reduceToNat] at ho76; rw [← Ny149.out] at ho76))
      have HO151 := Ax (Kd.R_lower ho76 (below_size (bw1 HB.out GE147.out)))
      replace BK147 := Bx0 BK147 hb
      replace HB := Bs1 HB hb GE147.out
      clear hb ho76
      obtain ⟨Ao77, co77, eo77⟩ := Kd.R_slice HO151.out
      (first | subst eo77 | (injection eo77 with f1_ f2_ f3_; have f4_ := f1_.symm; have f5_ := f3_.symm; clear f1_ f2_ f3_; subst f4_; subst f5_))
      refine hK.out _ _ ⟨(blk_cell BK147.out 0).trans rfl, (blk_cell BK147.out 1).trans rfl, (blk_cell BK147.out 2).trans rfl, (blk_cell BK147.out 3).trans rfl, (blk_cell BK147.out 4).trans rfl, (blk_cell BK147.out 5).trans rfl, (blk_cell BK147.out 6).trans rfl, (blk_cell BK147.out 7).trans rfl, (blk_cell BK147.out 8).trans rfl, (blk_cell BK147.out 9).trans rfl, (blk_cell BK147.out 10).trans rfl, (blk_cell BK147.out 11).trans rfl⟩ (fun hHeld => ?_)
      clear hK K
      refine norm_ (a' := ?_) ?_ ?_
      rotate_left
      ·show Act.put _ (some 13) _ = _
       simp only [sP]
       rfl
      refine one_ (i := 6) (N := some 17) #[tr,tr,tr,tr,tr,tr,tr,tr,tr,fa,tr,tr,tr,fa,fa] rfl rfl (one_of HT_.out (by kernel_rfl)) (by decide) (fun K hK => ?_)
      refine goes_ Try.func23 (by kernel_rfl) rfl #[.slice Ao77 y149.length co77, .int .u64 (IntKind.u64.wrap (a0_1))] (by rfl) rfl rfl gS ?_
      with_reducible refine (num_Add.calls k (fun k_ => some k_ = (.slice Ao77 y149.length co77 : Value).ownBlock) (.slice Ao77 y149.length co77) y149 (IntKind.u64.wrap (a0_1)) t152 w _ ?side1 ?side2 A4.out).mono ?_
      (case side1 => repeat (first | (with_reducible first | exact HB.out | apply below_alloc | apply pw_below_drewN | apply below_drew1 | refine below_set ?_ GE147.out) | exact HB.out))
      (case side2 => exact Kd.R_tight rfl HO151.out)
      rintro e w78 ⟨v153, rfl, ho0, hb, hkp⟩
      refine ⟨_, rfl, ?_⟩
      have n0_ := Ax (blk_kept (bf0 BK147.out) hkp (fun hs_ => (fun e_ => (Kd.R_ne HO151.out BK147.out (by decide)) e_) hs_))
      have n1_ := Ax (Kd.R_mono (ok' := fun k_ => True) ho0 (fun k_ hk_ => trivial))
      have n2_ := Ax (hb)
      clear BK147
      clear HB
      clear HO151
      have BK147 := n0_
      have HO154 := n1_
      have HB := n2_
      clear n0_ n1_ n2_
      (try clear hb)
      (try clear hkp)
      (try clear ho0)
      obtain ⟨Ao79, co79, eo79⟩ := Kd.R_slice HO154.out
      (first | subst eo79 | (injection eo79 with f1_ f2_ f3_; have f4_ := f1_.symm; have f5_ := f3_.symm; clear f1_ f2_ f3_; subst f4_; subst f5_))
      refine hK.out _ _ ⟨(blk_cell BK147.out 0).trans rfl, (blk_cell BK147.out 1).trans rfl, (blk_cell BK147.out 2).trans rfl, (blk_cell BK147.out 3).trans rfl, (blk_cell BK147.out 4).trans rfl, (blk_cell BK147.out 5).trans rfl, (blk_cell BK147.out 6).trans rfl, (blk_cell BK147.out 7).trans rfl, (blk_cell BK147.out 8).trans rfl, (blk_cell BK147.out 9).trans rfl, (blk_cell BK147.out 10).trans rfl, (blk_cell BK147.out 11).trans rfl⟩ (fun hHeld => ?_)
      clear hK K
      refine norm_ (a' := ?_) ?_ ?_
      rotate_left
      ·show Act.put _ (some 17) _ = _
       simp only [sP]
       rfl
      refine one_ (i := 9) (N := some 20) #[tr,tr,tr,tr,tr,tr,tr,tr,tr,tr,tr,tr,tr,fa,fa] rfl rfl (one_of HT_.out (by kernel_rfl)) (by decide) (fun K hK => ?_)
      refine goes_ Try.func23 (by kernel_rfl) rfl #[.slice Ao79 t152.length co79, .int .u64 a0_2] (by rfl) rfl rfl gS ?_
      with_reducible refine (num_Add.calls k (fun k_ => some k_ = (.slice Ao79 t152.length co79 : Value).ownBlock) (.slice Ao79 t152.length co79) t152 a0_2 t155 w _ ?side1 ?side2 A5.out).mono ?_
      (case side1 => repeat (first | (with_reducible first | exact HB.out | apply below_alloc | apply pw_below_drewN | apply below_drew1 | refine below_set ?_ GE147.out) | exact HB.out))
      (case side2 => exact Kd.R_tight rfl HO154.out)
      rintro e w80 ⟨v156, rfl, ho0, hb, hkp⟩
      refine ⟨_, rfl, ?_⟩
      have n0_ := Ax (blk_kept (bf0 BK147.out) hkp (fun hs_ => (fun e_ => (Kd.R_ne HO154.out BK147.out (by decide)) e_) hs_))
      have n1_ := Ax (Kd.R_mono (ok' := fun k_ => True) ho0 (fun k_ hk_ => trivial))
      have n2_ := Ax (hb)
      clear BK147
      clear HB
      clear HO154
      have BK147 := n0_
      have HO157 := n1_
      have HB := n2_
      clear n0_ n1_ n2_
      (try clear hb)
      (try clear hkp)
      (try clear ho0)
      obtain ⟨Ao81, co81, eo81⟩ := Kd.R_slice HO157.out
      (first | subst eo81 | (injection eo81 with f1_ f2_ f3_; have f4_ := f1_.symm; have f5_ := f3_.symm; clear f1_ f2_ f3_; subst f4_; subst f5_))
      refine hK.out _ _ ⟨(blk_cell BK147.out 0).trans rfl, (blk_cell BK147.out 1).trans rfl, (blk_cell BK147.out 2).trans rfl, (blk_cell BK147.out 3).trans rfl, (blk_cell BK147.out 4).trans rfl, (blk_cell BK147.out 5).trans rfl, (blk_cell BK147.out 6).trans rfl, (blk_cell BK147.out 7).trans rfl, (blk_cell BK147.out 8).trans rfl, (blk_cell BK147.out 9).trans rfl, (blk_cell BK147.out 10).trans rfl, (blk_cell BK147.out 11).trans rfl⟩ (fun hHeld => ?_)
      clear hK K
      refine norm_ (a' := ?_) ?_ ?_
      rotate_left
      ·show Act.put _ (some 20) _ = _
       simp only [sP]
       rfl
      refine one_ (i := 13) (N := some 24) #[tr,tr,tr,tr,tr,tr,tr,tr,tr,tr,tr,tr,tr,tr,fa] rfl rfl (one_of HT_.out (by kernel_rfl)) (by decide) (fun K hK => ?_)
      refine goes_ Try.func23 (by kernel_rfl) rfl #[.slice Ao81 t155.length co81, .int .u64 (IntKind.u64.wrap (a0_3))] (by rfl) rfl rfl gS ?_
      with_reducible refine (num_Add.calls k (fun k_ => some k_ = (.slice Ao81 t155.length co81 : Value).ownBlock) (.slice Ao81 t155.length co81) t155 (IntKind.u64.wrap (a0_3)) t158 w _ ?side1 ?side2 A6.out).mono ?_
      (case side1 => repeat (first | (with_reducible first | exact HB.out | apply below_alloc | apply pw_below_drewN | apply below_drew1 | refine below_set ?_ GE147.out) | exact HB.out))
      (case side2 => exact Kd.R_tight rfl HO157.out)
      rintro e w82 ⟨v159, rfl, ho0, hb, hkp⟩
      refine ⟨_, rfl, ?_⟩
      have n0_ := Ax (blk_kept (bf0 BK147.out) hkp (fun hs_ => (fun e_ => (Kd.R_ne HO157.out BK147.out (by decide)) e_) hs_))
      have n1_ := Ax (Kd.R_mono (ok' := fun k_ => True) ho0 (fun k_ hk_ => trivial))
      have n2_ := Ax (hb)
      clear BK147
      clear HB
      clear HO157
      have BK147 := n0_
      have HO160 := n1_
      have HB := n2_
      clear n0_ n1_ n2_
      (try clear hb)
      (try clear hkp)
      (try clear ho0)
      refine hK.out _ _ ⟨(blk_cell BK147.out 0).trans rfl, (blk_cell BK147.out 1).trans rfl, (blk_cell BK147.out 2).trans rfl, (blk_cell BK147.out 3).trans rfl, (blk_cell BK147.out 4).trans rfl, (blk_cell BK147.out 5).trans rfl, (blk_cell BK147.out 6).trans rfl, (blk_cell BK147.out 7).trans rfl, (blk_cell BK147.out 8).trans rfl, (blk_cell BK147.out 9).trans rfl, (blk_cell BK147.out 10).trans rfl, (blk_cell BK147.out 11).trans rfl⟩ (fun hHeld => ?_)
      clear hK K
      refine norm_ (a' := ?_) ?_ ?_
      rotate_left
      ·show Act.put _ (some 24) _ = _
       simp only [sP]
       rfl
      refine pure_ (i := 14) (N := some 5) (v := ?_) (a' := ?_) #[tr,tr,tr,tr,tr,tr,tr,tr,tr,tr,tr,tr,tr,tr,tr] rfl rfl (any_of HT_.out (by kernel_rfl)) (fun _ _ _ h => h) (Or.inl ⟨by rfl, ?_⟩) ?_ ?_
      rotate_left
      ·intro w'
       go_simp
       with_reducible rfl
      rotate_left
      ·simp only [sP]
       rfl
      refine done_ (done_of HT_.out (by kernel_rfl)) ?_
      obtain ⟨hcz83_0, hcz83_1, hcz83_2, hcz83_3, hcz83_4, hcz83_5, hcz83_6, hcz83_7, hcz83_8, hcz83_9, hcz83_10, hcz83_11, hfz83_0, hfz83_1, hfz83_2, hfz83_3, hfz83_4, hfz83_5, hfz83_6, hfz83_7, hfz83_8, hfz83_9, hfz83_10, hfz83_11⟩ := cl12 BK147
      obtain ⟨Ao84, co84, eo84⟩ := Kd.R_slice HO160.out
      subst eo84
      try go_wp2_with (first | ((with_reducible refine gate_callee (f := 23) rfl ?_); refine goesL_ (some 59) rfl rfl Try.func23 (by kernel_rfl) rfl #[.slice Ao84 t158.length co84, .int .u64 (IntKind.u64.wrap (a0_10))] rfl gS ?_; (with_reducible refine (num_Add.calls k (fun k_ => some k_ = (.slice Ao84 t158.length co84 : Value).ownBlock) (.slice Ao84 t158.length co84) t158 (IntKind.u64.wrap (a0_10)) t176 w _ ?side1 ?side2 A70.out).mono ?_); (case side1 => repeat (first | (with_reducible first | exact HB.out | apply below_alloc | apply pw_below_drewN | apply below_drew1 | refine below_set ?_ GE147.out) | exact HB.out)); (case side2 => exact Kd.R_tight rfl HO160.out); rintro e w85 ⟨v177, rfl, ho0, hb, hkp⟩; refine ⟨_, rfl, ?_⟩; have n0_ := Ax (blk_kept (bf0 BK147.out) hkp (fun hs_ => (fun e_ => (Kd.R_ne HO160.out BK147.out (by decide)) e_) hs_)); have n1_ := Ax (Kd.R_mono (ok' := fun k_ => True) ho0 (fun k_ hk_ => trivial)); have n2_ := Ax (hb); clear BK147; clear HB; clear HO160; have BK147 := n0_; have HO178 := n1_; have HB := n2_; clear n0_ n1_ n2_; (try clear hb); (try clear hkp); (try clear ho0); have hcv86 := own_string (P := Try.prog) Try.underlying49 Try.underlying5 Try.underlying9 (Kd.own_of_R HO178.out)))
      go_ret2
      exact ⟨eS, bw1 HB.out GE147.out⟩
     ·rw [if_neg c69] at H
      have c69b0 : (a0_0 == 6) = false := beq_eq_false_iff_ne.mpr c69
      have c69b1 : (a0_0 != 6) = true := bne_iff_ne.mpr c69
      simp only [Option.some.injEq, Prod.mk.injEq] at H
      obtain ⟨rfl, rfl⟩ := H
      go_enter Try.func8, Try.ntmps8
      try go_wp2_with (first | ((with_reducible refine gate_dst (N := 1) rfl ?_); refine box_event ?hg (N := 1) ?hd (cs := #[.int .u8 a0_0, .int .i64 a0_1, .int .u64 a0_2, .int .i64 a0_3, .bool a0_4, .int .u64 a0_5, .int .u64 a0_6, .int .i64 a0_7, .int .u8 a0_8, .int .i64 a0_9, .int .i64 a0_10, .int .i64 a0_11]) (t := 32) ?hr ?_; (case hd => rfl); (case hg => rfl); (case hr => first | (go_simp; done) | (go_simp; rfl)); intro gb147 hg w87 hbox hb; have n0_ := Bs0 HB hb; have n1_ := Ax (hbox); have n2_ := Gw0 HB hg; have n3_ := Gw0 HB hg; clear HB; have HB := n0_; have BK147 := n1_; have GW147 := n2_; have GE147 := n3_; clear n0_ n1_ n2_ n3_; clear hb hbox hg; obtain ⟨hcz88_0, hcz88_1, hcz88_2, hcz88_3, hcz88_4, hcz88_5, hcz88_6, hcz88_7, hcz88_8, hcz88_9, hcz88_10, hcz88_11, hfz88_0, hfz88_1, hfz88_2, hfz88_3, hfz88_4, hfz88_5, hfz88_6, hfz88_7, hfz88_8, hfz88_9, hfz88_10, hfz88_11⟩ := cl12 BK147) | ((with_reducible refine gate_callee (f := 13) rfl ?_); refine goesL_ (some 7) rfl rfl Try.func13 (by kernel_rfl) rfl #[.agg #[.int .u8 a0_0, .int .i64 a0_1, .int .u64 a0_2, .int .i64 a0_3, .bool a0_4, .int .u64 a0_5, .int .u64 a0_6, .int .i64 a0_7, .int .u8 a0_8, .int .i64 a0_9, .int .i64 a0_10, .int .i64 a0_11]] rfl gS ?_; (with_reducible refine (msg_Check.calls k a0_0 a0_1 a0_2 a0_3 a0_4 a0_5 a0_6 a0_7 a0_8 a0_9 a0_10 a0_11 t148 _ A2.out).mono ?_); rintro e w89 ⟨rfl, hb⟩; refine ⟨_, rfl, ?_⟩; replace BK147 := Bx0 BK147 hb; replace HB := Bs1 HB hb GE147.out; (try clear hb)))
      replace BK147 := Ax (blk_drew BK147.out)
      replace HB := Ax (below_drew1 HB.out)
      refine start_ (n := 15) (S := fun w' => w'.cell? ⟨gb147, 0, none⟩ = some (.int .u8 a0_0) ∧ w'.cell? ⟨gb147, 1, none⟩ = some (.int .i64 a0_1) ∧ w'.cell? ⟨gb147, 2, none⟩ = some (.int .u64 a0_2) ∧ w'.cell? ⟨gb147, 3, none⟩ = some (.int .i64 a0_3) ∧ w'.cell? ⟨gb147, 4, none⟩ = some (.bool a0_4) ∧ w'.cell? ⟨gb147, 5, none⟩ = some (.int .u64 a0_5) ∧ w'.cell? ⟨gb147, 6, none⟩ = some (.int .u64 a0_6) ∧ w'.cell? ⟨gb147, 7, none⟩ = some (.int .i64 a0_7) ∧ w'.cell? ⟨gb147, 8, none⟩ = some (.int .u8 a0_8) ∧ w'.cell? ⟨gb147, 9, none⟩ = some (.int .i64 a0_9) ∧ w'.cell? ⟨gb147, 10, none⟩ = some (.int .i64 a0_10) ∧ w'.cell? ⟨gb147, 11, none⟩ = some (.int .i64 a0_11)) (ds := []) #[fa,fa,fa,fa,fa,fa,fa,fa,fa,fa,fa,fa,fa,fa,fa] (by kernel_rfl) rfl rfl ⟨(blk_cell BK147.out 0).trans rfl, (blk_cell BK147.out 1).trans rfl, (blk_cell BK147.out 2).trans rfl, (blk_cell BK147.out 3).trans rfl, (blk_cell BK147.out 4).trans rfl, (blk_cell BK147.out 5).trans rfl, (blk_cell BK147.out 6).trans rfl, (blk_cell BK147.out 7).trans rfl, (blk_cell BK147.out 8).trans rfl, (blk_cell BK147.out 9).trans rfl, (blk_cell BK147.out 10).trans rfl, (blk_cell BK147.out 11).trans rfl⟩ (fun hHeld => ?_); refine with_tabW msg_Put.tab4 msg_Put.bits4 (fun HT_ HW_ => ?_)
      generalize w89.drew = w90 at BK147 HB hHeld ⊢
      refine pure_ (i := 0) (N := some 11) (v := ?_) (a' := ?_) #[tr,fa,fa,fa,fa,fa,fa,fa,fa,fa,fa,fa,fa,fa,fa] rfl rfl (any_of HT_.out (by kernel_rfl)) (fun _ _ _ h => h) (Or.inl ⟨by rfl, ?_⟩) ?_ ?_
      rotate_left
      ·intro w'
       go_simp
       with_reducible rfl
      rotate_left
      ·simp only [sP]
       rfl
      refine pure_ (i := 3) (N := some 14) (v := ?_) (a' := ?_) #[tr,fa,fa,tr,fa,fa,fa,fa,fa,fa,fa,fa,fa,fa,fa] rfl rfl (any_of HT_.out (by kernel_rfl)) (fun _ _ _ h => h) (Or.inl ⟨by rfl, ?_⟩) ?_ ?_
      rotate_left
      ·intro w'
       go_simp
       with_reducible rfl
      rotate_left
      ·simp only [sP]
       rfl
      refine pure_ (i := 7) (N := some 18) (v := ?_) (a' := ?_) #[tr,fa,fa,tr,fa,fa,fa,tr,fa,fa,fa,fa,fa,fa,fa] rfl rfl (any_of HT_.out (by kernel_rfl)) (fun _ _ _ h => h) (Or.inl ⟨by rfl, ?_⟩) ?_ ?_
      rotate_left
      ·intro w'
       go_simp
       with_reducible rfl
      rotate_left
      ·simp only [sP]
       rfl
      refine pure_ (i := 10) (N := some 21) (v := ?_) (a' := ?_) #[tr,fa,fa,tr,fa,fa,fa,tr,fa,fa,tr,fa,fa,fa,fa] rfl rfl (any_of HT_.out (by kernel_rfl)) (fun _ _ _ h => h) (Or.inl ⟨by rfl, ?_⟩) ?_ ?_
      rotate_left
      ·intro w'
       go_simp
       with_reducible rfl
      rotate_left
      ·simp only [sP]
       rfl
      refine take_ (i := 1) (N := some 12) (v := ?_) (a' := ?_) #[tr,tr,fa,tr,fa,fa,fa,tr,fa,fa,tr,fa,fa,fa,fa] rfl rfl (take_ofW HT_.out HW_.out (by kernel_rfl)) (fun _ _ _ h => h) (Or.inl ⟨by rfl, ?_⟩) hHeld ?_ ?_
      rotate_left
      ·rintro w' ⟨s0, s1, s2, s3, s4, s5, s6, s7, s8, s9, s10, s11⟩
       go_simp
       with_reducible rfl
      rotate_left
      ·simp only [sP]
       rfl
      refine take_ (i := 4) (N := some 15) (v := ?_) (a' := ?_) #[tr,tr,fa,tr,tr,fa,fa,tr,fa,fa,tr,fa,fa,fa,fa] rfl rfl (take_ofW HT_.out HW_.out (by kernel_rfl)) (fun _ _ _ h => h) (Or.inl ⟨by rfl, ?_⟩) hHeld ?_ ?_
      rotate_left
      ·rintro w' ⟨s0, s1, s2, s3, s4, s5, s6, s7, s8, s9, s10, s11⟩
       go_simp
       with_reducible rfl
      rotate_left
      ·simp only [sP]
       rfl
      refine pure_ (i := 5) (N := some 16) (v := ?_) (a' := ?_) #[tr,tr,fa,tr,tr,tr,fa,tr,fa,fa,tr,fa,fa,fa,fa] rfl rfl (any_of HT_.out (by kernel_rfl)) (fun _ _ _ h => h) (Or.inl ⟨by rfl, ?_⟩) ?_ ?_
      rotate_left
      ·intro w'
       go_simp
       with_reducible rfl
      rotate_left
      ·simp only [sP]
       rfl
      refine take_ (i := 8) (N := some 19) (v := ?_) (a' := ?_) #[tr,tr,fa,tr,tr,tr,fa,tr,tr,fa,tr,fa,fa,fa,fa] rfl rfl (take_ofW HT_.out HW_.out (by kernel_rfl)) (fun _ _ _ h => h) (Or.inl ⟨by rfl, ?_⟩) hHeld ?_ ?_
      rotate_left
      ·rintro w' ⟨s0, s1, s2, s3, s4, s5, s6, s7, s8, s9, s10, s11⟩
       go_simp
       with_reducible rfl
      rotate_left
      ·simp only [sP]
       rfl
      refine take_ (i := 11) (N := some 22) (v := ?_) (a' := ?_) #[tr,tr,fa,tr,tr,tr,fa,tr,tr,fa,tr,tr,fa,fa,fa] rfl rfl (take_ofW HT_.out HW_.out (by kernel_rfl)) (fun _ _ _ h => h) (Or.inl ⟨by rfl, ?_⟩) hHeld ?_ ?_
      rotate_left
      ·rintro w' ⟨s0, s1, s2, s3, s4, s5, s6, s7, s8, s9, s10, s11⟩
       go_simp
       with_reducible rfl
      rotate_left
      ·simp only [sP]
       rfl
      refine pure_ (i := 12) (N := some 23) (v := ?_) (a' := ?_) #[tr,tr,fa,tr,tr,tr,fa,tr,tr,fa,tr,tr,tr,fa,fa] rfl rfl (any_of HT_.out (by kernel_rfl)) (fun _ _ _ h => h) (Or.inl ⟨by rfl, ?_⟩) ?_ ?_
      rotate_left
      ·intro w'
       go_simp
       with_reducible rfl
      rotate_left
      ·simp only [sP]
       rfl
      refine one_ (i := 2) (N := some 13) #[tr,tr,tr,tr,tr,tr,fa,tr,tr,fa,tr,tr,tr,fa,fa] rfl rfl (one_of HT_.out (by kernel_rfl)) (by decide) (fun K hK => ?_)
      refine Kd.R_lit_step (Kd.int .u8) _ 5 ?hg (N := 13) ?hd (xs := ([a0_0] : List Int)) (inner := [.int .u8 a0_0]) (ok := fun _ => True) (okp := fun _ => True) ?hr ?hp (fun _ hk => hk) trivial (Below.refl _ _) (Nat.le_refl _) (by simp) ?_; (case hd => rfl); (case hg => rfl); (case hr => first | (go_simp; done) | (go_simp; rfl)); (case hp => exact (Reps.one (show Kd.M (Kd.int .u8) _ _ _ a0_0 [.int .u8 a0_0] from rfl) (Reps.none _ _)))
      intro v150 w91 ho92 hb hg_ hnew_
      clear hg_ hnew_
      (first | rw [← Ny149.out] at ho92 | (simp only [Int.reduceToNat] at ho92; rw [← Ny149.out] at ho92))
      have HO151 := Ax (Kd.R_lower ho92 (below_size (bw1 HB.out GE147.out)))
      replace BK147 := Bx0 BK147 hb
      replace HB := Bs1 HB hb GE147.out
      clear hb ho92
      obtain ⟨Ao93, co93, eo93⟩ := Kd.R_slice HO151.out
      (first | subst eo93 | (injection eo93 with f1_ f2_ f3_; have f4_ := f1_.symm; have f5_ := f3_.symm; clear f1_ f2_ f3_; subst f4_; subst f5_))
      refine hK.out _ _ ⟨(blk_cell BK147.out 0).trans rfl, (blk_cell BK147.out 1).trans rfl, (blk_cell BK147.out 2).trans rfl, (blk_cell BK147.out 3).trans rfl, (blk_cell BK147.out 4).trans rfl, (blk_cell BK147.out 5).trans rfl, (blk_cell BK147.out 6).trans rfl, (blk_cell BK147.out 7).trans rfl, (blk_cell BK147.out 8).trans rfl, (blk_cell BK147.out 9).trans rfl, (blk_cell BK147.out 10).trans rfl, (blk_cell BK147.out 11).trans rfl⟩ (fun hHeld => ?_)
      clear hK K
      refine norm_ (a' := ?_) ?_ ?_
      rotate_left
      ·show Act.put _ (some 13) _ = _
       simp only [sP]
       rfl
      refine one_ (i := 6) (N := some 17) #[tr,tr,tr,tr,tr,tr,tr,tr,tr,fa,tr,tr,tr,fa,fa] rfl rfl (one_of HT_.out (by kernel_rfl)) (by decide) (fun K hK => ?_)
      refine goes_ Try.func23 (by kernel_rfl) rfl #[.slice Ao93 y149.length co93, .int .u64 (IntKind.u64.wrap (a0_1))] (by rfl) rfl rfl gS ?_
      with_reducible refine (num_Add.calls k (fun k_ => some k_ = (.slice Ao93 y149.length co93 : Value).ownBlock) (.slice Ao93 y149.length co93) y149 (IntKind.u64.wrap (a0_1)) t152 w _ ?side1 ?side2 A4.out).mono ?_
      (case side1 => repeat (first | (with_reducible first | exact HB.out | apply below_alloc | apply pw_below_drewN | apply below_drew1 | refine below_set ?_ GE147.out) | exact HB.out))
      (case side2 => exact Kd.R_tight rfl HO151.out)
      rintro e w94 ⟨v153, rfl, ho0, hb, hkp⟩
      refine ⟨_, rfl, ?_⟩
      have n0_ := Ax (blk_kept (bf0 BK147.out) hkp (fun hs_ => (fun e_ => (Kd.R_ne HO151.out BK147.out (by decide)) e_) hs_))
      have n1_ := Ax (Kd.R_mono (ok' := fun k_ => True) ho0 (fun k_ hk_ => trivial))
      have n2_ := Ax (hb)
      clear BK147
      clear HB
      clear HO151
      have BK147 := n0_
      have HO154 := n1_
      have HB := n2_
      clear n0_ n1_ n2_
      (try clear hb)
      (try clear hkp)
      (try clear ho0)
      obtain ⟨Ao95, co95, eo95⟩ := Kd.R_slice HO154.out
      (first | subst eo95 | (injection eo95 with f1_ f2_ f3_; have f4_ := f1_.symm; have f5_ := f3_.symm; clear f1_ f2_ f3_; subst f4_; subst f5_))
      refine hK.out _ _ ⟨(blk_cell BK147.out 0).trans rfl, (blk_cell BK147.out 1).trans rfl, (blk_cell BK147.out 2).trans rfl, (blk_cell BK147.out 3).trans rfl, (blk_cell BK147.out 4).trans rfl, (blk_cell BK147.out 5).trans rfl, (blk_cell BK147.out 6).trans rfl, (blk_cell BK147.out 7).trans rfl, (blk_cell BK147.out 8).trans rfl, (blk_cell BK147.out 9).trans rfl, (blk_cell BK147.out 10).trans rfl, (blk_cell BK147.out 11).trans rfl⟩ (fun hHeld => ?_)
      clear hK K
      refine norm_ (a' := ?_) ?_ ?_
      rotate_left
      ·show Act.put _ (some 17) _ = _
       simp only [sP]
       rfl
      refine one_ (i := 9) (N := some 20) #[tr,tr,tr,tr,tr,tr,tr,tr,tr,tr,tr,tr,tr,fa,fa] rfl rfl (one_of HT_.out (by kernel_rfl)) (by decide) (fun K hK => ?_)
      refine goes_ Try.func23 (by kernel_rfl) rfl #[.slice Ao95 t152.length co95, .int .u64 a0_2] (by rfl) rfl rfl gS ?_
      with_reducible refine (num_Add.calls k (fun k_ => some k_ = (.slice Ao95 t152.length co95 : Value).ownBlock) (.slice Ao95 t152.length co95) t152 a0_2 t155 w _ ?side1 ?side2 A5.out).mono ?_
      (case side1 => repeat (first | (with_reducible first | exact HB.out | apply below_alloc | apply pw_below_drewN | apply below_drew1 | refine below_set ?_ GE147.out) | exact HB.out))
      (case side2 => exact Kd.R_tight rfl HO154.out)
      rintro e w96 ⟨v156, rfl, ho0, hb, hkp⟩
      refine ⟨_, rfl, ?_⟩
      have n0_ := Ax (blk_kept (bf0 BK147.out) hkp (fun hs_ => (fun e_ => (Kd.R_ne HO154.out BK147.out (by decide)) e_) hs_))
      have n1_ := Ax (Kd.R_mono (ok' := fun k_ => True) ho0 (fun k_ hk_ => trivial))
      have n2_ := Ax (hb)
      clear BK147
      clear HB
      clear HO154
      have BK147 := n0_
      have HO157 := n1_
      have HB := n2_
      clear n0_ n1_ n2_
      (try clear hb)
      (try clear hkp)
      (try clear ho0)
      obtain ⟨Ao97, co97, eo97⟩ := Kd.R_slice HO157.out
      (first | subst eo97 | (injection eo97 with f1_ f2_ f3_; have f4_ := f1_.symm; have f5_ := f3_.symm; clear f1_ f2_ f3_; subst f4_; subst f5_))
      refine hK.out _ _ ⟨(blk_cell BK147.out 0).trans rfl, (blk_cell BK147.out 1).trans rfl, (blk_cell BK147.out 2).trans rfl, (blk_cell BK147.out 3).trans rfl, (blk_cell BK147.out 4).trans rfl, (blk_cell BK147.out 5).trans rfl, (blk_cell BK147.out 6).trans rfl, (blk_cell BK147.out 7).trans rfl, (blk_cell BK147.out 8).trans rfl, (blk_cell BK147.out 9).trans rfl, (blk_cell BK147.out 10).trans rfl, (blk_cell BK147.out 11).trans rfl⟩ (fun hHeld => ?_)
      clear hK K
      refine norm_ (a' := ?_) ?_ ?_
      rotate_left
      ·show Act.put _ (some 20) _ = _
       simp only [sP]
       rfl
      refine one_ (i := 13) (N := some 24) #[tr,tr,tr,tr,tr,tr,tr,tr,tr,tr,tr,tr,tr,tr,fa] rfl rfl (one_of HT_.out (by kernel_rfl)) (by decide) (fun K hK => ?_)
      refine goes_ Try.func23 (by kernel_rfl) rfl #[.slice Ao97 t155.length co97, .int .u64 (IntKind.u64.wrap (a0_3))] (by rfl) rfl rfl gS ?_
      with_reducible refine (num_Add.calls k (fun k_ => some k_ = (.slice Ao97 t155.length co97 : Value).ownBlock) (.slice Ao97 t155.length co97) t155 (IntKind.u64.wrap (a0_3)) t158 w _ ?side1 ?side2 A6.out).mono ?_
      (case side1 => repeat (first | (with_reducible first | exact HB.out | apply below_alloc | apply pw_below_drewN | apply below_drew1 | refine below_set ?_ GE147.out) | exact HB.out))
      (case side2 => exact Kd.R_tight rfl HO157.out)
      rintro e w98 ⟨v159, rfl, ho0, hb, hkp⟩
      refine ⟨_, rfl, ?_⟩
      have n0_ := Ax (blk_kept (bf0 BK147.out) hkp (fun hs_ => (fun e_ => (Kd.R_ne HO157.out BK147.out (by decide)) e_) hs_))
      have n1_ := Ax (Kd.R_mono (ok' := fun k_ => True) ho0 (fun k_ hk_ => trivial))
      have n2_ := Ax (hb)
      clear BK147
      clear HB
      clear HO157
      have BK147 := n0_
      have HO160 := n1_
      have HB := n2_
      clear n0_ n1_ n2_
      (try clear hb)
      (try clear hkp)
      (try clear ho0)
      refine hK.out _ _ ⟨(blk_cell BK147.out 0).trans rfl, (blk_cell BK147.out 1).trans rfl, (blk_cell BK147.out 2).trans rfl, (blk_cell BK147.out 3).trans rfl, (blk_cell BK147.out 4).trans rfl, (blk_cell BK147.out 5).trans rfl, (blk_cell BK147.out 6).trans rfl, (blk_cell BK147.out 7).trans rfl, (blk_cell BK147.out 8).trans rfl, (blk_cell BK147.out 9).trans rfl, (blk_cell BK147.out 10).trans rfl, (blk_cell BK147.out 11).trans rfl⟩ (fun hHeld => ?_)
      clear hK K
      refine norm_ (a' := ?_) ?_ ?_
      rotate_left
      ·show Act.put _ (some 24) _ = _
       simp only [sP]
       rfl
      refine pure_ (i := 14) (N := some 5) (v := ?_) (a' := ?_) #[tr,tr,tr,tr,tr,tr,tr,tr,tr,tr,tr,tr,tr,tr,tr] rfl rfl (any_of HT_.out (by kernel_rfl)) (fun _ _ _ h => h) (Or.inl ⟨by rfl, ?_⟩) ?_ ?_
      rotate_left
      ·intro w'
       go_simp
       with_reducible rfl
      rotate_left
      ·simp only [sP]
       rfl
      refine done_ (done_of HT_.out (by kernel_rfl)) ?_
      obtain ⟨hcz99_0, hcz99_1, hcz99_2, hcz99_3, hcz99_4, hcz99_5, hcz99_6, hcz99_7, hcz99_8, hcz99_9, hcz99_10, hcz99_11, hfz99_0, hfz99_1, hfz99_2, hfz99_3, hfz99_4, hfz99_5, hfz99_6, hfz99_7, hfz99_8, hfz99_9, hfz99_10, hfz99_11⟩ := cl12 BK147
      have hcv100 := own_string (P := Try.prog) Try.underlying49 Try.underlying5 Try.underlying9 (Kd.own_of_R HO160.out)
      try go_wp2
      go_ret2
      exact ⟨eS, bw1 HB.out GE147.out⟩
 ·rw [if_neg c3] at H
  have c3b0 : (t148 == 0) = false := beq_eq_false_iff_ne.mpr c3
  have c3b1 : (t148 != 0) = true := bne_iff_ne.mpr c3
  simp only [Option.some.injEq, Prod.mk.injEq] at H
  obtain ⟨rfl, rfl⟩ := H
  go_enter Try.func8, Try.ntmps8
  go_wp2_with (first | ((with_reducible refine gate_dst (N := 1) rfl ?_); refine box_event ?hg (N := 1) ?hd (cs := #[.int .u8 a0_0, .int .i64 a0_1, .int .u64 a0_2, .int .i64 a0_3, .bool a0_4, .int .u64 a0_5, .int .u64 a0_6, .int .i64 a0_7, .int .u8 a0_8, .int .i64 a0_9, .int .i64 a0_10, .int .i64 a0_11]) (t := 32) ?hr ?_; (case hd => rfl); (case hg => rfl); (case hr => first | (go_simp; done) | (go_simp; rfl)); intro gb147 hg w101 hbox hb; have n0_ := Bs0 HB hb; have n1_ := Ax (hbox); have n2_ := Gw0 HB hg; have n3_ := Gw0 HB hg; clear HB; have HB := n0_; have BK147 := n1_; have GW147 := n2_; have GE147 := n3_; clear n0_ n1_ n2_ n3_; clear hb hbox hg; obtain ⟨hcz102_0, hcz102_1, hcz102_2, hcz102_3, hcz102_4, hcz102_5, hcz102_6, hcz102_7, hcz102_8, hcz102_9, hcz102_10, hcz102_11, hfz102_0, hfz102_1, hfz102_2, hfz102_3, hfz102_4, hfz102_5, hfz102_6, hfz102_7, hfz102_8, hfz102_9, hfz102_10, hfz102_11⟩ := cl12 BK147) | ((with_reducible refine gate_callee (f := 13) rfl ?_); refine goesL_ (some 7) rfl rfl Try.func13 (by kernel_rfl) rfl #[.agg #[.int .u8 a0_0, .int .i64 a0_1, .int .u64 a0_2, .int .i64 a0_3, .bool a0_4, .int .u64 a0_5, .int .u64 a0_6, .int .i64 a0_7, .int .u8 a0_8, .int .i64 a0_9, .int .i64 a0_10, .int .i64 a0_11]] rfl gS ?_; (with_reducible refine (msg_Check.calls k a0_0 a0_1 a0_2 a0_3 a0_4 a0_5 a0_6 a0_7 a0_8 a0_9 a0_10 a0_11 t148 _ A2.out).mono ?_); rintro e w103 ⟨rfl, hb⟩; refine ⟨_, rfl, ?_⟩; replace BK147 := Bx0 BK147 hb; replace HB := Bs1 HB hb GE147.out; (try clear hb)))
  go_ret2
  exact ⟨eS, bw1 HB.out GE147.out⟩
end Go.Proofs.Ytodgadhegcjbhaa.Q
end
section
namespace Go.Proofs.Ytodgadhegcjbhaa.Q
open Go.RowKit Go.Proofs.YtodgadhegcjbhaaW.PrintWords Go.Proofs.YtodgadhegcjbhaaW.PrintLast Go.Proofs.YtodgadhegcjbhaaW.PrintMore
attribute [local go_sem] max2_int min2_int max_two min_two max_three min_three max_four min_four   -- for this text's walks alone
set_option linter.unusedVariables false
set_option linter.unusedSimpArgs false
def wd (s : ByteArray) (o : Nat) : Nat → Int
  | 0 => 0
  | i + 1 => wd s o i + bt s ((o + i : Nat) : Int) * 2 ^ (56 - 8 * i)
set_option maxRecDepth 100000 in
theorem wd_mul (s : ByteArray) (o : Nat) : ∀ i : Nat, i ≤ 8 → ∃ m : Nat, wd s o i = ((2 ^ (64 - 8 * i) * m : Nat) : Int) ∧ m < 2 ^ (8 * i)
  | 0, _ => ⟨0, by simp [wd]⟩
  | i + 1, h => by
    obtain ⟨m, e, hm⟩ := wd_mul s o i (by omega)
    have hb := bt_range s ((o + i : Nat) : Int)
    have e1 : 2 ^ (64 - 8 * i) = 256 * 2 ^ (56 - 8 * i) := by rw [show 64 - 8 * i = 8 + (56 - 8 * i) by omega, Nat.pow_add]
    have e2 : 2 ^ (8 * (i + 1)) = 256 * 2 ^ (8 * i) := by rw [show 8 * (i + 1) = 8 + 8 * i by omega, Nat.pow_add]
    refine ⟨256 * m + (bt s ((o + i : Nat) : Int)).toNat, ?_, by omega⟩
    obtain ⟨n, hn⟩ : ∃ n : Nat, bt s ((o + i : Nat) : Int) = n := ⟨(bt s ((o + i : Nat) : Int)).toNat, by omega⟩
    rw [wd, e, e1, hn, show 64 - 8 * (i + 1) = 56 - 8 * i by omega, Nat.mul_add, show (2 : Int) ^ (56 - 8 * i) = ((2 ^ (56 - 8 * i) : Nat) : Int) from (Int.natCast_pow 2 _).symm]
    generalize 2 ^ (56 - 8 * i) = E
    push_cast
    congr 1
    · rw [Int.mul_assoc, Int.mul_left_comm]
    · rw [Int.toNat_natCast, Int.mul_comm]
theorem wd_range (s : ByteArray) (o : Nat) (i : Nat) (h : i ≤ 8) : 0 ≤ wd s o i ∧ wd s o i ≤ 18446744073709551615 := by
  obtain ⟨m, e, hm⟩ := wd_mul s o i h
  have h1 : 2 ^ (64 - 8 * i) * m < 2 ^ (64 - 8 * i) * 2 ^ (8 * i) := Nat.mul_lt_mul_of_pos_left hm (Nat.two_pow_pos _)
  rw [← Nat.pow_add, show 64 - 8 * i + 8 * i = 64 by omega] at h1
  rw [e]
  omega
theorem wd_or (s : ByteArray) (o i : Nat) (c : Int) (b : Int) (h : i ≤ 7) (hc : c = 2 ^ (56 - 8 * i)) (hb : b = bt s ((o + i : Nat) : Int)) : bits .or .u64 (wd s o i) (b * c) = wd s o (i + 1) := by
  obtain ⟨m, e, hm⟩ := wd_mul s o i (by omega)
  have hr := wd_range s o i (by omega)
  have hr2 := wd_range s o (i + 1) (by omega)
  have hbr := bt_range s ((o + i : Nat) : Int)
  obtain ⟨n, hn⟩ : ∃ n : Nat, b = n := ⟨b.toNat, by omega⟩
  rw [wd, ← hb, ← hc] at hr2 ⊢
  rw [e] at hr hr2 ⊢
  have e1 : 2 ^ (64 - 8 * i) = 256 * 2 ^ (56 - 8 * i) := by rw [show 64 - 8 * i = 8 + (56 - 8 * i) by omega, Nat.pow_add]
  have hcn : b * c = ((n * 2 ^ (56 - 8 * i) : Nat) : Int) := by rw [hn, hc]; push_cast; rfl
  have hlt : n * 2 ^ (56 - 8 * i) < 2 ^ (64 - 8 * i) := by rw [e1]; exact Nat.mul_lt_mul_of_pos_right (by omega) (Nat.two_pow_pos _)
  have hlt2 : n * 2 ^ (56 - 8 * i) < 18446744073709551616 := Nat.lt_of_lt_of_le hlt (by rw [show 18446744073709551616 = 2 ^ 64 from rfl]; exact Nat.pow_le_pow_right (by omega) (by omega))
  rw [hcn, u64_or_nat _ _ (by omega) hlt2, ← Nat.two_pow_add_eq_or_of_lt hlt]
  push_cast
  rfl
theorem wd_or7 (s : ByteArray) (o : Nat) (b : Int) (hb : b = bt s ((o + 7 : Nat) : Int)) : bits .or .u64 (wd s o 7) b = wd s o (7 + 1) := by
  have := wd_or s o 7 1 b (by omega) rfl hb
  rwa [Int.mul_one] at this
def pfx_none : Option (Bool × Int × Int × Int × ByteArray × Int) := some (false, 0, 0, 0, (⟨#[]⟩ : ByteArray), 7)
def pfx_of (k : Nat) (six : Bool) (hi lo ln : Int) (rest : ByteArray) : Option (Bool × Int × Int × Int × ByteArray × Int) :=
  (addr_Check.f k six hi lo ln).bind fun c => (if c = 0 then some (six, hi, lo, ln, rest, 0) else pfx_none)
def msg_GetPrefix.f (k : Nat) (a0 : ByteArray) : Option (Bool × Int × Int × Int × ByteArray × Int) :=
  if a0.size < 2 then pfx_none
  else if bt a0 0 = 4 then
    (if ((a0.extract 2 a0.size).size : Int) < (bt a0 1 + 7) / 8 then pfx_none else if bt a0 1 > 32 then pfx_none
     else pfx_of k false 0 (wd (a0.extract 2 a0.size) 0 (((bt a0 1).toNat + 7) / 8) / 4294967296) (bt a0 1) ((a0.extract 2 a0.size).extract (((bt a0 1).toNat + 7) / 8) (a0.extract 2 a0.size).size))
  else if bt a0 0 = 6 then
    (if ((a0.extract 2 a0.size).size : Int) < (bt a0 1 + 7) / 8 then pfx_none else if bt a0 1 > 128 then pfx_none
     else pfx_of k true (wd (a0.extract 2 a0.size) 0 (min 8 (((bt a0 1).toNat + 7) / 8))) (wd (a0.extract 2 a0.size) 8 (((bt a0 1).toNat + 7) / 8 - 8)) (bt a0 1) ((a0.extract 2 a0.size).extract (((bt a0 1).toNat + 7) / 8) (a0.extract 2 a0.size).size))
  else pfx_none
theorem msg_GetPrefix.mono : ∀ a0 k, LeO (msg_GetPrefix.f k a0) (msg_GetPrefix.f (k + 1) a0) := by
  intro a0 k
  unfold msg_GetPrefix.f pfx_of
  repeat' first
    | (with_reducible exact addr_Check.mono _ _ _ _ _)
    | (with_reducible exact LeO.refl _)
    | (with_reducible refine LeO.ite ?_ ?_)
    | (with_reducible refine LeO.bind ?_ (fun _ => ?_))
    | exact addr_Check.mono _ _ _ _ _
    | exact LeO.refl _
set_option maxHeartbeats 8000000 in
set_option maxRecDepth 100000 in
theorem msg_GetPrefix.calls (k : Nat) (a0 : ByteArray) (r1 : Bool) (r2 : Int) (r3 : Int) (r4 : Int) (r5 : ByteArray) (r6 : Int) (w : World) (h : msg_GetPrefix.f k a0 = some (r1, r2, r3, r4, r5, r6)) :
    Calls Try.prog 17 #[.string a0] w fun e w' => e = .returned (.tuple #[.agg #[.bool r1, .int .u64 r2, .int .u64 r3, .int .i64 r4], .string r5, .int .i64 r6]) ∧ Below w.heap.size w w' := by
  unfold msg_GetPrefix.f at h
  by_cases c1 : a0.size < 2
  · rw [if_pos c1] at h
    simp only [pfx_none, Option.some.injEq, Prod.mk.injEq] at h
    obtain ⟨rfl, rfl, rfl, rfl, rfl, rfl⟩ := h
    have c1b : decide ((a0.size : Int) < 2) = true := decide_eq_true (by omega)
    go_enter Try.func17, Try.ntmps17
    go_wp2
    refine bodyPost_ret (results_ctt rfl _ _ w.heap.size 27 #[.bool false, .int .u64 0, .int .u64 0, .int .i64 0] (0, 0) _ rfl (heap_alloc_new _ _) Try.underlying27 rfl (by kernel_rfl)) rfl ?_
    exact ⟨rfl, below_alloc (Below.refl _ _) _⟩
  · rw [if_neg c1] at h
    have c1b : decide ((a0.size : Int) < 2) = false := decide_eq_false (by omega)
    have hx0 : ∀ h : 0 < a0.size, ((a0[0]'h).toNat : Int) = bt a0 0 := bt_at a0 0
    have hx1 : ∀ h : 1 < a0.size, ((a0[1]'h).toNat : Int) = bt a0 1 := bt_at a0 1
    have s0 : 0 < a0.size := by omega
    have s1 : 1 < a0.size := by omega
    have q0 : (0 < (a0.size : Int)) = True := eq_true (by omega)
    have q1 : (1 < (a0.size : Int)) = True := eq_true (by omega)
    have q2 : (2 ≤ (a0.size : Int)) = True := eq_true (by omega)
    have hb1 := bt_range a0 1
    obtain ⟨ln, hln⟩ : ∃ ln : Nat, bt a0 1 = ln := ⟨(bt a0 1).toNat, by omega⟩
    rw [hln] at h hx1 hb1
    clear hln
    by_cases c2 : bt a0 0 = 4
    · rw [if_pos c2] at h
      have c2b : (bt a0 0 != 4) = false := bne_eq_false_iff_eq.mpr c2
      have c2c : (bt a0 0 == 6) = false := by rw [c2]; decide
      go_enter Try.func17, Try.ntmps17
      go_wp2
      have br1 : (w.alloc (.cells #[.bool false, .int .u64 0, .int .u64 0, .int .i64 0] 27)).heap[w.heap.size]? = some (.cells #[.bool false, .int .u64 0, .int .u64 0, .int .i64 0] 27 (0, 0)) := heap_alloc_new _ _
      have hb1' : Below w.heap.size w (w.alloc (.cells #[.bool false, .int .u64 0, .int .u64 0, .int .i64 0] 27)) := below_alloc (Below.refl _ _) _
      have HS1 : Aside0 ((w.alloc (.cells #[.bool false, .int .u64 0, .int .u64 0, .int .i64 0] 27)).heap.size = w.heap.size + 1) := ⟨by simp⟩
      generalize (w.alloc (.cells #[.bool false, .int .u64 0, .int .u64 0, .int .i64 0] 27)) = w1 at br1 hb1' HS1 ⊢
      obtain ⟨gr, hgr⟩ : ∃ gr, w.heap.size = gr := ⟨_, rfl⟩
      have HGR := Aside0.mk hgr
      rw [hgr] at br1 HS1 ⊢
      have BR1 := Aside0.mk br1
      have HB1 := Aside0.mk hb1'
      clear br1 hb1' hgr
      go_region
      have br2 : (w1.alloc (.cells #[.bool false, .int .u64 0, .int .u64 0, .int .i64 ln] 27)).drew.heap[gr]? = some (.cells #[.bool false, .int .u64 0, .int .u64 0, .int .i64 0] 27 (0, 0)) := blk_drew (blk_alloc BR1.out _)
      have bp2 : (w1.alloc (.cells #[.bool false, .int .u64 0, .int .u64 0, .int .i64 ln] 27)).drew.heap[w1.heap.size]? = some (.cells #[.bool false, .int .u64 0, .int .u64 0, .int .i64 ln] 27 (0, 0)) := blk_drew (heap_alloc_new _ _)
      have hb2 : Below w.heap.size w (w1.alloc (.cells #[.bool false, .int .u64 0, .int .u64 0, .int .i64 ln] 27)).drew := below_drew1 (below_alloc HB1.out _)
      have HGP : Aside0 (w1.heap.size = gr + 1) := HS1
      generalize (w1.alloc (.cells #[.bool false, .int .u64 0, .int .u64 0, .int .i64 ln] 27)).drew = w2 at br2 bp2 hb2 ⊢
      obtain ⟨gp, hgp⟩ : ∃ gp, w1.heap.size = gp := ⟨_, rfl⟩
      rw [hgp] at bp2 HGP ⊢
      have HB2 := Aside0.mk hb2
      have BR2 := Aside0.mk br2
      have BP2 := Aside0.mk bp2
      clear hgp hb2 br2 bp2 HS1 BR1 HB1
      have hp0 : w2.cell? ⟨gp, 0, none⟩ = some (.bool false) := (blk_cell BP2.out 0).trans rfl
      have hp3 : w2.cell? ⟨gp, 3, none⟩ = some (.int .i64 ln) := (blk_cell BP2.out 3).trans rfl
      go_wp2
      have hrs : (a0.extract 2 a0.size).size = a0.size - 2 := by simp
      generalize a0.extract 2 a0.size = rest at h hrs ⊢
      have hp0d : ∀ q, (w2.drewN q).cell? ⟨gp, 0, none⟩ = some (.bool false) := fun _ => hp0
      have hp3d : ∀ q, (w2.drewN q).cell? ⟨gp, 3, none⟩ = some (.int .i64 ln) := fun _ => hp3
      by_cases c3 : (rest.size : Int) < ((ln : Int) + 7) / 8
      · rw [if_pos c3] at h
        simp only [pfx_none, Option.some.injEq, Prod.mk.injEq] at h
        obtain ⟨rfl, rfl, rfl, rfl, rfl, rfl⟩ := h
        have hd : decide (((a0.size - 2 : Nat) : Int) < ((ln : Int) + 8 - 1) / 8) = true := decide_eq_true (by omega)
        go_quiet (fail)
        have br3 := blk_drewN BR2.out nq
        have hb3 := pw_below_drewN HB2.out nq
        generalize w2.drewN nq = w3 at br3 hb3 ⊢
        have BR3 := Aside0.mk br3
        have HB3 := Aside0.mk hb3
        clear br3 hb3
        have hr0 := (blk_cell BR3.out 0).trans rfl
        have hr1 := (blk_cell BR3.out 1).trans rfl
        have hr2 := (blk_cell BR3.out 2).trans rfl
        have hr3 := (blk_cell BR3.out 3).trans rfl
        have hf0 := blk_frozen BR3.out 0
        have hf1 := blk_frozen BR3.out 1
        have hf2 := blk_frozen BR3.out 2
        have hf3 := blk_frozen BR3.out 3
        go_wp2
        have hge : w.heap.size ≤ gr := by have := HGR.out; omega
        refine bodyPost_ret (results_ctt rfl _ _ gr 27 #[.bool false, .int .u64 0, .int .u64 0, .int .i64 0] (0, 0) _ rfl (blk_put (blk_put (blk_put (blk_put BR3.out 0 (.bool false) rfl) 1 (.int .u64 0) rfl) 2 (.int .u64 0) rfl) 3 (.int .i64 0) rfl) Try.underlying27 rfl (by kernel_rfl)) rfl ?_
        exact ⟨rfl, (((HB3.out.setCell (p := ⟨gr, 0, none⟩) hge _).setCell (p := ⟨gr, 1, none⟩) hge _).setCell (p := ⟨gr, 2, none⟩) hge _).setCell (p := ⟨gr, 3, none⟩) hge _⟩
      · rw [if_neg c3] at h
        have hd : decide (((a0.size - 2 : Nat) : Int) < ((ln : Int) + 8 - 1) / 8) = false := decide_eq_false (by omega)
        by_cases c4 : (ln : Int) > 32
        · rw [if_pos c4] at h
          simp only [pfx_none, Option.some.injEq, Prod.mk.injEq] at h
          obtain ⟨rfl, rfl, rfl, rfl, rfl, rfl⟩ := h
          have hd2 : decide (32 < (ln : Int)) = true := decide_eq_true c4
          go_big_quiet (first | (go_at_call 39; exact Calls.quiet_of ((addr_Wide.calls false 32 _ rfl).mono (fun e w' h => ⟨h.1, h.2.out⟩))))
          have br3 := blk_drewN BR2.out nq
          have hb3 := pw_below_drewN HB2.out nq
          generalize w2.drewN nq = w3 at br3 hb3 ⊢
          have BR3 := Aside0.mk br3
          have HB3 := Aside0.mk hb3
          clear br3 hb3
          have hr0 := (blk_cell BR3.out 0).trans rfl
          have hr1 := (blk_cell BR3.out 1).trans rfl
          have hr2 := (blk_cell BR3.out 2).trans rfl
          have hr3 := (blk_cell BR3.out 3).trans rfl
          have hf0 := blk_frozen BR3.out 0
          have hf1 := blk_frozen BR3.out 1
          have hf2 := blk_frozen BR3.out 2
          have hf3 := blk_frozen BR3.out 3
          go_wp2
          have hge : w.heap.size ≤ gr := by have := HGR.out; omega
          refine bodyPost_ret (results_ctt rfl _ _ gr 27 #[.bool false, .int .u64 0, .int .u64 0, .int .i64 0] (0, 0) _ rfl (blk_put (blk_put (blk_put (blk_put BR3.out 0 (.bool false) rfl) 1 (.int .u64 0) rfl) 2 (.int .u64 0) rfl) 3 (.int .i64 0) rfl) Try.underlying27 rfl (by kernel_rfl)) rfl ?_
          exact ⟨rfl, (((HB3.out.setCell (p := ⟨gr, 0, none⟩) hge _).setCell (p := ⟨gr, 1, none⟩) hge _).setCell (p := ⟨gr, 2, none⟩) hge _).setCell (p := ⟨gr, 3, none⟩) hge _⟩
        · rw [if_neg c4] at h
          have hd2 : decide (32 < (ln : Int)) = false := decide_eq_false c4
          have hc4 : Aside0 (ln ≤ 32) := ⟨by omega⟩
          have hlt0 : Aside0 ((ln + 7) / 8 ≤ rest.size) := ⟨by omega⟩
          unfold pfx_of at h
          obtain ⟨c, hC, h⟩ := Option.bind_eq_some_iff.mp h
          have C := Aside0.mk hC
          have H := Aside0.mk h
          clear h hC
          go_big_quiet (first | (go_at_call 39; exact Calls.quiet_of ((addr_Wide.calls false 32 _ rfl).mono (fun e w' h => ⟨h.1, h.2.out⟩))))
          clear hrs
          have br3 := blk_drewN BR2.out nq
          have bp3 := blk_drewN BP2.out nq
          have hb3 := pw_below_drewN HB2.out nq
          clear hp0 hp3 hp0d hp3d
          generalize w2.drewN nq = w3 at br3 bp3 hb3 ⊢
          have BR3 := Aside0.mk br3
          have BP3 := Aside0.mk bp3
          have HB3 := Aside0.mk hb3
          clear br3 hb3 bp3
          go_wp2
          have hbw : w3.heap.size ≠ gr ∧ w3.heap.size ≠ gp ∧ w.heap.size ≤ w3.heap.size := ⟨fun e => by have := blk_lt BR3.out; omega, fun e => by have := blk_lt BP3.out; omega, HB3.out.size⟩
          have br4 := blk_alloc BR3.out (.cells #[.int .u64 0, .int .u64 0] 72)
          have bp4 := blk_alloc BP3.out (.cells #[.int .u64 0, .int .u64 0] 72)
          have bw4 := heap_alloc_new w3 (.cells #[.int .u64 0, .int .u64 0] 72)
          have hb4 := below_alloc HB3.out (.cells #[.int .u64 0, .int .u64 0] 72)
          generalize w3.alloc (.cells #[.int .u64 0, .int .u64 0] 72) = w4 at br4 bp4 bw4 hb4 ⊢
          generalize w3.heap.size = gw at bw4 hbw ⊢
          have HGW := Aside0.mk hbw
          have BR4 := Aside0.mk br4
          have BP4 := Aside0.mk bp4
          have BW4 := Aside0.mk bw4
          have HB4 := Aside0.mk hb4
          clear hbw br4 bp4 bw4 hb4
          go_loopg [51] 17 (fun kq v51 w' => ∃ (i : Nat), i ≤ (ln + 7) / 8 ∧ kq = 17 - i ∧ v51 = .int .i64 (i : Int) ∧ Aside0 (Below w.heap.size w w') ∧ Aside0 (w'.heap[gr]? = some (.cells #[.bool false, .int .u64 0, .int .u64 0, .int .i64 0] 27 (0, 0))) ∧ Aside0 (w'.heap[gp]? = some (.cells #[.bool false, .int .u64 0, .int .u64 0, .int .i64 ln] 27 (0, 0))) ∧ Aside0 (w'.heap[gw]? = some (.cells #[.int .u64 (wd rest 0 (min 8 i)), .int .u64 (wd rest 8 (i - 8))] 72 (0, 0))))
          case atStart => exact ⟨0, by omega, rfl, rfl, HB4, BR4, BP4, BW4⟩
          case round =>
            obtain ⟨i, hi, rfl, rfl, HB5, BR5, BP5, BW5⟩ := hrel
            by_cases hlt : i < (ln + 7) / 8
            · match i, hi, hlt, BW5 with
              | 0, _, hlt, BW5 =>
                have hd : decide ((0 : Int) < ((ln : Int) + 8 - 1) / 8) = true := decide_eq_true (by omega)
                have hq : (0 < (rest.size : Int)) = True := eq_true (by have := hlt0.out; omega)
                have hq' : 0 < rest.size := by have := hlt0.out; omega
                have hz : ∀ h : 0 < rest.size, ((rest[0]'h).toNat : Int) = bt rest 0 := bt_at rest 0
                have hc := (blk_cell BW5.out 0).trans (rfl : _ = some (Value.int .u64 (wd rest 0 0)))
                have hf := blk_frozen BW5.out 0
                have hwr := wd_range rest 0 0 (by omega)
                have hrb := bt_range rest 0
                go_wp2
                go_region
                clear hc hf hwr hrb hz hd
                rw [wd_or rest 0 0 72057594037927936 (bt rest 0) (by omega) rfl rfl]
                have bw6 := blk_drew (blk_put BW5.out 0 (.int .u64 (wd rest 0 1)) rfl)
                have br6 := blk_drew (blk_far BR5.out (p := ⟨gw, 0, none⟩) (by simpa using fun e => HGW.out.1 e.symm) (.int .u64 (wd rest 0 1)))
                have bp6 := blk_drew (blk_far BP5.out (p := ⟨gw, 0, none⟩) (by simpa using fun e => HGW.out.2.1 e.symm) (.int .u64 (wd rest 0 1)))
                have hb6 := below_drew1 (HB5.out.setCell (p := ⟨gw, 0, none⟩) HGW.out.2.2 (.int .u64 (wd rest 0 1)))
                generalize (World.setCell _ ⟨gw, 0, none⟩ (.int .u64 (wd rest 0 1))).drew = w6 at bw6 br6 bp6 hb6 ⊢
                have BW6 := Aside0.mk bw6
                have BR6 := Aside0.mk br6
                have BP6 := Aside0.mk bp6
                have HB6 := Aside0.mk hb6
                clear bw6 br6 bp6 hb6
                go_wp2
                go_roundg (17 - (0 + 1))
                case measure => omega
                case rel => exact ⟨0 + 1, by omega, rfl, rfl, HB6, BR6, BP6, BW6⟩
              | 1, _, hlt, BW5 =>
                have hd : decide ((1 : Int) < ((ln : Int) + 8 - 1) / 8) = true := decide_eq_true (by omega)
                have hq : (1 < (rest.size : Int)) = True := eq_true (by have := hlt0.out; omega)
                have hq' : 1 < rest.size := by have := hlt0.out; omega
                have hz : ∀ h : 1 < rest.size, ((rest[1]'h).toNat : Int) = bt rest 1 := bt_at rest 1
                have hc := (blk_cell BW5.out 0).trans (rfl : _ = some (Value.int .u64 (wd rest 0 1)))
                have hf := blk_frozen BW5.out 0
                have hwr := wd_range rest 0 1 (by omega)
                have hrb := bt_range rest 1
                go_wp2
                go_region
                clear hc hf hwr hrb hz hd
                rw [wd_or rest 0 1 281474976710656 (bt rest 1) (by omega) rfl rfl]
                have bw6 := blk_drew (blk_put BW5.out 0 (.int .u64 (wd rest 0 2)) rfl)
                have br6 := blk_drew (blk_far BR5.out (p := ⟨gw, 0, none⟩) (by simpa using fun e => HGW.out.1 e.symm) (.int .u64 (wd rest 0 2)))
                have bp6 := blk_drew (blk_far BP5.out (p := ⟨gw, 0, none⟩) (by simpa using fun e => HGW.out.2.1 e.symm) (.int .u64 (wd rest 0 2)))
                have hb6 := below_drew1 (HB5.out.setCell (p := ⟨gw, 0, none⟩) HGW.out.2.2 (.int .u64 (wd rest 0 2)))
                generalize (World.setCell _ ⟨gw, 0, none⟩ (.int .u64 (wd rest 0 2))).drew = w6 at bw6 br6 bp6 hb6 ⊢
                have BW6 := Aside0.mk bw6
                have BR6 := Aside0.mk br6
                have BP6 := Aside0.mk bp6
                have HB6 := Aside0.mk hb6
                clear bw6 br6 bp6 hb6
                go_wp2
                go_roundg (17 - (1 + 1))
                case measure => omega
                case rel => exact ⟨1 + 1, by omega, rfl, rfl, HB6, BR6, BP6, BW6⟩
              | 2, _, hlt, BW5 =>
                have hd : decide ((2 : Int) < ((ln : Int) + 8 - 1) / 8) = true := decide_eq_true (by omega)
                have hq : (2 < (rest.size : Int)) = True := eq_true (by have := hlt0.out; omega)
                have hq' : 2 < rest.size := by have := hlt0.out; omega
                have hz : ∀ h : 2 < rest.size, ((rest[2]'h).toNat : Int) = bt rest 2 := bt_at rest 2
                have hc := (blk_cell BW5.out 0).trans (rfl : _ = some (Value.int .u64 (wd rest 0 2)))
                have hf := blk_frozen BW5.out 0
                have hwr := wd_range rest 0 2 (by omega)
                have hrb := bt_range rest 2
                go_wp2
                go_region
                clear hc hf hwr hrb hz hd
                rw [wd_or rest 0 2 1099511627776 (bt rest 2) (by omega) rfl rfl]
                have bw6 := blk_drew (blk_put BW5.out 0 (.int .u64 (wd rest 0 3)) rfl)
                have br6 := blk_drew (blk_far BR5.out (p := ⟨gw, 0, none⟩) (by simpa using fun e => HGW.out.1 e.symm) (.int .u64 (wd rest 0 3)))
                have bp6 := blk_drew (blk_far BP5.out (p := ⟨gw, 0, none⟩) (by simpa using fun e => HGW.out.2.1 e.symm) (.int .u64 (wd rest 0 3)))
                have hb6 := below_drew1 (HB5.out.setCell (p := ⟨gw, 0, none⟩) HGW.out.2.2 (.int .u64 (wd rest 0 3)))
                generalize (World.setCell _ ⟨gw, 0, none⟩ (.int .u64 (wd rest 0 3))).drew = w6 at bw6 br6 bp6 hb6 ⊢
                have BW6 := Aside0.mk bw6
                have BR6 := Aside0.mk br6
                have BP6 := Aside0.mk bp6
                have HB6 := Aside0.mk hb6
                clear bw6 br6 bp6 hb6
                go_wp2
                go_roundg (17 - (2 + 1))
                case measure => omega
                case rel => exact ⟨2 + 1, by omega, rfl, rfl, HB6, BR6, BP6, BW6⟩
              | 3, _, hlt, BW5 =>
                have hd : decide ((3 : Int) < ((ln : Int) + 8 - 1) / 8) = true := decide_eq_true (by omega)
                have hq : (3 < (rest.size : Int)) = True := eq_true (by have := hlt0.out; omega)
                have hq' : 3 < rest.size := by have := hlt0.out; omega
                have hz : ∀ h : 3 < rest.size, ((rest[3]'h).toNat : Int) = bt rest 3 := bt_at rest 3
                have hc := (blk_cell BW5.out 0).trans (rfl : _ = some (Value.int .u64 (wd rest 0 3)))
                have hf := blk_frozen BW5.out 0
                have hwr := wd_range rest 0 3 (by omega)
                have hrb := bt_range rest 3
                go_wp2
                go_region
                clear hc hf hwr hrb hz hd
                rw [wd_or rest 0 3 4294967296 (bt rest 3) (by omega) rfl rfl]
                have bw6 := blk_drew (blk_put BW5.out 0 (.int .u64 (wd rest 0 4)) rfl)
                have br6 := blk_drew (blk_far BR5.out (p := ⟨gw, 0, none⟩) (by simpa using fun e => HGW.out.1 e.symm) (.int .u64 (wd rest 0 4)))
                have bp6 := blk_drew (blk_far BP5.out (p := ⟨gw, 0, none⟩) (by simpa using fun e => HGW.out.2.1 e.symm) (.int .u64 (wd rest 0 4)))
                have hb6 := below_drew1 (HB5.out.setCell (p := ⟨gw, 0, none⟩) HGW.out.2.2 (.int .u64 (wd rest 0 4)))
                generalize (World.setCell _ ⟨gw, 0, none⟩ (.int .u64 (wd rest 0 4))).drew = w6 at bw6 br6 bp6 hb6 ⊢
                have BW6 := Aside0.mk bw6
                have BR6 := Aside0.mk br6
                have BP6 := Aside0.mk bp6
                have HB6 := Aside0.mk hb6
                clear bw6 br6 bp6 hb6
                go_wp2
                go_roundg (17 - (3 + 1))
                case measure => omega
                case rel => exact ⟨3 + 1, by omega, rfl, rfl, HB6, BR6, BP6, BW6⟩
              | n + 4, _, hlt, _ => exact absurd hlt (by have := hc4.out; omega)
            · have hd : decide ((i : Int) < ((ln : Int) + 8 - 1) / 8) = false := decide_eq_false (by omega)
              obtain rfl : i = (ln + 7) / 8 := by omega
              have bw6 := BW5.out
              have em : min 8 ((ln + 7) / 8) = (ln + 7) / 8 := by have := hc4.out; omega
              rw [em] at bw6
              have hw0 := (blk_cell bw6 0).trans (rfl : _ = some (Value.int .u64 (wd rest 0 ((ln + 7) / 8))))
              have hw1 := (blk_cell bw6 1).trans (rfl : _ = some (Value.int .u64 (wd rest 8 ((ln + 7) / 8 - 8))))
              have hp0 := (blk_cell BP5.out 0).trans (rfl : _ = some (Value.bool false))
              have hp1 := (blk_cell BP5.out 1).trans (rfl : _ = some (Value.int .u64 0))
              have hp2 := (blk_cell BP5.out 2).trans (rfl : _ = some (Value.int .u64 0))
              have hp3 := (blk_cell BP5.out 3).trans (rfl : _ = some (Value.int .i64 ln))
              have hf0 := blk_frozen BP5.out 0
              have hf1 := blk_frozen BP5.out 1
              have hf2 := blk_frozen BP5.out 2
              have hf3 := blk_frozen BP5.out 3
              skip
              have bp7 : ((((World.setCell wr ⟨gp, 1, none⟩ (.int .u64 (wd rest 0 ((ln + 7) / 8)))).setCell ⟨gp, 2, none⟩ (.int .u64 (wd rest 8 ((ln + 7) / 8 - 8)))).setCell ⟨gp, 1, none⟩ (.int .u64 0)).setCell ⟨gp, 2, none⟩ (.int .u64 (wd rest 0 ((ln + 7) / 8) / 4294967296))).heap[gp]? = some (.cells #[.bool false, .int .u64 0, .int .u64 (wd rest 0 ((ln + 7) / 8) / 4294967296), .int .i64 ln] 27 (0, 0)) := blk_put (blk_put (blk_put (blk_put BP5.out 1 (.int .u64 (wd rest 0 ((ln + 7) / 8))) rfl) 2 (.int .u64 (wd rest 8 ((ln + 7) / 8 - 8))) rfl) 1 (.int .u64 0) rfl) 2 (.int .u64 (wd rest 0 ((ln + 7) / 8) / 4294967296)) rfl
              have hgg : w.heap.size ≤ gp := by have := HGP.out; have := HGR.out; omega
              have br7 : ((((World.setCell wr ⟨gp, 1, none⟩ (.int .u64 (wd rest 0 ((ln + 7) / 8)))).setCell ⟨gp, 2, none⟩ (.int .u64 (wd rest 8 ((ln + 7) / 8 - 8)))).setCell ⟨gp, 1, none⟩ (.int .u64 0)).setCell ⟨gp, 2, none⟩ (.int .u64 (wd rest 0 ((ln + 7) / 8) / 4294967296))).heap[gr]? = some (.cells #[.bool false, .int .u64 0, .int .u64 0, .int .i64 0] 27 (0, 0)) := blk_far (blk_far (blk_far (blk_far BR5.out (p := ⟨gp, 1, none⟩) (by have := HGP.out; simp; omega) (.int .u64 (wd rest 0 ((ln + 7) / 8)))) (p := ⟨gp, 2, none⟩) (by have := HGP.out; simp; omega) (.int .u64 (wd rest 8 ((ln + 7) / 8 - 8)))) (p := ⟨gp, 1, none⟩) (by have := HGP.out; simp; omega) (.int .u64 0)) (p := ⟨gp, 2, none⟩) (by have := HGP.out; simp; omega) (.int .u64 (wd rest 0 ((ln + 7) / 8) / 4294967296))
              have hb7 : Below w.heap.size w ((((World.setCell wr ⟨gp, 1, none⟩ (.int .u64 (wd rest 0 ((ln + 7) / 8)))).setCell ⟨gp, 2, none⟩ (.int .u64 (wd rest 8 ((ln + 7) / 8 - 8)))).setCell ⟨gp, 1, none⟩ (.int .u64 0)).setCell ⟨gp, 2, none⟩ (.int .u64 (wd rest 0 ((ln + 7) / 8) / 4294967296))) := (((HB5.out.setCell (p := ⟨gp, 1, none⟩) hgg (.int .u64 (wd rest 0 ((ln + 7) / 8)))).setCell (p := ⟨gp, 2, none⟩) hgg (.int .u64 (wd rest 8 ((ln + 7) / 8 - 8)))).setCell (p := ⟨gp, 1, none⟩) hgg (.int .u64 0)).setCell (p := ⟨gp, 2, none⟩) hgg (.int .u64 (wd rest 0 ((ln + 7) / 8) / 4294967296))
              have BP7 := Aside0.mk bp7
              have BR7 := Aside0.mk br7
              have HB7 := Aside0.mk hb7
              clear bp7 br7 hb7
              have hq0 := (blk_cell BP7.out 0).trans (rfl : _ = some (Value.bool false))
              have hq1 := (blk_cell BP7.out 1).trans (rfl : _ = some (Value.int .u64 0))
              have hq2 := (blk_cell BP7.out 2).trans (rfl : _ = some (Value.int .u64 (wd rest 0 ((ln + 7) / 8) / 4294967296)))
              have hq3 := (blk_cell BP7.out 3).trans (rfl : _ = some (Value.int .i64 ln))
              go_wp2_with (fail)
              refine (addr_Check.calls k false 0 (wd rest 0 ((ln + 7) / 8) / 4294967296) ln c _ (by simpa using C.out)).mono ?_
              rintro e w8 ⟨rfl, hb⟩
              have BP8 := Aside0.mk (blk_below BP7.out hb)
              have BR8 := Aside0.mk (blk_below BR7.out hb)
              have HB8 := Aside0.mk (below_step HB7.out hb)
              clear hb hq0 hq1 hq2 hq3 hw0 hw1 hp0 hp1 hp2 hp3 hf0 hf1 hf2 hf3
              have hr0 := (blk_cell BR8.out 0).trans rfl
              have hr1 := (blk_cell BR8.out 1).trans rfl
              have hr2 := (blk_cell BR8.out 2).trans rfl
              have hr3 := (blk_cell BR8.out 3).trans rfl
              have hf0 := blk_frozen BR8.out 0
              have hf1 := blk_frozen BR8.out 1
              have hf2 := blk_frozen BR8.out 2
              have hf3 := blk_frozen BR8.out 3
              have hge : w.heap.size ≤ gr := by have := HGR.out; omega
              by_cases hc : c = 0
              · subst hc
                have h := H.out
                rw [if_pos rfl] at h
                simp only [Option.some.injEq, Prod.mk.injEq] at h
                obtain ⟨rfl, rfl, rfl, rfl, rfl, rfl⟩ := h
                have hp0 := (blk_cell BP8.out 0).trans (rfl : _ = some (Value.bool false))
                have hp1 := (blk_cell BP8.out 1).trans (rfl : _ = some (Value.int .u64 0))
                have hp2 := (blk_cell BP8.out 2).trans (rfl : _ = some (Value.int .u64 (wd rest 0 ((ln + 7) / 8) / 4294967296)))
                have hp3 := (blk_cell BP8.out 3).trans (rfl : _ = some (Value.int .i64 ln))
                obtain ⟨n, hn7⟩ : ∃ n : Nat, (((ln : Int) + 8 - 1) / 8) = (n : Int) := ⟨(ln + 7) / 8, by omega⟩
                have HN : Aside0 (n = (ln + 7) / 8) := ⟨by omega⟩
                have hn8 : n ≤ rest.size := by have := hlt0.out; have := HN.out; omega
                have hn9 : (0 ≤ (n : Int)) = True := eq_true (by omega)
                rw [hn7]
                clear hn7
                go_wp2
                go_region
                go_wp2
                obtain rfl := HN.out
                refine bodyPost_ret (results_ctt rfl _ _ gr 27 #[.bool false, .int .u64 0, .int .u64 (wd rest 0 ((ln + 7) / 8) / 4294967296), .int .i64 ln] (0, 0) _ rfl (blk_put (blk_put (blk_put (blk_put BR8.out 0 (.bool false) rfl) 1 (.int .u64 0) rfl) 2 (.int .u64 (wd rest 0 ((ln + 7) / 8) / 4294967296)) rfl) 3 (.int .i64 ln) rfl) Try.underlying27 rfl (by kernel_rfl)) rfl ?_
                exact ⟨rfl, below_drew1 ((((HB8.out.setCell (p := ⟨gr, 0, none⟩) hge _).setCell (p := ⟨gr, 1, none⟩) hge _).setCell (p := ⟨gr, 2, none⟩) hge _).setCell (p := ⟨gr, 3, none⟩) hge _)⟩
              · have h := H.out
                rw [if_neg hc] at h
                have hcb : (c != 0) = true := bne_iff_ne.mpr hc
                simp only [pfx_none, Option.some.injEq, Prod.mk.injEq] at h
                obtain ⟨rfl, rfl, rfl, rfl, rfl, rfl⟩ := h
                go_wp2
                refine bodyPost_ret (results_ctt rfl _ _ gr 27 #[.bool false, .int .u64 0, .int .u64 0, .int .i64 0] (0, 0) _ rfl (blk_put (blk_put (blk_put (blk_put BR8.out 0 (.bool false) rfl) 1 (.int .u64 0) rfl) 2 (.int .u64 0) rfl) 3 (.int .i64 0) rfl) Try.underlying27 rfl (by kernel_rfl)) rfl ?_
                exact ⟨rfl, (((HB8.out.setCell (p := ⟨gr, 0, none⟩) hge _).setCell (p := ⟨gr, 1, none⟩) hge _).setCell (p := ⟨gr, 2, none⟩) hge _).setCell (p := ⟨gr, 3, none⟩) hge _⟩
    · rw [if_neg c2] at h
      by_cases c2' : bt a0 0 = 6
      · rw [if_pos c2'] at h
        have c2b : (bt a0 0 != 4) = true := bne_iff_ne.mpr c2
        have c2d : (bt a0 0 != 6) = false := bne_eq_false_iff_eq.mpr c2'
        have c2c : (bt a0 0 == 6) = true := beq_iff_eq.mpr c2'
        go_enter Try.func17, Try.ntmps17
        go_wp2
        have br1 : (w.alloc (.cells #[.bool false, .int .u64 0, .int .u64 0, .int .i64 0] 27)).heap[w.heap.size]? = some (.cells #[.bool false, .int .u64 0, .int .u64 0, .int .i64 0] 27 (0, 0)) := heap_alloc_new _ _
        have hb1' : Below w.heap.size w (w.alloc (.cells #[.bool false, .int .u64 0, .int .u64 0, .int .i64 0] 27)) := below_alloc (Below.refl _ _) _
        have HS1 : Aside0 ((w.alloc (.cells #[.bool false, .int .u64 0, .int .u64 0, .int .i64 0] 27)).heap.size = w.heap.size + 1) := ⟨by simp⟩
        generalize (w.alloc (.cells #[.bool false, .int .u64 0, .int .u64 0, .int .i64 0] 27)) = w1 at br1 hb1' HS1 ⊢
        obtain ⟨gr, hgr⟩ : ∃ gr, w.heap.size = gr := ⟨_, rfl⟩
        have HGR := Aside0.mk hgr
        rw [hgr] at br1 HS1 ⊢
        have BR1 := Aside0.mk br1
        have HB1 := Aside0.mk hb1'
        clear br1 hb1' hgr
        go_region
        have br2 : (w1.alloc (.cells #[.bool true, .int .u64 0, .int .u64 0, .int .i64 ln] 27)).drew.heap[gr]? = some (.cells #[.bool false, .int .u64 0, .int .u64 0, .int .i64 0] 27 (0, 0)) := blk_drew (blk_alloc BR1.out _)
        have bp2 : (w1.alloc (.cells #[.bool true, .int .u64 0, .int .u64 0, .int .i64 ln] 27)).drew.heap[w1.heap.size]? = some (.cells #[.bool true, .int .u64 0, .int .u64 0, .int .i64 ln] 27 (0, 0)) := blk_drew (heap_alloc_new _ _)
        have hb2 : Below w.heap.size w (w1.alloc (.cells #[.bool true, .int .u64 0, .int .u64 0, .int .i64 ln] 27)).drew := below_drew1 (below_alloc HB1.out _)
        have HGP : Aside0 (w1.heap.size = gr + 1) := HS1
        generalize (w1.alloc (.cells #[.bool true, .int .u64 0, .int .u64 0, .int .i64 ln] 27)).drew = w2 at br2 bp2 hb2 ⊢
        obtain ⟨gp, hgp⟩ : ∃ gp, w1.heap.size = gp := ⟨_, rfl⟩
        rw [hgp] at bp2 HGP ⊢
        have HB2 := Aside0.mk hb2
        have BR2 := Aside0.mk br2
        have BP2 := Aside0.mk bp2
        clear hgp hb2 br2 bp2 HS1 BR1 HB1
        have hp0 : w2.cell? ⟨gp, 0, none⟩ = some (.bool true) := (blk_cell BP2.out 0).trans rfl
        have hp3 : w2.cell? ⟨gp, 3, none⟩ = some (.int .i64 ln) := (blk_cell BP2.out 3).trans rfl
        go_wp2
        have hrs : (a0.extract 2 a0.size).size = a0.size - 2 := by simp
        generalize a0.extract 2 a0.size = rest at h hrs ⊢
        have hp0d : ∀ q, (w2.drewN q).cell? ⟨gp, 0, none⟩ = some (.bool true) := fun _ => hp0
        have hp3d : ∀ q, (w2.drewN q).cell? ⟨gp, 3, none⟩ = some (.int .i64 ln) := fun _ => hp3
        by_cases c3 : (rest.size : Int) < ((ln : Int) + 7) / 8
        · rw [if_pos c3] at h
          simp only [pfx_none, Option.some.injEq, Prod.mk.injEq] at h
          obtain ⟨rfl, rfl, rfl, rfl, rfl, rfl⟩ := h
          have hd : decide (((a0.size - 2 : Nat) : Int) < ((ln : Int) + 8 - 1) / 8) = true := decide_eq_true (by omega)
          go_quiet (fail)
          have br3 := blk_drewN BR2.out nq
          have hb3 := pw_below_drewN HB2.out nq
          generalize w2.drewN nq = w3 at br3 hb3 ⊢
          have BR3 := Aside0.mk br3
          have HB3 := Aside0.mk hb3
          clear br3 hb3
          have hr0 := (blk_cell BR3.out 0).trans rfl
          have hr1 := (blk_cell BR3.out 1).trans rfl
          have hr2 := (blk_cell BR3.out 2).trans rfl
          have hr3 := (blk_cell BR3.out 3).trans rfl
          have hf0 := blk_frozen BR3.out 0
          have hf1 := blk_frozen BR3.out 1
          have hf2 := blk_frozen BR3.out 2
          have hf3 := blk_frozen BR3.out 3
          go_wp2
          have hge : w.heap.size ≤ gr := by have := HGR.out; omega
          refine bodyPost_ret (results_ctt rfl _ _ gr 27 #[.bool false, .int .u64 0, .int .u64 0, .int .i64 0] (0, 0) _ rfl (blk_put (blk_put (blk_put (blk_put BR3.out 0 (.bool false) rfl) 1 (.int .u64 0) rfl) 2 (.int .u64 0) rfl) 3 (.int .i64 0) rfl) Try.underlying27 rfl (by kernel_rfl)) rfl ?_
          exact ⟨rfl, (((HB3.out.setCell (p := ⟨gr, 0, none⟩) hge _).setCell (p := ⟨gr, 1, none⟩) hge _).setCell (p := ⟨gr, 2, none⟩) hge _).setCell (p := ⟨gr, 3, none⟩) hge _⟩
        · rw [if_neg c3] at h
          have hd : decide (((a0.size - 2 : Nat) : Int) < ((ln : Int) + 8 - 1) / 8) = false := decide_eq_false (by omega)
          by_cases c4 : (ln : Int) > 128
          · rw [if_pos c4] at h
            simp only [pfx_none, Option.some.injEq, Prod.mk.injEq] at h
            obtain ⟨rfl, rfl, rfl, rfl, rfl, rfl⟩ := h
            have hd2 : decide (128 < (ln : Int)) = true := decide_eq_true c4
            go_big_quiet (first | (go_at_call 39; exact Calls.quiet_of ((addr_Wide.calls true 128 _ rfl).mono (fun e w' h => ⟨h.1, h.2.out⟩))))
            have br3 := blk_drewN BR2.out nq
            have hb3 := pw_below_drewN HB2.out nq
            generalize w2.drewN nq = w3 at br3 hb3 ⊢
            have BR3 := Aside0.mk br3
            have HB3 := Aside0.mk hb3
            clear br3 hb3
            have hr0 := (blk_cell BR3.out 0).trans rfl
            have hr1 := (blk_cell BR3.out 1).trans rfl
            have hr2 := (blk_cell BR3.out 2).trans rfl
            have hr3 := (blk_cell BR3.out 3).trans rfl
            have hf0 := blk_frozen BR3.out 0
            have hf1 := blk_frozen BR3.out 1
            have hf2 := blk_frozen BR3.out 2
            have hf3 := blk_frozen BR3.out 3
            go_wp2
            have hge : w.heap.size ≤ gr := by have := HGR.out; omega
            refine bodyPost_ret (results_ctt rfl _ _ gr 27 #[.bool false, .int .u64 0, .int .u64 0, .int .i64 0] (0, 0) _ rfl (blk_put (blk_put (blk_put (blk_put BR3.out 0 (.bool false) rfl) 1 (.int .u64 0) rfl) 2 (.int .u64 0) rfl) 3 (.int .i64 0) rfl) Try.underlying27 rfl (by kernel_rfl)) rfl ?_
            exact ⟨rfl, (((HB3.out.setCell (p := ⟨gr, 0, none⟩) hge _).setCell (p := ⟨gr, 1, none⟩) hge _).setCell (p := ⟨gr, 2, none⟩) hge _).setCell (p := ⟨gr, 3, none⟩) hge _⟩
          · rw [if_neg c4] at h
            have hd2 : decide (128 < (ln : Int)) = false := decide_eq_false c4
            have hc4 : Aside0 (ln ≤ 128) := ⟨by omega⟩
            have hlt0 : Aside0 ((ln + 7) / 8 ≤ rest.size) := ⟨by omega⟩
            unfold pfx_of at h
            obtain ⟨c, hC, h⟩ := Option.bind_eq_some_iff.mp h
            have C := Aside0.mk hC
            have H := Aside0.mk h
            clear h hC
            go_big_quiet (first | (go_at_call 39; exact Calls.quiet_of ((addr_Wide.calls true 128 _ rfl).mono (fun e w' h => ⟨h.1, h.2.out⟩))))
            clear hrs
            have br3 := blk_drewN BR2.out nq
            have bp3 := blk_drewN BP2.out nq
            have hb3 := pw_below_drewN HB2.out nq
            clear hp0 hp3 hp0d hp3d
            generalize w2.drewN nq = w3 at br3 bp3 hb3 ⊢
            have BR3 := Aside0.mk br3
            have BP3 := Aside0.mk bp3
            have HB3 := Aside0.mk hb3
            clear br3 hb3 bp3
            go_wp2
            have hbw : w3.heap.size ≠ gr ∧ w3.heap.size ≠ gp ∧ w.heap.size ≤ w3.heap.size := ⟨fun e => by have := blk_lt BR3.out; omega, fun e => by have := blk_lt BP3.out; omega, HB3.out.size⟩
            have br4 := blk_alloc BR3.out (.cells #[.int .u64 0, .int .u64 0] 72)
            have bp4 := blk_alloc BP3.out (.cells #[.int .u64 0, .int .u64 0] 72)
            have bw4 := heap_alloc_new w3 (.cells #[.int .u64 0, .int .u64 0] 72)
            have hb4 := below_alloc HB3.out (.cells #[.int .u64 0, .int .u64 0] 72)
            generalize w3.alloc (.cells #[.int .u64 0, .int .u64 0] 72) = w4 at br4 bp4 bw4 hb4 ⊢
            generalize w3.heap.size = gw at bw4 hbw ⊢
            have HGW := Aside0.mk hbw
            have BR4 := Aside0.mk br4
            have BP4 := Aside0.mk bp4
            have BW4 := Aside0.mk bw4
            have HB4 := Aside0.mk hb4
            clear hbw br4 bp4 bw4 hb4
            go_loopg [51] 17 (fun kq v51 w' => ∃ (i : Nat), i ≤ (ln + 7) / 8 ∧ kq = 17 - i ∧ v51 = .int .i64 (i : Int) ∧ Aside0 (Below w.heap.size w w') ∧ Aside0 (w'.heap[gr]? = some (.cells #[.bool false, .int .u64 0, .int .u64 0, .int .i64 0] 27 (0, 0))) ∧ Aside0 (w'.heap[gp]? = some (.cells #[.bool true, .int .u64 0, .int .u64 0, .int .i64 ln] 27 (0, 0))) ∧ Aside0 (w'.heap[gw]? = some (.cells #[.int .u64 (wd rest 0 (min 8 i)), .int .u64 (wd rest 8 (i - 8))] 72 (0, 0))))
            case atStart => exact ⟨0, by omega, rfl, rfl, HB4, BR4, BP4, BW4⟩
            case round =>
              obtain ⟨i, hi, rfl, rfl, HB5, BR5, BP5, BW5⟩ := hrel
              by_cases hlt : i < (ln + 7) / 8
              · match i, hi, hlt, BW5 with
                | 0, _, hlt, BW5 =>
                  have hd : decide ((0 : Int) < ((ln : Int) + 8 - 1) / 8) = true := decide_eq_true (by omega)
                  have hq : (0 < (rest.size : Int)) = True := eq_true (by have := hlt0.out; omega)
                  have hq' : 0 < rest.size := by have := hlt0.out; omega
                  have hz : ∀ h : 0 < rest.size, ((rest[0]'h).toNat : Int) = bt rest 0 := bt_at rest 0
                  have hc := (blk_cell BW5.out 0).trans (rfl : _ = some (Value.int .u64 (wd rest 0 0)))
                  have hf := blk_frozen BW5.out 0
                  have hwr := wd_range rest 0 0 (by omega)
                  have hrb := bt_range rest 0
                  go_wp2
                  go_region
                  clear hc hf hwr hrb hz hd
                  rw [wd_or rest 0 0 72057594037927936 (bt rest 0) (by omega) rfl rfl]
                  have bw6 := blk_drew (blk_put BW5.out 0 (.int .u64 (wd rest 0 1)) rfl)
                  have br6 := blk_drew (blk_far BR5.out (p := ⟨gw, 0, none⟩) (by simpa using fun e => HGW.out.1 e.symm) (.int .u64 (wd rest 0 1)))
                  have bp6 := blk_drew (blk_far BP5.out (p := ⟨gw, 0, none⟩) (by simpa using fun e => HGW.out.2.1 e.symm) (.int .u64 (wd rest 0 1)))
                  have hb6 := below_drew1 (HB5.out.setCell (p := ⟨gw, 0, none⟩) HGW.out.2.2 (.int .u64 (wd rest 0 1)))
                  generalize (World.setCell _ ⟨gw, 0, none⟩ (.int .u64 (wd rest 0 1))).drew = w6 at bw6 br6 bp6 hb6 ⊢
                  have BW6 := Aside0.mk bw6
                  have BR6 := Aside0.mk br6
                  have BP6 := Aside0.mk bp6
                  have HB6 := Aside0.mk hb6
                  clear bw6 br6 bp6 hb6
                  go_wp2
                  go_roundg (17 - (0 + 1))
                  case measure => omega
                  case rel => exact ⟨0 + 1, by omega, rfl, rfl, HB6, BR6, BP6, BW6⟩
                | 1, _, hlt, BW5 =>
                  have hd : decide ((1 : Int) < ((ln : Int) + 8 - 1) / 8) = true := decide_eq_true (by omega)
                  have hq : (1 < (rest.size : Int)) = True := eq_true (by have := hlt0.out; omega)
                  have hq' : 1 < rest.size := by have := hlt0.out; omega
                  have hz : ∀ h : 1 < rest.size, ((rest[1]'h).toNat : Int) = bt rest 1 := bt_at rest 1
                  have hc := (blk_cell BW5.out 0).trans (rfl : _ = some (Value.int .u64 (wd rest 0 1)))
                  have hf := blk_frozen BW5.out 0
                  have hwr := wd_range rest 0 1 (by omega)
                  have hrb := bt_range rest 1
                  go_wp2
                  go_region
                  clear hc hf hwr hrb hz hd
                  rw [wd_or rest 0 1 281474976710656 (bt rest 1) (by omega) rfl rfl]
                  have bw6 := blk_drew (blk_put BW5.out 0 (.int .u64 (wd rest 0 2)) rfl)
                  have br6 := blk_drew (blk_far BR5.out (p := ⟨gw, 0, none⟩) (by simpa using fun e => HGW.out.1 e.symm) (.int .u64 (wd rest 0 2)))
                  have bp6 := blk_drew (blk_far BP5.out (p := ⟨gw, 0, none⟩) (by simpa using fun e => HGW.out.2.1 e.symm) (.int .u64 (wd rest 0 2)))
                  have hb6 := below_drew1 (HB5.out.setCell (p := ⟨gw, 0, none⟩) HGW.out.2.2 (.int .u64 (wd rest 0 2)))
                  generalize (World.setCell _ ⟨gw, 0, none⟩ (.int .u64 (wd rest 0 2))).drew = w6 at bw6 br6 bp6 hb6 ⊢
                  have BW6 := Aside0.mk bw6
                  have BR6 := Aside0.mk br6
                  have BP6 := Aside0.mk bp6
                  have HB6 := Aside0.mk hb6
                  clear bw6 br6 bp6 hb6
                  go_wp2
                  go_roundg (17 - (1 + 1))
                  case measure => omega
                  case rel => exact ⟨1 + 1, by omega, rfl, rfl, HB6, BR6, BP6, BW6⟩
                | 2, _, hlt, BW5 =>
                  have hd : decide ((2 : Int) < ((ln : Int) + 8 - 1) / 8) = true := decide_eq_true (by omega)
                  have hq : (2 < (rest.size : Int)) = True := eq_true (by have := hlt0.out; omega)
                  have hq' : 2 < rest.size := by have := hlt0.out; omega
                  have hz : ∀ h : 2 < rest.size, ((rest[2]'h).toNat : Int) = bt rest 2 := bt_at rest 2
                  have hc := (blk_cell BW5.out 0).trans (rfl : _ = some (Value.int .u64 (wd rest 0 2)))
                  have hf := blk_frozen BW5.out 0
                  have hwr := wd_range rest 0 2 (by omega)
                  have hrb := bt_range rest 2
                  go_wp2
                  go_region
                  clear hc hf hwr hrb hz hd
                  rw [wd_or rest 0 2 1099511627776 (bt rest 2) (by omega) rfl rfl]
                  have bw6 := blk_drew (blk_put BW5.out 0 (.int .u64 (wd rest 0 3)) rfl)
                  have br6 := blk_drew (blk_far BR5.out (p := ⟨gw, 0, none⟩) (by simpa using fun e => HGW.out.1 e.symm) (.int .u64 (wd rest 0 3)))
                  have bp6 := blk_drew (blk_far BP5.out (p := ⟨gw, 0, none⟩) (by simpa using fun e => HGW.out.2.1 e.symm) (.int .u64 (wd rest 0 3)))
                  have hb6 := below_drew1 (HB5.out.setCell (p := ⟨gw, 0, none⟩) HGW.out.2.2 (.int .u64 (wd rest 0 3)))
                  generalize (World.setCell _ ⟨gw, 0, none⟩ (.int .u64 (wd rest 0 3))).drew = w6 at bw6 br6 bp6 hb6 ⊢
                  have BW6 := Aside0.mk bw6
                  have BR6 := Aside0.mk br6
                  have BP6 := Aside0.mk bp6
                  have HB6 := Aside0.mk hb6
                  clear bw6 br6 bp6 hb6
                  go_wp2
                  go_roundg (17 - (2 + 1))
                  case measure => omega
                  case rel => exact ⟨2 + 1, by omega, rfl, rfl, HB6, BR6, BP6, BW6⟩
                | 3, _, hlt, BW5 =>
                  have hd : decide ((3 : Int) < ((ln : Int) + 8 - 1) / 8) = true := decide_eq_true (by omega)
                  have hq : (3 < (rest.size : Int)) = True := eq_true (by have := hlt0.out; omega)
                  have hq' : 3 < rest.size := by have := hlt0.out; omega
                  have hz : ∀ h : 3 < rest.size, ((rest[3]'h).toNat : Int) = bt rest 3 := bt_at rest 3
                  have hc := (blk_cell BW5.out 0).trans (rfl : _ = some (Value.int .u64 (wd rest 0 3)))
                  have hf := blk_frozen BW5.out 0
                  have hwr := wd_range rest 0 3 (by omega)
                  have hrb := bt_range rest 3
                  go_wp2
                  go_region
                  clear hc hf hwr hrb hz hd
                  rw [wd_or rest 0 3 4294967296 (bt rest 3) (by omega) rfl rfl]
                  have bw6 := blk_drew (blk_put BW5.out 0 (.int .u64 (wd rest 0 4)) rfl)
                  have br6 := blk_drew (blk_far BR5.out (p := ⟨gw, 0, none⟩) (by simpa using fun e => HGW.out.1 e.symm) (.int .u64 (wd rest 0 4)))
                  have bp6 := blk_drew (blk_far BP5.out (p := ⟨gw, 0, none⟩) (by simpa using fun e => HGW.out.2.1 e.symm) (.int .u64 (wd rest 0 4)))
                  have hb6 := below_drew1 (HB5.out.setCell (p := ⟨gw, 0, none⟩) HGW.out.2.2 (.int .u64 (wd rest 0 4)))
                  generalize (World.setCell _ ⟨gw, 0, none⟩ (.int .u64 (wd rest 0 4))).drew = w6 at bw6 br6 bp6 hb6 ⊢
                  have BW6 := Aside0.mk bw6
                  have BR6 := Aside0.mk br6
                  have BP6 := Aside0.mk bp6
                  have HB6 := Aside0.mk hb6
                  clear bw6 br6 bp6 hb6
                  go_wp2
                  go_roundg (17 - (3 + 1))
                  case measure => omega
                  case rel => exact ⟨3 + 1, by omega, rfl, rfl, HB6, BR6, BP6, BW6⟩
                | 4, _, hlt, BW5 =>
                  have hd : decide ((4 : Int) < ((ln : Int) + 8 - 1) / 8) = true := decide_eq_true (by omega)
                  have hq : (4 < (rest.size : Int)) = True := eq_true (by have := hlt0.out; omega)
                  have hq' : 4 < rest.size := by have := hlt0.out; omega
                  have hz : ∀ h : 4 < rest.size, ((rest[4]'h).toNat : Int) = bt rest 4 := bt_at rest 4
                  have hc := (blk_cell BW5.out 0).trans (rfl : _ = some (Value.int .u64 (wd rest 0 4)))
                  have hf := blk_frozen BW5.out 0
                  have hwr := wd_range rest 0 4 (by omega)
                  have hrb := bt_range rest 4
                  go_wp2
                  go_region
                  clear hc hf hwr hrb hz hd
                  rw [wd_or rest 0 4 16777216 (bt rest 4) (by omega) rfl rfl]
                  have bw6 := blk_drew (blk_put BW5.out 0 (.int .u64 (wd rest 0 5)) rfl)
                  have br6 := blk_drew (blk_far BR5.out (p := ⟨gw, 0, none⟩) (by simpa using fun e => HGW.out.1 e.symm) (.int .u64 (wd rest 0 5)))
                  have bp6 := blk_drew (blk_far BP5.out (p := ⟨gw, 0, none⟩) (by simpa using fun e => HGW.out.2.1 e.symm) (.int .u64 (wd rest 0 5)))
                  have hb6 := below_drew1 (HB5.out.setCell (p := ⟨gw, 0, none⟩) HGW.out.2.2 (.int .u64 (wd rest 0 5)))
                  generalize (World.setCell _ ⟨gw, 0, none⟩ (.int .u64 (wd rest 0 5))).drew = w6 at bw6 br6 bp6 hb6 ⊢
                  have BW6 := Aside0.mk bw6
                  have BR6 := Aside0.mk br6
                  have BP6 := Aside0.mk bp6
                  have HB6 := Aside0.mk hb6
                  clear bw6 br6 bp6 hb6
                  go_wp2
                  go_roundg (17 - (4 + 1))
                  case measure => omega
                  case rel => exact ⟨4 + 1, by omega, rfl, rfl, HB6, BR6, BP6, BW6⟩
                | 5, _, hlt, BW5 =>
                  have hd : decide ((5 : Int) < ((ln : Int) + 8 - 1) / 8) = true := decide_eq_true (by omega)
                  have hq : (5 < (rest.size : Int)) = True := eq_true (by have := hlt0.out; omega)
                  have hq' : 5 < rest.size := by have := hlt0.out; omega
                  have hz : ∀ h : 5 < rest.size, ((rest[5]'h).toNat : Int) = bt rest 5 := bt_at rest 5
                  have hc := (blk_cell BW5.out 0).trans (rfl : _ = some (Value.int .u64 (wd rest 0 5)))
                  have hf := blk_frozen BW5.out 0
                  have hwr := wd_range rest 0 5 (by omega)
                  have hrb := bt_range rest 5
                  go_wp2
                  go_region
                  clear hc hf hwr hrb hz hd
                  rw [wd_or rest 0 5 65536 (bt rest 5) (by omega) rfl rfl]
                  have bw6 := blk_drew (blk_put BW5.out 0 (.int .u64 (wd rest 0 6)) rfl)
                  have br6 := blk_drew (blk_far BR5.out (p := ⟨gw, 0, none⟩) (by simpa using fun e => HGW.out.1 e.symm) (.int .u64 (wd rest 0 6)))
                  have bp6 := blk_drew (blk_far BP5.out (p := ⟨gw, 0, none⟩) (by simpa using fun e => HGW.out.2.1 e.symm) (.int .u64 (wd rest 0 6)))
                  have hb6 := below_drew1 (HB5.out.setCell (p := ⟨gw, 0, none⟩) HGW.out.2.2 (.int .u64 (wd rest 0 6)))
                  generalize (World.setCell _ ⟨gw, 0, none⟩ (.int .u64 (wd rest 0 6))).drew = w6 at bw6 br6 bp6 hb6 ⊢
                  have BW6 := Aside0.mk bw6
                  have BR6 := Aside0.mk br6
                  have BP6 := Aside0.mk bp6
                  have HB6 := Aside0.mk hb6
                  clear bw6 br6 bp6 hb6
                  go_wp2
                  go_roundg (17 - (5 + 1))
                  case measure => omega
                  case rel => exact ⟨5 + 1, by omega, rfl, rfl, HB6, BR6, BP6, BW6⟩
                | 6, _, hlt, BW5 =>
                  have hd : decide ((6 : Int) < ((ln : Int) + 8 - 1) / 8) = true := decide_eq_true (by omega)
                  have hq : (6 < (rest.size : Int)) = True := eq_true (by have := hlt0.out; omega)
                  have hq' : 6 < rest.size := by have := hlt0.out; omega
                  have hz : ∀ h : 6 < rest.size, ((rest[6]'h).toNat : Int) = bt rest 6 := bt_at rest 6
                  have hc := (blk_cell BW5.out 0).trans (rfl : _ = some (Value.int .u64 (wd rest 0 6)))
                  have hf := blk_frozen BW5.out 0
                  have hwr := wd_range rest 0 6 (by omega)
                  have hrb := bt_range rest 6
                  go_wp2
                  go_region
                  clear hc hf hwr hrb hz hd
                  rw [wd_or rest 0 6 256 (bt rest 6) (by omega) rfl rfl]
                  have bw6 := blk_drew (blk_put BW5.out 0 (.int .u64 (wd rest 0 7)) rfl)
                  have br6 := blk_drew (blk_far BR5.out (p := ⟨gw, 0, none⟩) (by simpa using fun e => HGW.out.1 e.symm) (.int .u64 (wd rest 0 7)))
                  have bp6 := blk_drew (blk_far BP5.out (p := ⟨gw, 0, none⟩) (by simpa using fun e => HGW.out.2.1 e.symm) (.int .u64 (wd rest 0 7)))
                  have hb6 := below_drew1 (HB5.out.setCell (p := ⟨gw, 0, none⟩) HGW.out.2.2 (.int .u64 (wd rest 0 7)))
                  generalize (World.setCell _ ⟨gw, 0, none⟩ (.int .u64 (wd rest 0 7))).drew = w6 at bw6 br6 bp6 hb6 ⊢
                  have BW6 := Aside0.mk bw6
                  have BR6 := Aside0.mk br6
                  have BP6 := Aside0.mk bp6
                  have HB6 := Aside0.mk hb6
                  clear bw6 br6 bp6 hb6
                  go_wp2
                  go_roundg (17 - (6 + 1))
                  case measure => omega
                  case rel => exact ⟨6 + 1, by omega, rfl, rfl, HB6, BR6, BP6, BW6⟩
                | 7, _, hlt, BW5 =>
                  have hd : decide ((7 : Int) < ((ln : Int) + 8 - 1) / 8) = true := decide_eq_true (by omega)
                  have hq : (7 < (rest.size : Int)) = True := eq_true (by have := hlt0.out; omega)
                  have hq' : 7 < rest.size := by have := hlt0.out; omega
                  have hz : ∀ h : 7 < rest.size, ((rest[7]'h).toNat : Int) = bt rest 7 := bt_at rest 7
                  have hc := (blk_cell BW5.out 0).trans (rfl : _ = some (Value.int .u64 (wd rest 0 7)))
                  have hf := blk_frozen BW5.out 0
                  have hwr := wd_range rest 0 7 (by omega)
                  have hrb := bt_range rest 7
                  go_wp2
                  go_region
                  clear hc hf hwr hrb hz hd
                  rw [wd_or7 rest 0 (bt rest 7) rfl]
                  have bw6 := blk_drew (blk_put BW5.out 0 (.int .u64 (wd rest 0 8)) rfl)
                  have br6 := blk_drew (blk_far BR5.out (p := ⟨gw, 0, none⟩) (by simpa using fun e => HGW.out.1 e.symm) (.int .u64 (wd rest 0 8)))
                  have bp6 := blk_drew (blk_far BP5.out (p := ⟨gw, 0, none⟩) (by simpa using fun e => HGW.out.2.1 e.symm) (.int .u64 (wd rest 0 8)))
                  have hb6 := below_drew1 (HB5.out.setCell (p := ⟨gw, 0, none⟩) HGW.out.2.2 (.int .u64 (wd rest 0 8)))
                  generalize (World.setCell _ ⟨gw, 0, none⟩ (.int .u64 (wd rest 0 8))).drew = w6 at bw6 br6 bp6 hb6 ⊢
                  have BW6 := Aside0.mk bw6
                  have BR6 := Aside0.mk br6
                  have BP6 := Aside0.mk bp6
                  have HB6 := Aside0.mk hb6
                  clear bw6 br6 bp6 hb6
                  go_wp2
                  go_roundg (17 - (7 + 1))
                  case measure => omega
                  case rel => exact ⟨7 + 1, by omega, rfl, rfl, HB6, BR6, BP6, BW6⟩
                | 8, _, hlt, BW5 =>
                  have hd : decide ((8 : Int) < ((ln : Int) + 8 - 1) / 8) = true := decide_eq_true (by omega)
                  have hq : (8 < (rest.size : Int)) = True := eq_true (by have := hlt0.out; omega)
                  have hq' : 8 < rest.size := by have := hlt0.out; omega
                  have hz : ∀ h : 8 < rest.size, ((rest[8]'h).toNat : Int) = bt rest 8 := bt_at rest 8
                  have hc := (blk_cell BW5.out 1).trans (rfl : _ = some (Value.int .u64 (wd rest 8 0)))
                  have hf := blk_frozen BW5.out 1
                  have hwr := wd_range rest 8 0 (by omega)
                  have hrb := bt_range rest 8
                  go_wp2
                  go_region
                  clear hc hf hwr hrb hz hd
                  rw [wd_or rest 8 0 72057594037927936 (bt rest 8) (by omega) rfl rfl]
                  have bw6 := blk_drew (blk_put BW5.out 1 (.int .u64 (wd rest 8 1)) rfl)
                  have br6 := blk_drew (blk_far BR5.out (p := ⟨gw, 1, none⟩) (by simpa using fun e => HGW.out.1 e.symm) (.int .u64 (wd rest 8 1)))
                  have bp6 := blk_drew (blk_far BP5.out (p := ⟨gw, 1, none⟩) (by simpa using fun e => HGW.out.2.1 e.symm) (.int .u64 (wd rest 8 1)))
                  have hb6 := below_drew1 (HB5.out.setCell (p := ⟨gw, 1, none⟩) HGW.out.2.2 (.int .u64 (wd rest 8 1)))
                  generalize (World.setCell _ ⟨gw, 1, none⟩ (.int .u64 (wd rest 8 1))).drew = w6 at bw6 br6 bp6 hb6 ⊢
                  have BW6 := Aside0.mk bw6
                  have BR6 := Aside0.mk br6
                  have BP6 := Aside0.mk bp6
                  have HB6 := Aside0.mk hb6
                  clear bw6 br6 bp6 hb6
                  go_wp2
                  go_roundg (17 - (8 + 1))
                  case measure => omega
                  case rel => exact ⟨8 + 1, by omega, rfl, rfl, HB6, BR6, BP6, BW6⟩
                | 9, _, hlt, BW5 =>
                  have hd : decide ((9 : Int) < ((ln : Int) + 8 - 1) / 8) = true := decide_eq_true (by omega)
                  have hq : (9 < (rest.size : Int)) = True := eq_true (by have := hlt0.out; omega)
                  have hq' : 9 < rest.size := by have := hlt0.out; omega
                  have hz : ∀ h : 9 < rest.size, ((rest[9]'h).toNat : Int) = bt rest 9 := bt_at rest 9
                  have hc := (blk_cell BW5.out 1).trans (rfl : _ = some (Value.int .u64 (wd rest 8 1)))
                  have hf := blk_frozen BW5.out 1
                  have hwr := wd_range rest 8 1 (by omega)
                  have hrb := bt_range rest 9
                  go_wp2
                  go_region
                  clear hc hf hwr hrb hz hd
                  rw [wd_or rest 8 1 281474976710656 (bt rest 9) (by omega) rfl rfl]
                  have bw6 := blk_drew (blk_put BW5.out 1 (.int .u64 (wd rest 8 2)) rfl)
                  have br6 := blk_drew (blk_far BR5.out (p := ⟨gw, 1, none⟩) (by simpa using fun e => HGW.out.1 e.symm) (.int .u64 (wd rest 8 2)))
                  have bp6 := blk_drew (blk_far BP5.out (p := ⟨gw, 1, none⟩) (by simpa using fun e => HGW.out.2.1 e.symm) (.int .u64 (wd rest 8 2)))
                  have hb6 := below_drew1 (HB5.out.setCell (p := ⟨gw, 1, none⟩) HGW.out.2.2 (.int .u64 (wd rest 8 2)))
                  generalize (World.setCell _ ⟨gw, 1, none⟩ (.int .u64 (wd rest 8 2))).drew = w6 at bw6 br6 bp6 hb6 ⊢
                  have BW6 := Aside0.mk bw6
                  have BR6 := Aside0.mk br6
                  have BP6 := Aside0.mk bp6
                  have HB6 := Aside0.mk hb6
                  clear bw6 br6 bp6 hb6
                  go_wp2
                  go_roundg (17 - (9 + 1))
                  case measure => omega
                  case rel => exact ⟨9 + 1, by omega, rfl, rfl, HB6, BR6, BP6, BW6⟩
                | 10, _, hlt, BW5 =>
                  have hd : decide ((10 : Int) < ((ln : Int) + 8 - 1) / 8) = true := decide_eq_true (by omega)
                  have hq : (10 < (rest.size : Int)) = True := eq_true (by have := hlt0.out; omega)
                  have hq' : 10 < rest.size := by have := hlt0.out; omega
                  have hz : ∀ h : 10 < rest.size, ((rest[10]'h).toNat : Int) = bt rest 10 := bt_at rest 10
                  have hc := (blk_cell BW5.out 1).trans (rfl : _ = some (Value.int .u64 (wd rest 8 2)))
                  have hf := blk_frozen BW5.out 1
                  have hwr := wd_range rest 8 2 (by omega)
                  have hrb := bt_range rest 10
                  go_wp2
                  go_region
                  clear hc hf hwr hrb hz hd
                  rw [wd_or rest 8 2 1099511627776 (bt rest 10) (by omega) rfl rfl]
                  have bw6 := blk_drew (blk_put BW5.out 1 (.int .u64 (wd rest 8 3)) rfl)
                  have br6 := blk_drew (blk_far BR5.out (p := ⟨gw, 1, none⟩) (by simpa using fun e => HGW.out.1 e.symm) (.int .u64 (wd rest 8 3)))
                  have bp6 := blk_drew (blk_far BP5.out (p := ⟨gw, 1, none⟩) (by simpa using fun e => HGW.out.2.1 e.symm) (.int .u64 (wd rest 8 3)))
                  have hb6 := below_drew1 (HB5.out.setCell (p := ⟨gw, 1, none⟩) HGW.out.2.2 (.int .u64 (wd rest 8 3)))
                  generalize (World.setCell _ ⟨gw, 1, none⟩ (.int .u64 (wd rest 8 3))).drew = w6 at bw6 br6 bp6 hb6 ⊢
                  have BW6 := Aside0.mk bw6
                  have BR6 := Aside0.mk br6
                  have BP6 := Aside0.mk bp6
                  have HB6 := Aside0.mk hb6
                  clear bw6 br6 bp6 hb6
                  go_wp2
                  go_roundg (17 - (10 + 1))
                  case measure => omega
                  case rel => exact ⟨10 + 1, by omega, rfl, rfl, HB6, BR6, BP6, BW6⟩
                | 11, _, hlt, BW5 =>
                  have hd : decide ((11 : Int) < ((ln : Int) + 8 - 1) / 8) = true := decide_eq_true (by omega)
                  have hq : (11 < (rest.size : Int)) = True := eq_true (by have := hlt0.out; omega)
                  have hq' : 11 < rest.size := by have := hlt0.out; omega
                  have hz : ∀ h : 11 < rest.size, ((rest[11]'h).toNat : Int) = bt rest 11 := bt_at rest 11
                  have hc := (blk_cell BW5.out 1).trans (rfl : _ = some (Value.int .u64 (wd rest 8 3)))
                  have hf := blk_frozen BW5.out 1
                  have hwr := wd_range rest 8 3 (by omega)
                  have hrb := bt_range rest 11
                  go_wp2
                  go_region
                  clear hc hf hwr hrb hz hd
                  rw [wd_or rest 8 3 4294967296 (bt rest 11) (by omega) rfl rfl]
                  have bw6 := blk_drew (blk_put BW5.out 1 (.int .u64 (wd rest 8 4)) rfl)
                  have br6 := blk_drew (blk_far BR5.out (p := ⟨gw, 1, none⟩) (by simpa using fun e => HGW.out.1 e.symm) (.int .u64 (wd rest 8 4)))
                  have bp6 := blk_drew (blk_far BP5.out (p := ⟨gw, 1, none⟩) (by simpa using fun e => HGW.out.2.1 e.symm) (.int .u64 (wd rest 8 4)))
                  have hb6 := below_drew1 (HB5.out.setCell (p := ⟨gw, 1, none⟩) HGW.out.2.2 (.int .u64 (wd rest 8 4)))
                  generalize (World.setCell _ ⟨gw, 1, none⟩ (.int .u64 (wd rest 8 4))).drew = w6 at bw6 br6 bp6 hb6 ⊢
                  have BW6 := Aside0.mk bw6
                  have BR6 := Aside0.mk br6
                  have BP6 := Aside0.mk bp6
                  have HB6 := Aside0.mk hb6
                  clear bw6 br6 bp6 hb6
                  go_wp2
                  go_roundg (17 - (11 + 1))
                  case measure => omega
                  case rel => exact ⟨11 + 1, by omega, rfl, rfl, HB6, BR6, BP6, BW6⟩
                | 12, _, hlt, BW5 =>
                  have hd : decide ((12 : Int) < ((ln : Int) + 8 - 1) / 8) = true := decide_eq_true (by omega)
                  have hq : (12 < (rest.size : Int)) = True := eq_true (by have := hlt0.out; omega)
                  have hq' : 12 < rest.size := by have := hlt0.out; omega
                  have hz : ∀ h : 12 < rest.size, ((rest[12]'h).toNat : Int) = bt rest 12 := bt_at rest 12
                  have hc := (blk_cell BW5.out 1).trans (rfl : _ = some (Value.int .u64 (wd rest 8 4)))
                  have hf := blk_frozen BW5.out 1
                  have hwr := wd_range rest 8 4 (by omega)
                  have hrb := bt_range rest 12
                  go_wp2
                  go_region
                  clear hc hf hwr hrb hz hd
                  rw [wd_or rest 8 4 16777216 (bt rest 12) (by omega) rfl rfl]
                  have bw6 := blk_drew (blk_put BW5.out 1 (.int .u64 (wd rest 8 5)) rfl)
                  have br6 := blk_drew (blk_far BR5.out (p := ⟨gw, 1, none⟩) (by simpa using fun e => HGW.out.1 e.symm) (.int .u64 (wd rest 8 5)))
                  have bp6 := blk_drew (blk_far BP5.out (p := ⟨gw, 1, none⟩) (by simpa using fun e => HGW.out.2.1 e.symm) (.int .u64 (wd rest 8 5)))
                  have hb6 := below_drew1 (HB5.out.setCell (p := ⟨gw, 1, none⟩) HGW.out.2.2 (.int .u64 (wd rest 8 5)))
                  generalize (World.setCell _ ⟨gw, 1, none⟩ (.int .u64 (wd rest 8 5))).drew = w6 at bw6 br6 bp6 hb6 ⊢
                  have BW6 := Aside0.mk bw6
                  have BR6 := Aside0.mk br6
                  have BP6 := Aside0.mk bp6
                  have HB6 := Aside0.mk hb6
                  clear bw6 br6 bp6 hb6
                  go_wp2
                  go_roundg (17 - (12 + 1))
                  case measure => omega
                  case rel => exact ⟨12 + 1, by omega, rfl, rfl, HB6, BR6, BP6, BW6⟩
                | 13, _, hlt, BW5 =>
                  have hd : decide ((13 : Int) < ((ln : Int) + 8 - 1) / 8) = true := decide_eq_true (by omega)
                  have hq : (13 < (rest.size : Int)) = True := eq_true (by have := hlt0.out; omega)
                  have hq' : 13 < rest.size := by have := hlt0.out; omega
                  have hz : ∀ h : 13 < rest.size, ((rest[13]'h).toNat : Int) = bt rest 13 := bt_at rest 13
                  have hc := (blk_cell BW5.out 1).trans (rfl : _ = some (Value.int .u64 (wd rest 8 5)))
                  have hf := blk_frozen BW5.out 1
                  have hwr := wd_range rest 8 5 (by omega)
                  have hrb := bt_range rest 13
                  go_wp2
                  go_region
                  clear hc hf hwr hrb hz hd
                  rw [wd_or rest 8 5 65536 (bt rest 13) (by omega) rfl rfl]
                  have bw6 := blk_drew (blk_put BW5.out 1 (.int .u64 (wd rest 8 6)) rfl)
                  have br6 := blk_drew (blk_far BR5.out (p := ⟨gw, 1, none⟩) (by simpa using fun e => HGW.out.1 e.symm) (.int .u64 (wd rest 8 6)))
                  have bp6 := blk_drew (blk_far BP5.out (p := ⟨gw, 1, none⟩) (by simpa using fun e => HGW.out.2.1 e.symm) (.int .u64 (wd rest 8 6)))
                  have hb6 := below_drew1 (HB5.out.setCell (p := ⟨gw, 1, none⟩) HGW.out.2.2 (.int .u64 (wd rest 8 6)))
                  generalize (World.setCell _ ⟨gw, 1, none⟩ (.int .u64 (wd rest 8 6))).drew = w6 at bw6 br6 bp6 hb6 ⊢
                  have BW6 := Aside0.mk bw6
                  have BR6 := Aside0.mk br6
                  have BP6 := Aside0.mk bp6
                  have HB6 := Aside0.mk hb6
                  clear bw6 br6 bp6 hb6
                  go_wp2
                  go_roundg (17 - (13 + 1))
                  case measure => omega
                  case rel => exact ⟨13 + 1, by omega, rfl, rfl, HB6, BR6, BP6, BW6⟩
                | 14, _, hlt, BW5 =>
                  have hd : decide ((14 : Int) < ((ln : Int) + 8 - 1) / 8) = true := decide_eq_true (by omega)
                  have hq : (14 < (rest.size : Int)) = True := eq_true (by have := hlt0.out; omega)
                  have hq' : 14 < rest.size := by have := hlt0.out; omega
                  have hz : ∀ h : 14 < rest.size, ((rest[14]'h).toNat : Int) = bt rest 14 := bt_at rest 14
                  have hc := (blk_cell BW5.out 1).trans (rfl : _ = some (Value.int .u64 (wd rest 8 6)))
                  have hf := blk_frozen BW5.out 1
                  have hwr := wd_range rest 8 6 (by omega)
                  have hrb := bt_range rest 14
                  go_wp2
                  go_region
                  clear hc hf hwr hrb hz hd
                  rw [wd_or rest 8 6 256 (bt rest 14) (by omega) rfl rfl]
                  have bw6 := blk_drew (blk_put BW5.out 1 (.int .u64 (wd rest 8 7)) rfl)
                  have br6 := blk_drew (blk_far BR5.out (p := ⟨gw, 1, none⟩) (by simpa using fun e => HGW.out.1 e.symm) (.int .u64 (wd rest 8 7)))
                  have bp6 := blk_drew (blk_far BP5.out (p := ⟨gw, 1, none⟩) (by simpa using fun e => HGW.out.2.1 e.symm) (.int .u64 (wd rest 8 7)))
                  have hb6 := below_drew1 (HB5.out.setCell (p := ⟨gw, 1, none⟩) HGW.out.2.2 (.int .u64 (wd rest 8 7)))
                  generalize (World.setCell _ ⟨gw, 1, none⟩ (.int .u64 (wd rest 8 7))).drew = w6 at bw6 br6 bp6 hb6 ⊢
                  have BW6 := Aside0.mk bw6
                  have BR6 := Aside0.mk br6
                  have BP6 := Aside0.mk bp6
                  have HB6 := Aside0.mk hb6
                  clear bw6 br6 bp6 hb6
                  go_wp2
                  go_roundg (17 - (14 + 1))
                  case measure => omega
                  case rel => exact ⟨14 + 1, by omega, rfl, rfl, HB6, BR6, BP6, BW6⟩
                | 15, _, hlt, BW5 =>
                  have hd : decide ((15 : Int) < ((ln : Int) + 8 - 1) / 8) = true := decide_eq_true (by omega)
                  have hq : (15 < (rest.size : Int)) = True := eq_true (by have := hlt0.out; omega)
                  have hq' : 15 < rest.size := by have := hlt0.out; omega
                  have hz : ∀ h : 15 < rest.size, ((rest[15]'h).toNat : Int) = bt rest 15 := bt_at rest 15
                  have hc := (blk_cell BW5.out 1).trans (rfl : _ = some (Value.int .u64 (wd rest 8 7)))
                  have hf := blk_frozen BW5.out 1
                  have hwr := wd_range rest 8 7 (by omega)
                  have hrb := bt_range rest 15
                  go_wp2
                  go_region
                  clear hc hf hwr hrb hz hd
                  rw [wd_or7 rest 8 (bt rest 15) rfl]
                  have bw6 := blk_drew (blk_put BW5.out 1 (.int .u64 (wd rest 8 8)) rfl)
                  have br6 := blk_drew (blk_far BR5.out (p := ⟨gw, 1, none⟩) (by simpa using fun e => HGW.out.1 e.symm) (.int .u64 (wd rest 8 8)))
                  have bp6 := blk_drew (blk_far BP5.out (p := ⟨gw, 1, none⟩) (by simpa using fun e => HGW.out.2.1 e.symm) (.int .u64 (wd rest 8 8)))
                  have hb6 := below_drew1 (HB5.out.setCell (p := ⟨gw, 1, none⟩) HGW.out.2.2 (.int .u64 (wd rest 8 8)))
                  generalize (World.setCell _ ⟨gw, 1, none⟩ (.int .u64 (wd rest 8 8))).drew = w6 at bw6 br6 bp6 hb6 ⊢
                  have BW6 := Aside0.mk bw6
                  have BR6 := Aside0.mk br6
                  have BP6 := Aside0.mk bp6
                  have HB6 := Aside0.mk hb6
                  clear bw6 br6 bp6 hb6
                  go_wp2
                  go_roundg (17 - (15 + 1))
                  case measure => omega
                  case rel => exact ⟨15 + 1, by omega, rfl, rfl, HB6, BR6, BP6, BW6⟩
                | n + 16, _, hlt, _ => exact absurd hlt (by have := hc4.out; omega)
              · have hd : decide ((i : Int) < ((ln : Int) + 8 - 1) / 8) = false := decide_eq_false (by omega)
                obtain rfl : i = (ln + 7) / 8 := by omega
                have bw6 := BW5.out
                skip
                skip
                have hw0 := (blk_cell bw6 0).trans (rfl : _ = some (Value.int .u64 (wd rest 0 (min 8 ((ln + 7) / 8)))))
                have hw1 := (blk_cell bw6 1).trans (rfl : _ = some (Value.int .u64 (wd rest 8 ((ln + 7) / 8 - 8))))
                have hp0 := (blk_cell BP5.out 0).trans (rfl : _ = some (Value.bool true))
                have hp1 := (blk_cell BP5.out 1).trans (rfl : _ = some (Value.int .u64 0))
                have hp2 := (blk_cell BP5.out 2).trans (rfl : _ = some (Value.int .u64 0))
                have hp3 := (blk_cell BP5.out 3).trans (rfl : _ = some (Value.int .i64 ln))
                have hf0 := blk_frozen BP5.out 0
                have hf1 := blk_frozen BP5.out 1
                have hf2 := blk_frozen BP5.out 2
                have hf3 := blk_frozen BP5.out 3
                skip
                have bp7 : ((World.setCell wr ⟨gp, 1, none⟩ (.int .u64 (wd rest 0 (min 8 ((ln + 7) / 8))))).setCell ⟨gp, 2, none⟩ (.int .u64 (wd rest 8 ((ln + 7) / 8 - 8)))).heap[gp]? = some (.cells #[.bool true, .int .u64 (wd rest 0 (min 8 ((ln + 7) / 8))), .int .u64 (wd rest 8 ((ln + 7) / 8 - 8)), .int .i64 ln] 27 (0, 0)) := blk_put (blk_put BP5.out 1 (.int .u64 (wd rest 0 (min 8 ((ln + 7) / 8)))) rfl) 2 (.int .u64 (wd rest 8 ((ln + 7) / 8 - 8))) rfl
                have hgg : w.heap.size ≤ gp := by have := HGP.out; have := HGR.out; omega
                have br7 : ((World.setCell wr ⟨gp, 1, none⟩ (.int .u64 (wd rest 0 (min 8 ((ln + 7) / 8))))).setCell ⟨gp, 2, none⟩ (.int .u64 (wd rest 8 ((ln + 7) / 8 - 8)))).heap[gr]? = some (.cells #[.bool false, .int .u64 0, .int .u64 0, .int .i64 0] 27 (0, 0)) := blk_far (blk_far BR5.out (p := ⟨gp, 1, none⟩) (by have := HGP.out; simp; omega) (.int .u64 (wd rest 0 (min 8 ((ln + 7) / 8))))) (p := ⟨gp, 2, none⟩) (by have := HGP.out; simp; omega) (.int .u64 (wd rest 8 ((ln + 7) / 8 - 8)))
                have hb7 : Below w.heap.size w ((World.setCell wr ⟨gp, 1, none⟩ (.int .u64 (wd rest 0 (min 8 ((ln + 7) / 8))))).setCell ⟨gp, 2, none⟩ (.int .u64 (wd rest 8 ((ln + 7) / 8 - 8)))) := (HB5.out.setCell (p := ⟨gp, 1, none⟩) hgg (.int .u64 (wd rest 0 (min 8 ((ln + 7) / 8))))).setCell (p := ⟨gp, 2, none⟩) hgg (.int .u64 (wd rest 8 ((ln + 7) / 8 - 8)))
                have BP7 := Aside0.mk bp7
                have BR7 := Aside0.mk br7
                have HB7 := Aside0.mk hb7
                clear bp7 br7 hb7
                have hq0 := (blk_cell BP7.out 0).trans (rfl : _ = some (Value.bool true))
                have hq1 := (blk_cell BP7.out 1).trans (rfl : _ = some (Value.int .u64 (wd rest 0 (min 8 ((ln + 7) / 8)))))
                have hq2 := (blk_cell BP7.out 2).trans (rfl : _ = some (Value.int .u64 (wd rest 8 ((ln + 7) / 8 - 8))))
                have hq3 := (blk_cell BP7.out 3).trans (rfl : _ = some (Value.int .i64 ln))
                go_wp2_with (fail)
                refine (addr_Check.calls k true (wd rest 0 (min 8 ((ln + 7) / 8))) (wd rest 8 ((ln + 7) / 8 - 8)) ln c _ (by simpa using C.out)).mono ?_
                rintro e w8 ⟨rfl, hb⟩
                have BP8 := Aside0.mk (blk_below BP7.out hb)
                have BR8 := Aside0.mk (blk_below BR7.out hb)
                have HB8 := Aside0.mk (below_step HB7.out hb)
                clear hb hq0 hq1 hq2 hq3 hw0 hw1 hp0 hp1 hp2 hp3 hf0 hf1 hf2 hf3
                have hr0 := (blk_cell BR8.out 0).trans rfl
                have hr1 := (blk_cell BR8.out 1).trans rfl
                have hr2 := (blk_cell BR8.out 2).trans rfl
                have hr3 := (blk_cell BR8.out 3).trans rfl
                have hf0 := blk_frozen BR8.out 0
                have hf1 := blk_frozen BR8.out 1
                have hf2 := blk_frozen BR8.out 2
                have hf3 := blk_frozen BR8.out 3
                have hge : w.heap.size ≤ gr := by have := HGR.out; omega
                by_cases hc : c = 0
                · subst hc
                  have h := H.out
                  rw [if_pos rfl] at h
                  simp only [Option.some.injEq, Prod.mk.injEq] at h
                  obtain ⟨rfl, rfl, rfl, rfl, rfl, rfl⟩ := h
                  have hp0 := (blk_cell BP8.out 0).trans (rfl : _ = some (Value.bool true))
                  have hp1 := (blk_cell BP8.out 1).trans (rfl : _ = some (Value.int .u64 (wd rest 0 (min 8 ((ln + 7) / 8)))))
                  have hp2 := (blk_cell BP8.out 2).trans (rfl : _ = some (Value.int .u64 (wd rest 8 ((ln + 7) / 8 - 8))))
                  have hp3 := (blk_cell BP8.out 3).trans (rfl : _ = some (Value.int .i64 ln))
                  obtain ⟨n, hn7⟩ : ∃ n : Nat, (((ln : Int) + 8 - 1) / 8) = (n : Int) := ⟨(ln + 7) / 8, by omega⟩
                  have HN : Aside0 (n = (ln + 7) / 8) := ⟨by omega⟩
                  have hn8 : n ≤ rest.size := by have := hlt0.out; have := HN.out; omega
                  have hn9 : (0 ≤ (n : Int)) = True := eq_true (by omega)
                  rw [hn7]
                  clear hn7
                  go_wp2
                  go_region
                  go_wp2
                  obtain rfl := HN.out
                  refine bodyPost_ret (results_ctt rfl _ _ gr 27 #[.bool true, .int .u64 (wd rest 0 (min 8 ((ln + 7) / 8))), .int .u64 (wd rest 8 ((ln + 7) / 8 - 8)), .int .i64 ln] (0, 0) _ rfl (blk_put (blk_put (blk_put (blk_put BR8.out 0 (.bool true) rfl) 1 (.int .u64 (wd rest 0 (min 8 ((ln + 7) / 8)))) rfl) 2 (.int .u64 (wd rest 8 ((ln + 7) / 8 - 8))) rfl) 3 (.int .i64 ln) rfl) Try.underlying27 rfl (by kernel_rfl)) rfl ?_
                  exact ⟨rfl, below_drew1 ((((HB8.out.setCell (p := ⟨gr, 0, none⟩) hge _).setCell (p := ⟨gr, 1, none⟩) hge _).setCell (p := ⟨gr, 2, none⟩) hge _).setCell (p := ⟨gr, 3, none⟩) hge _)⟩
                · have h := H.out
                  rw [if_neg hc] at h
                  have hcb : (c != 0) = true := bne_iff_ne.mpr hc
                  simp only [pfx_none, Option.some.injEq, Prod.mk.injEq] at h
                  obtain ⟨rfl, rfl, rfl, rfl, rfl, rfl⟩ := h
                  go_wp2
                  refine bodyPost_ret (results_ctt rfl _ _ gr 27 #[.bool false, .int .u64 0, .int .u64 0, .int .i64 0] (0, 0) _ rfl (blk_put (blk_put (blk_put (blk_put BR8.out 0 (.bool false) rfl) 1 (.int .u64 0) rfl) 2 (.int .u64 0) rfl) 3 (.int .i64 0) rfl) Try.underlying27 rfl (by kernel_rfl)) rfl ?_
                  exact ⟨rfl, (((HB8.out.setCell (p := ⟨gr, 0, none⟩) hge _).setCell (p := ⟨gr, 1, none⟩) hge _).setCell (p := ⟨gr, 2, none⟩) hge _).setCell (p := ⟨gr, 3, none⟩) hge _⟩
      · rw [if_neg c2'] at h
        simp only [pfx_none, Option.some.injEq, Prod.mk.injEq] at h
        obtain ⟨rfl, rfl, rfl, rfl, rfl, rfl⟩ := h
        have c2b : (bt a0 0 != 4) = true := bne_iff_ne.mpr c2
        have c2d : (bt a0 0 != 6) = true := bne_iff_ne.mpr c2'
        go_enter Try.func17, Try.ntmps17
        go_wp2
        refine bodyPost_ret (results_ctt rfl _ _ w.heap.size 27 #[.bool false, .int .u64 0, .int .u64 0, .int .i64 0] (0, 0) _ rfl (heap_alloc_new _ _) Try.underlying27 rfl (by kernel_rfl)) rfl ?_
        exact ⟨rfl, below_alloc (Below.refl _ _) _⟩
mutual
def num_Get.l0 : Nat → ByteArray → Int → Int → Int → Option (Int × ByteArray × Int)
 | 0, _, _, _, _ => none
 | k + 1, x0, x5, x10, x11 => if x11 < x10 then (if 0 ≤ x11 then (if x11 < (x0.size : Int) then (if 0 ≤ (wrap64 (7 * x11)) then (if x11 = 9 then (num_Get.j1 k x0 (Go.bits .or .u64 x5 (shl .u64 (IntKind.u64.wrap (Go.bits .andNot .u8 (bt x0 x11) 128)) (wrap64 (7 * x11)))) x11 (bt x0 x11) x10 x11 (decide ((bt x0 x11) > 1))) else (num_Get.j1 k x0 (Go.bits .or .u64 x5 (shl .u64 (IntKind.u64.wrap (Go.bits .andNot .u8 (bt x0 x11) 128)) (wrap64 (7 * x11)))) x11 (bt x0 x11) x10 x11 false)) else (none)) else (none)) else (none)) else (some (0, (⟨#[]⟩ : ByteArray), 5))
def num_Get.j1 : Nat → ByteArray → Int → Int → Int → Int → Int → Bool → Option (Int × ByteArray × Int)
 | 0, _, _, _, _, _, _, _ => none
 | k + 1, x0, x5, x6, x7, x10, x11, x25 => if x25 = true then (num_Get.j2 k x0 x5 x6 x7 x10 x11 x25) else (if x7 = 0 then (num_Get.j2 k x0 x5 x6 x7 x10 x11 (decide (x6 > 0))) else (num_Get.j2 k x0 x5 x6 x7 x10 x11 false))
def num_Get.j2 : Nat → ByteArray → Int → Int → Int → Int → Int → Bool → Option (Int × ByteArray × Int)
 | 0, _, _, _, _, _, _, _ => none
 | k + 1, x0, x5, x6, x7, x10, x11, x25 => if x25 = true then (some (0, (⟨#[]⟩ : ByteArray), 7)) else (if x7 < 128 then (if 0 ≤ (wrap64 (x6 + 1)) then (if (wrap64 (x6 + 1)) ≤ (x0.size : Int) then (some (x5, x0.extract ((wrap64 (x6 + 1)) : Int).toNat x0.size, 0)) else (none)) else (none)) else (num_Get.l0 k x0 x5 x10 (wrap64 (x11 + 1))))
end
def num_Get.f (k : Nat) (a0 : ByteArray) : Option (Int × ByteArray × Int) := num_Get.l0 k a0 0 (mn (a0.size : Int) 10) 0
theorem num_Get.mono_l : ∀ k, (∀ y0 y1 y2 y3, LeO (num_Get.l0 k y0 y1 y2 y3) (num_Get.l0 (k + 1) y0 y1 y2 y3)) ∧ (∀ y0 y1 y2 y3 y4 y5 y6, LeO (num_Get.j1 k y0 y1 y2 y3 y4 y5 y6) (num_Get.j1 (k + 1) y0 y1 y2 y3 y4 y5 y6)) ∧ (∀ y0 y1 y2 y3 y4 y5 y6, LeO (num_Get.j2 k y0 y1 y2 y3 y4 y5 y6) (num_Get.j2 (k + 1) y0 y1 y2 y3 y4 y5 y6))
 | 0 => ⟨fun _ _ _ _ r h => by simp [num_Get.l0] at h, fun _ _ _ _ _ _ _ r h => by simp [num_Get.j1] at h, fun _ _ _ _ _ _ _ r h => by simp [num_Get.j2] at h⟩
 | k + 1 => by
  obtain ⟨ih0, ih1, ih2⟩ := num_Get.mono_l k
  refine ⟨?_, ?_, ?_⟩
  ·intro y0 y1 y2 y3
   unfold num_Get.l0
   repeat' first
   | (with_reducible exact ih0 _ _ _ _)
   | (with_reducible exact ih1 _ _ _ _ _ _ _)
   | (with_reducible exact ih2 _ _ _ _ _ _ _)
   | (with_reducible exact LeO.refl _)
   | (with_reducible exact LeO.none _)
   | (with_reducible refine LeO.ite ?_ ?_)
   | (with_reducible refine LeO.bind ?_ (fun _ => ?_))
   | exact ih0 _ _ _ _
   | exact ih1 _ _ _ _ _ _ _
   | exact ih2 _ _ _ _ _ _ _
   | exact LeO.none _
   | refine LeO.ite ?_ ?_
   | refine LeO.bind ?_ (fun _ => ?_)
  ·intro y0 y1 y2 y3 y4 y5 y6
   unfold num_Get.j1
   repeat' first
   | (with_reducible exact ih0 _ _ _ _)
   | (with_reducible exact ih1 _ _ _ _ _ _ _)
   | (with_reducible exact ih2 _ _ _ _ _ _ _)
   | (with_reducible exact LeO.refl _)
   | (with_reducible exact LeO.none _)
   | (with_reducible refine LeO.ite ?_ ?_)
   | (with_reducible refine LeO.bind ?_ (fun _ => ?_))
   | exact ih0 _ _ _ _
   | exact ih1 _ _ _ _ _ _ _
   | exact ih2 _ _ _ _ _ _ _
   | exact LeO.none _
   | refine LeO.ite ?_ ?_
   | refine LeO.bind ?_ (fun _ => ?_)
  ·intro y0 y1 y2 y3 y4 y5 y6
   unfold num_Get.j2
   repeat' first
   | (with_reducible exact ih0 _ _ _ _)
   | (with_reducible exact ih1 _ _ _ _ _ _ _)
   | (with_reducible exact ih2 _ _ _ _ _ _ _)
   | (with_reducible exact LeO.refl _)
   | (with_reducible exact LeO.none _)
   | (with_reducible refine LeO.ite ?_ ?_)
   | (with_reducible refine LeO.bind ?_ (fun _ => ?_))
   | exact ih0 _ _ _ _
   | exact ih1 _ _ _ _ _ _ _
   | exact ih2 _ _ _ _ _ _ _
   | exact LeO.none _
   | refine LeO.ite ?_ ?_
   | refine LeO.bind ?_ (fun _ => ?_)
theorem num_Get.mono : ∀ a0 k, LeO (num_Get.f k a0) (num_Get.f (k + 1) a0) := by
 intro a0 k
 obtain ⟨ih0, ih1, ih2⟩ := num_Get.mono_l k
 unfold num_Get.f
 repeat' first
   | (with_reducible exact ih0 _ _ _ _)
   | (with_reducible exact ih1 _ _ _ _ _ _ _)
   | (with_reducible exact ih2 _ _ _ _ _ _ _)
   | (with_reducible exact LeO.refl _)
   | (with_reducible exact LeO.none _)
   | (with_reducible refine LeO.ite ?_ ?_)
   | (with_reducible refine LeO.bind ?_ (fun _ => ?_))
   | exact ih0 _ _ _ _
   | exact ih1 _ _ _ _ _ _ _
   | exact ih2 _ _ _ _ _ _ _
   | exact LeO.none _
   | refine LeO.ite ?_ ?_
   | refine LeO.bind ?_ (fun _ => ?_)
set_option maxHeartbeats 8000000 in
set_option maxRecDepth 100000 in
theorem num_Get.calls (k : Nat) (a0 : ByteArray) (r1 : Int) (r2 : ByteArray) (r3 : Int) (w : World) (h : num_Get.f k a0 = some (r1, r2, r3)) :
  Calls Try.prog 44 #[.string a0] w fun e w' => e = .returned (.tuple #[.int .u64 r1, .string r2, .int .i64 r3]) ∧ Below w.heap.size w w' := by
 have HB := Ax (Below.refl w.heap.size w)
 have H : (num_Get.l0 k a0 0 (mn (a0.size : Int) 10) 0) = some (r1, r2, r3) := h
 clear h
 obtain ⟨ji2, hji2⟩ : ∃ j_ : Int, (mn (a0.size : Int) 10) = j_ := ⟨_, rfl⟩
 replace H : (num_Get.l0 k a0 0 ji2 0) = some (r1, r2, r3) := by first | (rw [hji2] at H; exact H) | (simp only [hji2] at H ⊢; exact H)
 (try (have hji2h : ji2 ≤ 10 := by (rw [← hji2]; unfold mn; (repeat' split) <;> omega)))
 (try (have hji2g : ji2 ≤ 64 := by omega))
 (try (have hji2l : 0 ≤ ji2 := by (rw [← hji2]; unfold mn; (repeat' split) <;> omega)))
 (try (have hji2m : 0 ≤ ji2 := by omega))
 have hji2_ : (if 10 < (a0.size : Int) then 10 else (a0.size : Int)) = ji2 := hji2
 have H' := Ax H
 clear H
 go_enter Try.func44, Try.ntmps44
 go_wp2
 repeat (go_quiet (fail); try go_wp2)
 go_loopg [5, 11] k (fun kq v5 v11 w' => ∃ (x5_1 : Int) (x11_1 : Int), v5 = .int .u64 x5_1 ∧ v11 = .int .i64 x11_1 ∧ Aside0 (num_Get.l0 kq a0 x5_1 ji2 x11_1 = some (r1, r2, r3)) ∧ Aside0 (kq ≤ k) ∧ Aside0 (Below w.heap.size w w'))
 case atStart => exact ⟨(0), (0), rS, rS, H', ⟨Nat.le_refl _⟩, ⟨bw0 HB.out⟩⟩
 case round =>
  clear H'
  try clear p2
  obtain ⟨x5_1, x11_1, rfl, rfl, HA, HK1, HB⟩ := hrel
  cases gk with
  | zero => exact absurd HA.out (by simp [num_Get.l0])
  | succ k1 =>
   have H := HA.out
   clear HA
   simp only [num_Get.l0] at H
   by_cases c3 : x11_1 < ji2
   ·rw [if_pos c3] at H
    have c3b0 : decide (x11_1 < ji2) = true := decide_eq_true c3
    clear c3
    by_cases c4 : 0 ≤ x11_1
    ·rw [if_pos c4] at H
     have c4b0 : decide (0 ≤ x11_1) = true := decide_eq_true c4
     clear c4
     by_cases c5 : x11_1 < (a0.size : Int)
     ·rw [if_pos c5] at H
      have c5b0 : decide (x11_1 < (a0.size : Int)) = true := decide_eq_true c5
      clear c5
      obtain ⟨ji7, hji7⟩ : ∃ j_ : Int, (wrap64 (7 * x11_1)) = j_ := ⟨_, rfl⟩
      replace H : (if 0 ≤ (ji7) then (if x11_1 = 9 then (num_Get.j1 k1 a0 (Go.bits .or .u64 x5_1 (shl .u64 (IntKind.u64.wrap (Go.bits .andNot .u8 (bt a0 x11_1) 128)) (ji7))) x11_1 (bt a0 x11_1) ji2 x11_1 (decide ((bt a0 x11_1) > 1))) else (num_Get.j1 k1 a0 (Go.bits .or .u64 x5_1 (shl .u64 (IntKind.u64.wrap (Go.bits .andNot .u8 (bt a0 x11_1) 128)) (ji7))) x11_1 (bt a0 x11_1) ji2 x11_1 false)) else (none)) = some (r1, r2, r3) := by first | (rw [hji7] at H; exact H) | (simp only [hji7] at H ⊢; exact H)
      have hji7w : (IntKind.i64.wrap (7 * x11_1)) = ji7 := (i64_w _).trans hji7
      by_cases c8 : 0 ≤ (ji7)
      ·rw [if_pos c8] at H
       have c8b0 := eq_true c8
       have c8b1 : decide (0 ≤ (ji7)) = true := decide_eq_true c8
       clear c8
       obtain ⟨ji9, hji9⟩ : ∃ j_ : Int, (shl .u64 (IntKind.u64.wrap (Go.bits .andNot .u8 (bt a0 x11_1) 128)) (ji7)) = j_ := ⟨_, rfl⟩
       replace H : (if x11_1 = 9 then (num_Get.j1 k1 a0 (Go.bits .or .u64 x5_1 (ji9)) x11_1 (bt a0 x11_1) ji2 x11_1 (decide ((bt a0 x11_1) > 1))) else (num_Get.j1 k1 a0 (Go.bits .or .u64 x5_1 (ji9)) x11_1 (bt a0 x11_1) ji2 x11_1 false)) = some (r1, r2, r3) := by first | (rw [hji9] at H; exact H) | (simp only [hji9] at H ⊢; exact H)
       have hji9_ : (IntKind.u64.wrap ((IntKind.u64.wrap (Go.bits .andNot .u8 (bt a0 x11_1) 128)) * 2 ^ min (ji7).toNat 64)) = ji9 := hji9
       have hji9z : (ji7) ≤ 64 → (IntKind.u64.wrap ((IntKind.u64.wrap (Go.bits .andNot .u8 (bt a0 x11_1) 128)) * 2 ^ (ji7).toNat)) = ji9 := shl_small hji9
       have HC10 := Ax H
       clear H
       have p6 : 0 ≤ (x11_1 : Int) := of_decide_eq_true (by first | (with_reducible assumption) | assumption)
       have q6 : x11_1 < (a0.size : Int) := of_decide_eq_true (by first | (with_reducible assumption) | assumption)
       have hx6 := bt_at a0 x11_1
       replace p6 := eq_true p6
       replace q6 := eq_true q6
       go_upto_region 7 with (fail)
       repeat (go_quiet (fail); go_upto_region 7 with (fail))
       go_cut [25] (fun v25 wc => ∃ (kq : Nat) (x25_9 : Bool), v25 = .bool x25_9 ∧ Aside0 (num_Get.j1 kq a0 (Go.bits .or .u64 x5_1 (ji9)) x11_1 (bt a0 x11_1) ji2 x11_1 x25_9 = some (r1, r2, r3)) ∧ Aside0 (kq ≤ k1) ∧ Aside0 (Below w.heap.size w wc))
       case first =>
        have H := HC10.out
        clear HC10
        by_cases c11 : x11_1 = 9
        ·rw [if_pos c11] at H
         have c11b0 : (x11_1 == 9) = true := beq_iff_eq.mpr c11
         have c11b1 : (x11_1 != 9) = false := bne_eq_false_iff_eq.mpr c11
         clear c11
         (first | rw [c11b0] | (simp only [i64_w, i32_w]; rw [c11b0]) | skip)
         have H' := Ax H
         clear H
         go_wp2
         repeat (go_quiet (fail); try go_wp2)
         go_meet
         case rel => exact ⟨_, (decide ((bt a0 x11_1) > 1)), rS, H', ⟨by have := HK1.out; first | omega | exact Nat.le_refl _⟩, ⟨bw0 HB.out⟩⟩
        ·rw [if_neg c11] at H
         have c11b0 : (x11_1 == 9) = false := beq_eq_false_iff_ne.mpr c11
         have c11b1 : (x11_1 != 9) = true := bne_iff_ne.mpr c11
         (first | rw [c11b0] | (simp only [i64_w, i32_w]; rw [c11b0]) | skip)
         have H' := Ax H
         clear H
         go_wp2
         repeat (go_quiet (fail); try go_wp2)
         go_meet
         case rel => exact ⟨_, (false), rS, H', ⟨by have := HK1.out; first | omega | exact Nat.le_refl _⟩, ⟨bw0 HB.out⟩⟩
       case rest =>
        clear HC10
        try clear c1
        try clear p2
        try clear c3
        try clear c3b0
        try clear c4
        try clear c4b0
        try clear c5
        try clear c5b0
        try clear p6
        try clear q6
        try clear hx6
        try clear c8
        try clear c8b0
        try clear c8b1
        try clear c11
        try clear c11b0
        try clear c11b1
        try clear p2
        try clear p6
        try clear q6
        obtain ⟨kq, x25_9, rfl, HA, HJ9, HB⟩ := hcut
        cases kq with
        | zero => exact absurd HA.out (by simp [num_Get.j1])
        | succ kj9 =>
         have H := HA.out
         clear HA
         simp only [num_Get.j1] at H
         have HC12 := Ax H
         clear H
         go_upto_if 25 with (fail)
         repeat (go_quiet (fail); go_upto_if 25 with (fail))
         go_cut [25] (fun v25 wc => ∃ (kq : Nat) (x25_11 : Bool), v25 = .bool x25_11 ∧ Aside0 (num_Get.j2 kq a0 (Go.bits .or .u64 x5_1 (ji9)) x11_1 (bt a0 x11_1) ji2 x11_1 x25_11 = some (r1, r2, r3)) ∧ Aside0 (kq ≤ kj9) ∧ Aside0 (Below w.heap.size w wc))
         case first =>
          have H := HC12.out
          clear HC12
          by_cases c13 : x25_9 = true
          ·subst c13
           have H1 : (num_Get.j2 kj9 a0 (Go.bits .or .u64 x5_1 (ji9)) x11_1 (bt a0 x11_1) ji2 x11_1 true) = some (r1, r2, r3) := by rw [if_pos rfl] at H; exact H
           clear H
           have H := H1
           clear H1
           have H' := Ax H
           clear H
           go_wp2
           repeat (go_quiet (fail); try go_wp2)
           go_meet
           case rel => exact ⟨_, (true), rS, H', ⟨by have := HK1.out; have := HJ9.out; first | omega | exact Nat.le_refl _⟩, ⟨bw0 HB.out⟩⟩
          ·replace c13 := Bool.eq_false_iff.mpr c13
           subst c13
           have H1 : (if (bt a0 x11_1) = 0 then (num_Get.j2 kj9 a0 (Go.bits .or .u64 x5_1 (ji9)) x11_1 (bt a0 x11_1) ji2 x11_1 (decide (x11_1 > 0))) else (num_Get.j2 kj9 a0 (Go.bits .or .u64 x5_1 (ji9)) x11_1 (bt a0 x11_1) ji2 x11_1 false)) = some (r1, r2, r3) := by rw [if_neg (show ¬ (false = true) by decide)] at H; exact H
           clear H
           have H := H1
           clear H1
           by_cases c14 : (bt a0 x11_1) = 0
           ·rw [if_pos c14] at H
            have c14b0 : ((bt a0 x11_1) == 0) = true := beq_iff_eq.mpr c14
            have c14b1 : ((bt a0 x11_1) != 0) = false := bne_eq_false_iff_eq.mpr c14
            clear c14
            (first | rw [c14b0] | (simp only [i64_w, i32_w]; rw [c14b0]) | skip)
            have H' := Ax H
            clear H
            go_wp2
            repeat (go_quiet (fail); try go_wp2)
            go_meet
            case rel => exact ⟨_, (decide (x11_1 > 0)), rS, H', ⟨by have := HK1.out; have := HJ9.out; first | omega | exact Nat.le_refl _⟩, ⟨bw0 HB.out⟩⟩
           ·rw [if_neg c14] at H
            have c14b0 : ((bt a0 x11_1) == 0) = false := beq_eq_false_iff_ne.mpr c14
            have c14b1 : ((bt a0 x11_1) != 0) = true := bne_iff_ne.mpr c14
            (first | rw [c14b0] | (simp only [i64_w, i32_w]; rw [c14b0]) | skip)
            have H' := Ax H
            clear H
            go_wp2
            repeat (go_quiet (fail); try go_wp2)
            go_meet
            case rel => exact ⟨_, (false), rS, H', ⟨by have := HK1.out; have := HJ9.out; first | omega | exact Nat.le_refl _⟩, ⟨bw0 HB.out⟩⟩
         case rest =>
          clear HC12
          try clear c1
          try clear p2
          try clear c3
          try clear c3b0
          try clear c4
          try clear c4b0
          try clear c5
          try clear c5b0
          try clear p6
          try clear q6
          try clear hx6
          try clear c8
          try clear c8b0
          try clear c8b1
          try clear c11
          try clear c11b0
          try clear c11b1
          try clear c13
          try clear c14
          try clear c14b0
          try clear c14b1
          try clear p2
          try clear p6
          try clear q6
          obtain ⟨kq, x25_11, rfl, HA, HJ11, HB⟩ := hcut
          cases kq with
          | zero => exact absurd HA.out (by simp [num_Get.j2])
          | succ kj11 =>
           have H := HA.out
           clear HA
           simp only [num_Get.j2] at H
           by_cases c15 : x25_11 = true
           ·subst c15
            have H1 : (some (0, (⟨#[]⟩ : ByteArray), 7)) = some (r1, r2, r3) := by rw [if_pos rfl] at H; exact H
            clear H
            have H := H1
            clear H1
            simp only [Option.some.injEq, Prod.mk.injEq] at H
            obtain ⟨rfl, rfl, rfl⟩ := H
            go_wp2
            repeat (go_quiet (fail); try go_wp2)
            go_ret3
            exact ⟨by first | rfl | (simp [errW_none, errW_some] <;> rfl) | (simp only [← hji2, ← hji7, ← hji9]; first | rfl | (simp [errW_none, errW_some] <;> rfl)) | (simp [*, errW_none, errW_some] <;> rfl), bw0 HB.out⟩
           ·replace c15 := Bool.eq_false_iff.mpr c15
            subst c15
            have H1 : (if (bt a0 x11_1) < 128 then (if 0 ≤ (wrap64 (x11_1 + 1)) then (if (wrap64 (x11_1 + 1)) ≤ (a0.size : Int) then (some ((Go.bits .or .u64 x5_1 (ji9)), a0.extract ((wrap64 (x11_1 + 1)) : Int).toNat a0.size, 0)) else (none)) else (none)) else (num_Get.l0 kj11 a0 (Go.bits .or .u64 x5_1 (ji9)) ji2 (wrap64 (x11_1 + 1)))) = some (r1, r2, r3) := by rw [if_neg (show ¬ (false = true) by decide)] at H; exact H
            clear H
            have H := H1
            clear H1
            by_cases c16 : (bt a0 x11_1) < 128
            ·rw [if_pos c16] at H
             have c16b0 : decide ((bt a0 x11_1) < 128) = true := decide_eq_true c16
             clear c16
             obtain ⟨ji17, hji17⟩ : ∃ j_ : Int, (wrap64 (x11_1 + 1)) = j_ := ⟨_, rfl⟩
             replace H : (if 0 ≤ (ji17) then (if (ji17) ≤ (a0.size : Int) then (some ((Go.bits .or .u64 x5_1 (ji9)), a0.extract ((ji17) : Int).toNat a0.size, 0)) else (none)) else (none)) = some (r1, r2, r3) := by first | (rw [hji17] at H; exact H) | (simp only [hji17] at H ⊢; exact H)
             have hji17w : (IntKind.i64.wrap (x11_1 + 1)) = ji17 := (i64_w _).trans hji17
             by_cases c18 : 0 ≤ (ji17)
             ·rw [if_pos c18] at H
              have c18b0 := eq_true c18
              have c18b1 : decide (0 ≤ (ji17)) = true := decide_eq_true c18
              clear c18
              by_cases c19 : (ji17) ≤ (a0.size : Int)
              ·rw [if_pos c19] at H
               have c19b0 := eq_true c19
               have c19b1 : decide ((ji17) ≤ (a0.size : Int)) = true := decide_eq_true c19
               clear c19
               simp only [Option.some.injEq, Prod.mk.injEq] at H
               obtain ⟨rfl, rfl, rfl⟩ := H
               go_wp2
               repeat (go_quiet (fail); try go_wp2)
               go_ret3
               exact ⟨by first | rfl | (simp [errW_none, errW_some] <;> rfl) | (simp only [← hji2, ← hji7, ← hji9, ← hji17]; first | rfl | (simp [errW_none, errW_some] <;> rfl)) | (simp [*, errW_none, errW_some] <;> rfl), bw0 HB.out⟩
              ·rw [if_neg c19] at H
               exact absurd H (by simp)
             ·rw [if_neg c18] at H
              exact absurd H (by simp)
            ·rw [if_neg c16] at H
             have c16b0 : decide ((bt a0 x11_1) < 128) = false := decide_eq_false c16
             clear c16
             have H' := Ax H
             clear H
             go_wp2
             repeat (go_quiet (fail); try go_wp2)
             go_roundg kj11
             case measure => have := HK1.out; have := HJ9.out; have := HJ11.out; omega
             case rel => exact ⟨((Go.bits .or .u64 x5_1 (ji9))), (wrap64 (x11_1 + 1)), (by first | rfl | (simp; done) | (simp only [← hji9] <;> (first | rfl | simp)) | (simp [*]; done)), rS, H', ⟨by have := HK1.out; have := HJ9.out; have := HJ11.out; omega⟩, ⟨bw0 HB.out⟩⟩
      ·rw [if_neg c8] at H
       exact absurd H (by simp)
     ·rw [if_neg c5] at H
      exact absurd H (by simp)
    ·rw [if_neg c4] at H
     exact absurd H (by simp)
   ·rw [if_neg c3] at H
    have c3b0 : decide (x11_1 < ji2) = false := decide_eq_false c3
    clear c3
    simp only [Option.some.injEq, Prod.mk.injEq] at H
    obtain ⟨rfl, rfl, rfl⟩ := H
    go_wp2
    repeat (go_quiet (fail); try go_wp2)
    go_ret3
    exact ⟨by first | rfl | (simp [errW_none, errW_some] <;> rfl) | (simp only [← hji2]; first | rfl | (simp [errW_none, errW_some] <;> rfl)) | (simp [*, errW_none, errW_some] <;> rfl), bw0 HB.out⟩
end Go.Proofs.Ytodgadhegcjbhaa.Q
end
