-- Printed by this session's program wip/tools/mp.sh out of the translation.
import Derived.Test.YtdnffphknigipaaQx0
import Derived.Test.YtdnffphknigipaaQx2
import Derived.Test.YtdnffphknigipaaQx5
import Derived.Test.YtdnffphknigipaaQx11
namespace Go.Proofs.Ytdnffphknigipaa.Q
open Go.RowKit Go.Proofs.YtdnffphknigipaaW.PrintWords Go.Proofs.YtdnffphknigipaaW.PrintLast Go.Proofs.YtdnffphknigipaaW.PrintMore
attribute [local go_sem] max2_int min2_int max_two min_two max_three min_three max_four min_four   -- for this text's walks alone
set_option linter.unusedVariables false
set_option linter.unusedSimpArgs false

/-! ### spoorlaw05_PageOne: function 6 -/
def spoorlaw05_PageOne.f (k : Nat) (a0 : ByteArray) (a1 : Int) (a2 : Int) : Option (Bool) := (spoorlaw05_lives.f k).bind fun t212 => (if t212 = true then ((page_Get.f k a0 a1).bind fun bt213 => (if bt213.2 = 0 then ((page_Put.f a1 bt213.1).bind fun bt215 => ((page_Get.f k a0 a2).bind fun bt217 => (if bt215.2 = 0 then (if bt215.1.toList = a0.toList then (some ((bt217.2 == 0) == (a2 == a1))) else (none)) else (none)))) else (some (bt213.1.toList == ([] : List UInt8))))) else (none))
theorem spoorlaw05_PageOne.mono : ∀ a0 a1 a2 k, LeO (spoorlaw05_PageOne.f k a0 a1 a2) (spoorlaw05_PageOne.f (k + 1) a0 a1 a2) := by
  intro a0 a1 a2 k
  unfold spoorlaw05_PageOne.f
  repeat' first
      | (with_reducible exact page_Get.mono _ _ _)
      | (with_reducible exact spoorlaw05_lives.mono _)
      | (with_reducible exact LeO.refl _)
      | (with_reducible exact LeO.none _)
      | (with_reducible refine LeO.ite ?_ ?_)
      | (with_reducible refine LeO.bind ?_ (fun _ => ?_))
      | exact page_Get.mono _ _ _
      | exact spoorlaw05_lives.mono _
      | exact LeO.none _
      | refine LeO.ite ?_ ?_
      | refine LeO.bind ?_ (fun _ => ?_)
set_option maxHeartbeats 8000000 in
set_option maxRecDepth 100000 in
theorem spoorlaw05_PageOne.calls (k : Nat) (a0 : ByteArray) (a1 : Int) (a2 : Int) (r : Bool) (w : World) (h : spoorlaw05_PageOne.f k a0 a1 a2 = some r) :
    Calls Try.prog 6 #[.string a0, .int .u64 a1, .int .u64 a2] w fun e w' => e = .returned (.bool r) ∧ Below w.heap.size w w' := by
  have HB := Aside0.mk (Below.refl w.heap.size w)
  have H : ((spoorlaw05_lives.f k).bind fun t212 => (if t212 = true then ((page_Get.f k a0 a1).bind fun bt213 => (if bt213.2 = 0 then ((page_Put.f a1 bt213.1).bind fun bt215 => ((page_Get.f k a0 a2).bind fun bt217 => (if bt215.2 = 0 then (if bt215.1.toList = a0.toList then (some ((bt217.2 == 0) == (a2 == a1))) else (none)) else (none)))) else (some (bt213.1.toList == ([] : List UInt8))))) else (none))) = some r := h
  clear h
  replace H := Option.bind_eq_some_iff.mp H
  obtain ⟨t212, A40, H⟩ := H
  replace H : (if t212 = true then ((page_Get.f k a0 a1).bind fun bt213 => (if bt213.2 = 0 then ((page_Put.f a1 bt213.1).bind fun bt215 => ((page_Get.f k a0 a2).bind fun bt217 => (if bt215.2 = 0 then (if bt215.1.toList = a0.toList then (some ((bt217.2 == 0) == (a2 == a1))) else (none)) else (none)))) else (some (bt213.1.toList == ([] : List UInt8))))) else (none)) = some r := H
  have A4 := Aside0.mk A40
  clear A40
  by_cases c5 : t212 = true
  · subst c5
    have H1 : ((page_Get.f k a0 a1).bind fun bt213 => (if bt213.2 = 0 then ((page_Put.f a1 bt213.1).bind fun bt215 => ((page_Get.f k a0 a2).bind fun bt217 => (if bt215.2 = 0 then (if bt215.1.toList = a0.toList then (some ((bt217.2 == 0) == (a2 == a1))) else (none)) else (none)))) else (some (bt213.1.toList == ([] : List UInt8))))) = some r := by rw [if_pos rfl] at H; exact H
    clear H
    have H := H1
    clear H1
    replace H := Option.bind_eq_some_iff.mp H
    obtain ⟨⟨t213, t214⟩, A60, H⟩ := H
    replace H : (if t214 = 0 then ((page_Put.f a1 t213).bind fun bt215 => ((page_Get.f k a0 a2).bind fun bt217 => (if bt215.2 = 0 then (if bt215.1.toList = a0.toList then (some ((bt217.2 == 0) == (a2 == a1))) else (none)) else (none)))) else (some (t213.toList == ([] : List UInt8)))) = some r := H
    have A6 := Aside0.mk A60
    clear A60
    by_cases c7 : t214 = 0
    · rw [if_pos c7] at H
      have c7b0 : (t214 == 0) = true := beq_iff_eq.mpr c7
      have c7b1 : (t214 != 0) = false := bne_eq_false_iff_eq.mpr c7
      clear c7
      replace H := Option.bind_eq_some_iff.mp H
      obtain ⟨⟨t215, t216⟩, A80, H⟩ := H
      replace H : ((page_Get.f k a0 a2).bind fun bt217 => (if t216 = 0 then (if t215.toList = a0.toList then (some ((bt217.2 == 0) == (a2 == a1))) else (none)) else (none))) = some r := H
      have A8 := Aside0.mk A80
      clear A80
      replace H := Option.bind_eq_some_iff.mp H
      obtain ⟨⟨t217, t218⟩, A90, H⟩ := H
      replace H : (if t216 = 0 then (if t215.toList = a0.toList then (some ((t218 == 0) == (a2 == a1))) else (none)) else (none)) = some r := H
      have A9 := Aside0.mk A90
      clear A90
      by_cases c10 : t216 = 0
      · rw [if_pos c10] at H
        have c10b0 : (t216 == 0) = true := beq_iff_eq.mpr c10
        have c10b1 : (t216 != 0) = false := bne_eq_false_iff_eq.mpr c10
        clear c10
        by_cases c11 : t215.toList = a0.toList
        · rw [if_pos c11] at H
          have c11b0 : (t215.toList == a0.toList) = true := beq_iff_eq.mpr c11
          have c11b1 : (t215.toList != a0.toList) = false := bne_eq_false_iff_eq.mpr c11
          clear c11
          obtain rfl := Option.some.inj H
          go_enter Try.func6, Try.ntmps6
          go_wp2_with (first | ((with_reducible refine gate_callee (f := 14) rfl ?_); refine goesL_ (some 13) rfl rfl Try.func14 (by kernel_rfl) rfl #[] rfl (by (try simp only [List.map_toArray, List.map_cons, List.map_nil]); first | done | rfl | (simp only [List.length_drop, List.length_take]; rfl)) ?_; (with_reducible refine (spoorlaw05_lives.calls k  true _ A4.out).mono ?_); rintro e w12 ⟨rfl, hb⟩; refine ⟨_, rfl, ?_⟩; have n0_ := Aside0.mk (below_step (by repeat (first | (with_reducible first | exact HB.out | apply below_alloc | apply pw_below_drewN | apply below_drew1) | exact HB.out)) hb); clear HB; have HB := n0_; clear n0_; (try clear hb); (try clear hb2); (try clear hk); (try clear hi)) | ((with_reducible refine gate_callee (f := 10) rfl ?_); refine goesL_ (some 18) rfl rfl Try.func10 (by kernel_rfl) rfl #[.string a0, .int .u64 a1] rfl (by (try simp only [List.map_toArray, List.map_cons, List.map_nil]); first | done | rfl | (simp only [List.length_drop, List.length_take]; rfl)) ?_; (with_reducible refine (page_Get.calls k a0 a1 t213 t214 _ A6.out).mono ?_); rintro e w13 ⟨rfl, hb⟩; refine ⟨_, rfl, ?_⟩; have n0_ := Aside0.mk (below_step (by repeat (first | (with_reducible first | exact HB.out | apply below_alloc | apply pw_below_drewN | apply below_drew1) | exact HB.out)) hb); clear HB; have HB := n0_; clear n0_; (try clear hb); (try clear hb2); (try clear hk); (try clear hi)) | ((with_reducible refine gate_callee (f := 8) rfl ?_); refine goesL_ (some 28) rfl rfl Try.func8 (by kernel_rfl) rfl #[.int .u64 a1, .string t213] rfl (by (try simp only [List.map_toArray, List.map_cons, List.map_nil]); first | done | rfl | (simp only [List.length_drop, List.length_take]; rfl)) ?_; (with_reducible refine (page_Put.calls a1 t213 t215 t216 _ A8.out).mono ?_); rintro e w14 ⟨rfl, hb⟩; refine ⟨_, rfl, ?_⟩; have n0_ := Aside0.mk (below_step (by repeat (first | (with_reducible first | exact HB.out | apply below_alloc | apply pw_below_drewN | apply below_drew1) | exact HB.out)) hb); clear HB; have HB := n0_; clear n0_; (try clear hb); (try clear hb2); (try clear hk); (try clear hi)) | ((with_reducible refine gate_callee (f := 10) rfl ?_); refine goesL_ (some 34) rfl rfl Try.func10 (by kernel_rfl) rfl #[.string a0, .int .u64 a2] rfl (by (try simp only [List.map_toArray, List.map_cons, List.map_nil]); first | done | rfl | (simp only [List.length_drop, List.length_take]; rfl)) ?_; (with_reducible refine (page_Get.calls k a0 a2 t217 t218 _ A9.out).mono ?_); rintro e w15 ⟨rfl, hb⟩; refine ⟨_, rfl, ?_⟩; have n0_ := Aside0.mk (below_step (by repeat (first | (with_reducible first | exact HB.out | apply below_alloc | apply pw_below_drewN | apply below_drew1) | exact HB.out)) hb); clear HB; have HB := n0_; clear n0_; (try clear hb); (try clear hb2); (try clear hk); (try clear hi)))
          go_ret
          exact ⟨by first | rfl | (simp [errW_none, errW_some] <;> rfl) | (simp [*, errW_none, errW_some] <;> rfl), by repeat (first | (with_reducible first | exact HB.out | apply below_alloc | apply pw_below_drewN | apply below_drew1) | exact HB.out)⟩
        · rw [if_neg c11] at H
          exact absurd H (by simp)
      · rw [if_neg c10] at H
        exact absurd H (by simp)
    · rw [if_neg c7] at H
      have c7b0 : (t214 == 0) = false := beq_eq_false_iff_ne.mpr c7
      have c7b1 : (t214 != 0) = true := bne_iff_ne.mpr c7
      obtain rfl := Option.some.inj H
      go_enter Try.func6, Try.ntmps6
      go_wp2_with (first | ((with_reducible refine gate_callee (f := 14) rfl ?_); refine goesL_ (some 13) rfl rfl Try.func14 (by kernel_rfl) rfl #[] rfl (by (try simp only [List.map_toArray, List.map_cons, List.map_nil]); first | done | rfl | (simp only [List.length_drop, List.length_take]; rfl)) ?_; (with_reducible refine (spoorlaw05_lives.calls k  true _ A4.out).mono ?_); rintro e w16 ⟨rfl, hb⟩; refine ⟨_, rfl, ?_⟩; have n0_ := Aside0.mk (below_step (by repeat (first | (with_reducible first | exact HB.out | apply below_alloc | apply pw_below_drewN | apply below_drew1) | exact HB.out)) hb); clear HB; have HB := n0_; clear n0_; (try clear hb); (try clear hb2); (try clear hk); (try clear hi)) | ((with_reducible refine gate_callee (f := 10) rfl ?_); refine goesL_ (some 18) rfl rfl Try.func10 (by kernel_rfl) rfl #[.string a0, .int .u64 a1] rfl (by (try simp only [List.map_toArray, List.map_cons, List.map_nil]); first | done | rfl | (simp only [List.length_drop, List.length_take]; rfl)) ?_; (with_reducible refine (page_Get.calls k a0 a1 t213 t214 _ A6.out).mono ?_); rintro e w17 ⟨rfl, hb⟩; refine ⟨_, rfl, ?_⟩; have n0_ := Aside0.mk (below_step (by repeat (first | (with_reducible first | exact HB.out | apply below_alloc | apply pw_below_drewN | apply below_drew1) | exact HB.out)) hb); clear HB; have HB := n0_; clear n0_; (try clear hb); (try clear hb2); (try clear hk); (try clear hi)))
      go_ret
      exact ⟨by first | rfl | (simp [errW_none, errW_some] <;> rfl) | (simp [*, errW_none, errW_some] <;> rfl), by repeat (first | (with_reducible first | exact HB.out | apply below_alloc | apply pw_below_drewN | apply below_drew1) | exact HB.out)⟩
  · replace c5 := Bool.eq_false_iff.mpr c5
    subst c5
    have H1 : (none) = some r := by rw [if_neg (show ¬ (false = true) by decide)] at H; exact H
    clear H
    have H := H1
    clear H1
    exact absurd H (by simp)

/-- THE ONE PURE STATEMENT of spoorlaw05_PageOne: yours. -/
def spoorlaw05_PageOne.Pure : Prop := ∀ (a0 : ByteArray) (a1 : Int) (a2 : Int), a0.size ≤ 140737488351232 → (Lit.int .u64 a1).wf = true → (Lit.int .u64 a2).wf = true → ∃ k, spoorlaw05_PageOne.f k a0 a1 a2 = some true
theorem spoorlaw05_PageOne.walk (P : spoorlaw05_PageOne.Pure) (a0 : ByteArray) (a1 : Int) (a2 : Int) (w : World) (w0 : a0.size ≤ 140737488351232) (w1 : (Lit.int .u64 a1).wf = true) (w2 : (Lit.int .u64 a2).wf = true) :
    Calls Try.prog 6 #[.string a0, .int .u64 a1, .int .u64 a2] w fun e w' => e = .returned (.bool true) ∧ Below w.heap.size w w' := by
  obtain ⟨k, h⟩ := P a0 a1 a2 w0 w1 w2
  refine (spoorlaw05_PageOne.calls k a0 a1 a2 true w h).mono ?_
  rintro e w' ⟨rfl, hd⟩
  exact ⟨rfl, hd⟩

end Go.Proofs.Ytdnffphknigipaa.Q
