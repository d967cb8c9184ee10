-- Printed by this session's program wip/tools/mp.sh out of the translation.
import Derived.Test.YtnhkmhpibbmmnaaQx0
import Derived.Test.YtnhkmhpibbmmnaaQx5
import Derived.Test.YtnhkmhpibbmmnaaQx7
namespace Go.Proofs.Ytnhkmhpibbmmnaa.Q
open Go.RowKit Go.Proofs.YtnhkmhpibbmmnaaW.PrintWords Go.Proofs.YtnhkmhpibbmmnaaW.PrintLast Go.Proofs.YtnhkmhpibbmmnaaW.PrintMore
attribute [local go_sem] max2_int min2_int max_two min_two max_three min_three max_four min_four   -- for this text's walks alone
set_option linter.unusedVariables false
set_option linter.unusedSimpArgs false

/-! ### num_Reader_Many: function 34 -/
def num_Reader_Many.f (k : Nat) (s0_0 : ByteArray) (s0_1 : Int) (a1 : Int) : Option (Int × ByteArray × Int) := (num_Reader_Num.f k s0_0 s0_1).bind fun bt164 => (if bt164.1 > (IntKind.u64.wrap (a1)) then (some (0, bt164.2.1, 7)) else (some (wrap64 (bt164.1), bt164.2.1, bt164.2.2)))
theorem num_Reader_Many.mono : ∀ a0 a1 a2 k, LeO (num_Reader_Many.f k a0 a1 a2) (num_Reader_Many.f (k + 1) a0 a1 a2) := by
  intro a0 a1 a2 k
  unfold num_Reader_Many.f
  repeat' first
      | (with_reducible exact num_Reader_Num.mono _ _ _)
      | (with_reducible exact LeO.refl _)
      | (with_reducible exact LeO.none _)
      | (with_reducible refine LeO.ite ?_ ?_)
      | (with_reducible refine LeO.bind ?_ (fun _ => ?_))
      | exact num_Reader_Num.mono _ _ _
      | exact LeO.none _
      | refine LeO.ite ?_ ?_
      | refine LeO.bind ?_ (fun _ => ?_)
set_option maxHeartbeats 8000000 in
set_option maxRecDepth 100000 in
theorem num_Reader_Many.calls (k : Nat) (g : Nat) (s0_0 : ByteArray) (s0_1 : Int) (a1 : Int) (r1 : Int) (r2 : ByteArray) (r3 : Int) (w0 w : World) (hI : IsS51 w0 w g s0_0 s0_1) (hB : Below w0.heap.size w0 w) (h : num_Reader_Many.f k s0_0 s0_1 a1 = some (r1, r2, r3)) :
    Calls Try.prog 34 #[.pointer (some ⟨g, 0, none⟩), .int .i64 a1] w fun e w' => e = .returned (.int .i64 r1) ∧ IsS51 w0 w' g r2 r3 ∧ Below w0.heap.size w0 w' ∧ KeepBut w w' g none := by
  have HI0 := Aside0.mk hI
  have HK := Aside0.mk (KeepBut.refl w g none)
  have HL := Aside0.mk hB.size
  clear hI
  have HW0 := Aside0.mk hB.size
  have HB := Aside0.mk hB
  clear hB
  have H : ((num_Reader_Num.f k s0_0 s0_1).bind fun bt164 => (if bt164.1 > (IntKind.u64.wrap (a1)) then (some (0, bt164.2.1, 7)) else (some (wrap64 (bt164.1), bt164.2.1, bt164.2.2)))) = some (r1, r2, r3) := h
  clear h
  replace H := Option.bind_eq_some_iff.mp H
  obtain ⟨⟨t164, t165, t166⟩, A30, H⟩ := H
  replace H : (if t164 > (IntKind.u64.wrap (a1)) then (some (0, t165, 7)) else (some (wrap64 (t164), t165, t166))) = some (r1, r2, r3) := H
  have A3 := Aside0.mk A30
  clear A30
  by_cases c4 : t164 > (IntKind.u64.wrap (a1))
  · rw [if_pos c4] at H
    have c4b0 : decide ((IntKind.u64.wrap (a1)) < t164) = true := decide_eq_true c4
    clear c4
    simp only [Option.some.injEq, Prod.mk.injEq] at H
    obtain ⟨rfl, rfl, rfl⟩ := H
    go_enter Try.func34, Try.ntmps34
    go_wp2_with (first | ((with_reducible refine gate_callee (f := 30) rfl ?_); refine goesL_ (some 7) rfl rfl Try.func30 (by kernel_rfl) rfl #[.pointer (some ⟨g, 0, none⟩)] rfl (by (try simp only [List.map_toArray, List.map_cons, List.map_nil]); first | done | rfl | (simp only [List.length_drop, List.length_take]; rfl)) ?_; (with_reducible refine (num_Reader_Num.calls k g s0_0 s0_1 t164 t165 t166 w0 _ ?side1 ?side2 A3.out).mono ?_); (case side1 => repeat (first | (with_reducible first | exact HI0.out | apply IsS51.alloc | apply IsS51.drewN | apply IsS51.drew | apply IsS51.set_0 | apply IsS51.set_1) | exact HI0.out)); (case side2 => repeat (first | (with_reducible first | exact HB.out | apply below_alloc | apply pw_below_drewN | apply below_drew1 | refine below_set ?_ (IsS51.ge HI0.out)) | exact HB.out)); rintro e w5 ⟨rfl, hi, hb, hk⟩; refine ⟨_, rfl, ?_⟩; have n0_ := Aside0.mk (KeepBut.trans (by repeat (first | (with_reducible first | exact HK.out | apply KeepBut.set_ | apply keep_drewN | apply keep_drew | apply keep_alloc) | exact HK.out)) hk (.inl rfl)); have n1_ := Aside0.mk (hb); have n2_ := Aside0.mk (hi); clear HK; clear HB; clear HI0; have HK := n0_; have HB := n1_; have HI0 := n2_; clear n0_ n1_ n2_; (try clear hb); (try clear hb2); (try clear hk); (try clear hi); obtain ⟨HGz6, hgz6⟩ := HI0.out; have hcz6_0 := cellS51_0 HGz6; have hcz6_1 := cellS51_1 HGz6; have hfz6_0 := blk_frozen HGz6 0; have hfz6_1 := blk_frozen HGz6 1; clear HGz6 hgz6))
    go_ret
    exact ⟨by first | rfl | (simp [errW_none, errW_some] <;> rfl) | (simp [*, errW_none, errW_some] <;> rfl), by repeat (first | (with_reducible first | exact HI0.out | apply IsS51.alloc | apply IsS51.drewN | apply IsS51.drew | apply IsS51.set_0 | apply IsS51.set_1) | exact HI0.out), by repeat (first | (with_reducible first | exact HB.out | apply below_alloc | apply pw_below_drewN | apply below_drew1 | refine below_set ?_ (IsS51.ge HI0.out)) | exact HB.out), by repeat (first | (with_reducible first | exact HK.out | apply KeepBut.set_ | apply keep_drewN | apply keep_drew | apply keep_alloc) | exact HK.out)⟩
  · rw [if_neg c4] at H
    have c4b0 : decide ((IntKind.u64.wrap (a1)) < t164) = false := decide_eq_false c4
    clear c4
    simp only [Option.some.injEq, Prod.mk.injEq] at H
    obtain ⟨rfl, rfl, rfl⟩ := H
    go_enter Try.func34, Try.ntmps34
    go_wp2_with (first | ((with_reducible refine gate_callee (f := 30) rfl ?_); refine goesL_ (some 7) rfl rfl Try.func30 (by kernel_rfl) rfl #[.pointer (some ⟨g, 0, none⟩)] rfl (by (try simp only [List.map_toArray, List.map_cons, List.map_nil]); first | done | rfl | (simp only [List.length_drop, List.length_take]; rfl)) ?_; (with_reducible refine (num_Reader_Num.calls k g s0_0 s0_1 t164 t165 t166 w0 _ ?side1 ?side2 A3.out).mono ?_); (case side1 => repeat (first | (with_reducible first | exact HI0.out | apply IsS51.alloc | apply IsS51.drewN | apply IsS51.drew | apply IsS51.set_0 | apply IsS51.set_1) | exact HI0.out)); (case side2 => repeat (first | (with_reducible first | exact HB.out | apply below_alloc | apply pw_below_drewN | apply below_drew1 | refine below_set ?_ (IsS51.ge HI0.out)) | exact HB.out)); rintro e w7 ⟨rfl, hi, hb, hk⟩; refine ⟨_, rfl, ?_⟩; have n0_ := Aside0.mk (KeepBut.trans (by repeat (first | (with_reducible first | exact HK.out | apply KeepBut.set_ | apply keep_drewN | apply keep_drew | apply keep_alloc) | exact HK.out)) hk (.inl rfl)); have n1_ := Aside0.mk (hb); have n2_ := Aside0.mk (hi); clear HK; clear HB; clear HI0; have HK := n0_; have HB := n1_; have HI0 := n2_; clear n0_ n1_ n2_; (try clear hb); (try clear hb2); (try clear hk); (try clear hi)))
    go_ret
    exact ⟨by first | rfl | (simp [errW_none, errW_some] <;> rfl) | (simp [*, errW_none, errW_some] <;> rfl), by repeat (first | (with_reducible first | exact HI0.out | apply IsS51.alloc | apply IsS51.drewN | apply IsS51.drew | apply IsS51.set_0 | apply IsS51.set_1) | exact HI0.out), by repeat (first | (with_reducible first | exact HB.out | apply below_alloc | apply pw_below_drewN | apply below_drew1 | refine below_set ?_ (IsS51.ge HI0.out)) | exact HB.out), by repeat (first | (with_reducible first | exact HK.out | apply KeepBut.set_ | apply keep_drewN | apply keep_drew | apply keep_alloc) | exact HK.out)⟩

-- NOT PRINTED: function 29 (num_Parts_uint64)

/-! ### num_done_uint64: function 31 -/
def num_done_uint64.f (s0_0 : ByteArray) (s0_1 : Int) (l1 : List Int) : Option (List Int × ByteArray × Int × ByteArray × Int) := if s0_1 = 0 then (some (l1, s0_0, 0, s0_0, s0_1)) else (some (([] : List Int), (⟨#[]⟩ : ByteArray), s0_1, s0_0, s0_1))
set_option maxHeartbeats 8000000 in
set_option maxRecDepth 100000 in
theorem num_done_uint64.calls (g : Nat) (s0_0 : ByteArray) (s0_1 : Int) (P1_ : Nat → Prop) (u9000_ : Value) (l1 : List Int) (r1 : List Int) (r2 : ByteArray) (r3 : Int) (r4 : ByteArray) (r5 : Int) (w0 w : World) (hI : IsS51 w0 w g s0_0 s0_1) (hB : Below w0.heap.size w0 w) (ho1 : Kd.R (Kd.int .u64) 22 w w0.heap.size P1_ u9000_ l1) (h : num_done_uint64.f s0_0 s0_1 l1 = some (r1, r2, r3, r4, r5)) :
    Calls Try.prog 31 #[.pointer (some ⟨g, 0, none⟩), u9000_] w fun e w' => ∃ v0_ : Value, e = .returned (.tuple #[v0_, .string r2, .int .i64 r3]) ∧ Kd.R (Kd.int .u64) 22 w' w0.heap.size (fun k_ => (P1_ k_ ∨ w.heap.size ≤ k_)) v0_ r1 ∧ IsS51 w0 w' g r4 r5 ∧ Below w0.heap.size w0 w' ∧ Kept w w' (fun k_ => (P1_ k_) ∨ k_ = g) := by
  have HO1 := Aside0.mk (show Kd.R (Kd.int .u64) 22 w w0.heap.size (fun k_ => (P1_ k_ ∨ w.heap.size ≤ k_)) u9000_ l1 from Kd.R_mono ho1 (fun k_ hk => (.inl hk)))
  have HI0 := Aside0.mk hI
  have HL := Aside0.mk hB.size
  clear hI
  have HK := Aside0.mk (Kept.refl w (fun k_ => (P1_ k_) ∨ k_ = g))
  have HW0 := Aside0.mk hB.size
  have HB := Aside0.mk hB
  clear hB
  have H : (if s0_1 = 0 then (some (l1, s0_0, 0, s0_0, s0_1)) else (some (([] : List Int), (⟨#[]⟩ : ByteArray), s0_1, s0_0, s0_1))) = some (r1, r2, r3, r4, r5) := h
  clear h
  by_cases c3 : s0_1 = 0
  · rw [if_pos c3] at H
    have c3b0 : (s0_1 == 0) = true := beq_iff_eq.mpr c3
    have c3b1 : (s0_1 != 0) = false := bne_eq_false_iff_eq.mpr c3
    clear c3
    simp only [Option.some.injEq, Prod.mk.injEq] at H
    obtain ⟨rfl, rfl, rfl, rfl, rfl⟩ := H
    obtain ⟨HGz4, hgz4⟩ := HI0.out
    have hcz4_0 := cellS51_0 HGz4
    have hcz4_1 := cellS51_1 HGz4
    have hfz4_0 := blk_frozen HGz4 0
    have hfz4_1 := blk_frozen HGz4 1
    clear HGz4 hgz4
    go_enter Try.func31, Try.ntmps31
    go_wp2
    repeat (go_quiet (fail); try go_wp2)
    go_ret3
    exact ⟨_, by first | rfl | (simp [errW_none, errW_some] <;> rfl) | (simp [*, errW_none, errW_some] <;> rfl), by (with_reducible repeat (first | apply Kd.R_alloc | apply Kd.R_drewN | apply Kd.R_drew)); exact HO1.out, by repeat (first | (with_reducible first | exact HI0.out | apply IsS51.alloc | apply IsS51.drewN | apply IsS51.drew | apply IsS51.set_0 | apply IsS51.set_1) | exact HI0.out), by repeat (first | (with_reducible first | exact HB.out | apply below_alloc | apply pw_below_drewN | apply below_drew1 | refine below_set ?_ (IsS51.ge HI0.out)) | exact HB.out), by repeat (first | (with_reducible first | exact HK.out | apply Kept.alloc | apply Kept.drewN | apply Kept.drew | refine Kept.setCell ?_ (.inl (.inr rfl)) _) | exact HK.out)⟩
  · rw [if_neg c3] at H
    have c3b0 : (s0_1 == 0) = false := beq_eq_false_iff_ne.mpr c3
    have c3b1 : (s0_1 != 0) = true := bne_iff_ne.mpr c3
    simp only [Option.some.injEq, Prod.mk.injEq] at H
    obtain ⟨rfl, rfl, rfl, rfl, rfl⟩ := H
    obtain ⟨HGz5, hgz5⟩ := HI0.out
    have hcz5_0 := cellS51_0 HGz5
    have hcz5_1 := cellS51_1 HGz5
    have hfz5_0 := blk_frozen HGz5 0
    have hfz5_1 := blk_frozen HGz5 1
    clear HGz5 hgz5
    go_enter Try.func31, Try.ntmps31
    go_wp2
    repeat (go_quiet (fail); try go_wp2)
    go_ret3
    exact ⟨_, by first | rfl | (simp [errW_none, errW_some] <;> rfl) | (simp [*, errW_none, errW_some] <;> rfl), by first | exact Kd.R_nil _ _ _ _ _ | exact Kd.N_nil _ _ _ _ _ | exact Kd.V_nil _ _ _ _ _ | exact Kd.Q_nil _ _ _ _ _ | exact Kd.S_nil _ _ _ _ _, by repeat (first | (with_reducible first | exact HI0.out | apply IsS51.alloc | apply IsS51.drewN | apply IsS51.drew | apply IsS51.set_0 | apply IsS51.set_1) | exact HI0.out), by repeat (first | (with_reducible first | exact HB.out | apply below_alloc | apply pw_below_drewN | apply below_drew1 | refine below_set ?_ (IsS51.ge HI0.out)) | exact HB.out), by repeat (first | (with_reducible first | exact HK.out | apply Kept.alloc | apply Kept.drewN | apply Kept.drew | refine Kept.setCell ?_ (.inl (.inr rfl)) _) | exact HK.out)⟩

/-! ### num_GetRow: function 20 -/
def num_Parts_uint64.l0 : Nat → ByteArray → Int → Int → Int → List Int → Option (List Int × ByteArray × Int)
  | 0, _, _, _, _, _ => none
  | k + 1, x0, x1, x2, x3, x4 => if x3 < x2 then ((num_Reader_Num.f k x0 x1).bind fun b => (if b.2.2 = 0 then (if x4.length < 17592186044416 then (num_Parts_uint64.l0 k b.2.1 b.2.2 x2 (wrap64 (x3 + 1)) (x4 ++ [b.1])) else (none)) else (some (([] : List Int), b.2.1, b.2.2)))) else (some (x4, x0, x1))
def num_Parts_uint64.f (k : Nat) (s0_0 : ByteArray) (s0_1 : Int) (a1 : Int) : Option (List Int × ByteArray × Int) := (num_Reader_Many.f k s0_0 s0_1 a1).bind fun b => num_Parts_uint64.l0 k b.2.1 b.2.2 b.1 0 []
theorem num_Parts_uint64.mono_l : ∀ k, (∀ y0 y1 y2 y3 y4, LeO (num_Parts_uint64.l0 k y0 y1 y2 y3 y4) (num_Parts_uint64.l0 (k + 1) y0 y1 y2 y3 y4))
  | 0 => fun _ _ _ _ _ r h => by simp [num_Parts_uint64.l0] at h
  | k + 1 => by
    have ih0 := num_Parts_uint64.mono_l k
    · intro y0 y1 y2 y3 y4
      unfold num_Parts_uint64.l0
      repeat' first
      | (with_reducible exact ih0 _ _ _ _ _)
      | (with_reducible exact num_Reader_Num.mono _ _ _)
      | (with_reducible exact num_Reader_Many.mono _ _ _ _)
      | (with_reducible exact LeO.refl _)
      | (with_reducible exact LeO.none _)
      | (with_reducible refine LeO.ite ?_ ?_)
      | (with_reducible refine LeO.bind ?_ (fun _ => ?_))
      | exact ih0 _ _ _ _ _
      | exact num_Reader_Num.mono _ _ _
      | exact num_Reader_Many.mono _ _ _ _
      | exact LeO.none _
      | refine LeO.ite ?_ ?_
      | refine LeO.bind ?_ (fun _ => ?_)
theorem num_Parts_uint64.mono : ∀ a0 a1 a2 k, LeO (num_Parts_uint64.f k a0 a1 a2) (num_Parts_uint64.f (k + 1) a0 a1 a2) := by
  intro a0 a1 a2 k
  have ih0 := num_Parts_uint64.mono_l k
  unfold num_Parts_uint64.f
  repeat' first
      | (with_reducible exact ih0 _ _ _ _ _)
      | (with_reducible exact num_Reader_Num.mono _ _ _)
      | (with_reducible exact num_Reader_Many.mono _ _ _ _)
      | (with_reducible exact LeO.refl _)
      | (with_reducible exact LeO.none _)
      | (with_reducible refine LeO.ite ?_ ?_)
      | (with_reducible refine LeO.bind ?_ (fun _ => ?_))
      | exact ih0 _ _ _ _ _
      | exact num_Reader_Num.mono _ _ _
      | exact num_Reader_Many.mono _ _ _ _
      | exact LeO.none _
      | refine LeO.ite ?_ ?_
      | refine LeO.bind ?_ (fun _ => ?_)
def num_GetRow.f (k : Nat) (a0 : ByteArray) : Option (List Int × ByteArray × Int) := (num_Parts_uint64.f k a0 0 4096).bind fun b => (num_done_uint64.f b.2.1 b.2.2 b.1).bind fun c => some (c.1, c.2.1, c.2.2.1)
theorem num_GetRow.mono : ∀ a0 k, LeO (num_GetRow.f k a0) (num_GetRow.f (k + 1) a0) := by
  intro a0 k
  unfold num_GetRow.f
  repeat' first
      | (with_reducible exact num_Parts_uint64.mono _ _ _ _)
      | (with_reducible exact LeO.refl _)
      | (with_reducible exact LeO.none _)
      | (with_reducible refine LeO.ite ?_ ?_)
      | (with_reducible refine LeO.bind ?_ (fun _ => ?_))
      | exact num_Parts_uint64.mono _ _ _ _
      | exact LeO.none _
      | refine LeO.ite ?_ ?_
      | refine LeO.bind ?_ (fun _ => ?_)
set_option maxHeartbeats 8000000 in
set_option maxRecDepth 100000 in
theorem num_Parts_uint64.calls (k : Nat) (g : Nat) (s0_0 : ByteArray) (s0_1 : Int) (a1 : Int) (r1 : List Int) (r2 : ByteArray) (r3 : Int) (w0 w : World) (hI : IsS51 w0 w g s0_0 s0_1) (hB : Below w0.heap.size w0 w) (h : num_Parts_uint64.f k s0_0 s0_1 a1 = some (r1, r2, r3)) :
    Calls Try.prog 29 #[.pointer (some ⟨g, 0, none⟩), .int .i64 a1, .func (.func 30) #[.pointer (some ⟨g, 0, none⟩)] #[]] w fun e w' => ∃ v0_ : Value, e = .returned v0_ ∧ Kd.R (Kd.int .u64) 22 w' w0.heap.size (fun k_ => k_ ≠ g) v0_ r1 ∧ IsS51 w0 w' g r2 r3 ∧ Below w0.heap.size w0 w' := by
  obtain ⟨⟨n, s, y⟩, hA, hL⟩ := Option.bind_eq_some_iff.mp h
  have HA := Aside0.mk hA
  have HL := Aside0.mk hL
  have HI := Aside0.mk hI
  have HB := Aside0.mk hB
  clear h hA hL hI hB
  go_enter Try.func29, Try.ntmps29
  go_wp2_with (first | (go_at_call 34; refine (num_Reader_Many.calls k g s0_0 s0_1 a1 n s y w0 w HI.out HB.out HA.out).mono ?_; rintro e w5 ⟨rfl, hI, hb, hk⟩; have HI5 := Aside0.mk hI; have HB5 := Aside0.mk hb; clear hI hb hk HI HB))
  go_loopg [7, 12] k (fun kq v7 v12 w' => ∃ (x0 : ByteArray) (x1 : Int) (x3 : Int) (x4 : List Int), v12 = .int .i64 x3 ∧ Aside0 (num_Parts_uint64.l0 kq x0 x1 n x3 x4 = some (r1, r2, r3)) ∧ Aside0 (kq ≤ k) ∧ Aside0 (Kd.R (Kd.int .u64) 22 w' w0.heap.size (fun k_ => k_ ≠ g) v7 x4) ∧ Aside0 (IsS51 w0 w' g x0 x1) ∧ Aside0 (Below w0.heap.size w0 w'))
  case atStart => exact ⟨s, y, 0, [], rfl, HL, ⟨Nat.le_refl _⟩, ⟨Kd.R_nil _ _ _ _ _⟩, HI5, HB5⟩
  case round =>
    clear HL HI5 HB5
    obtain ⟨x0, x1, x3, x4, rfl, HL, HK1, HO, HI, HB⟩ := hrel
    cases gk with
    | zero => exact absurd HL.out (by simp [num_Parts_uint64.l0])
    | succ k1 =>
      have H := HL.out
      clear HL
      simp only [num_Parts_uint64.l0] at H
      by_cases c1 : x3 < n
      · rw [if_pos c1] at H
        have c1b : decide (x3 < n) = true := decide_eq_true c1
        clear c1
        obtain ⟨⟨m, s2, y2⟩, hN, H⟩ := Option.bind_eq_some_iff.mp H
        have HN := Aside0.mk hN
        clear hN
        by_cases c2 : y2 = 0
        · replace H : (if y2 = 0 then (if x4.length < 17592186044416 then (num_Parts_uint64.l0 k1 s2 y2 n (wrap64 (x3 + 1)) (x4 ++ [m])) else (none)) else (some (([] : List Int), s2, y2))) = some (r1, r2, r3) := H
          rw [if_pos c2] at H
          have c2b : (y2 != 0) = false := bne_eq_false_iff_eq.mpr c2
          clear c2
          by_cases c3 : x4.length < 17592186044416
          · rw [if_pos c3] at H
            have LM := Aside0.mk c3
            have H' := Aside0.mk H
            clear c3 H
            go_wp2_with (first | (go_at_call 30; refine (num_Reader_Num.calls k1 g x0 x1 m s2 y2 w0 _ HI.out HB.out HN.out).mono ?_; rintro e w5 ⟨rfl, hI, hb, hk⟩; have HO5 := Aside0.mk (Kd.R_step HO.out (fun k_ hk_ hlt_ => hk.2 k_ hlt_ hk_ (by simp))); have HI5 := Aside0.mk hI; have HB5 := Aside0.mk hb; obtain ⟨HGz, hgz⟩ := HI5.out; have hcz0 := cellS51_0 HGz; have hcz1 := cellS51_1 HGz; clear HGz hgz hI hb hk HI HB HO) | ((with_reducible refine gate_builtin (b := .append) (xs := #[.tmp 21, .tmp 23]) rfl ?_); at_builtin; refine Kd.R_append (Kd.int .u64) (w0 := w0) w0.heap.size rfl (.tmp 21) (.tmp 23) 33 22 (.int .u64 0) 8 rfl Try.underlying33 (show (Try.prog.info? 22).map (fun i => (i.zero, i.size, i.bytes)) = some (some (.int .u64 0), 1, 8) by kernel_rfl) rfl (by decide) (by omega) u7 x4 m [.int .u64 m] (fun k_ => k_ ≠ g) (fun _ => False) rfl rfl ?aP (fun _ hk => hk.elim) ?aF ?aO ?aB ?aS ?aL ?_; (case aP => exact rfl); (case aF => exact IsS51.fresh HI5.out); (case aO => exact HO5.out); (case aB => exact HB5.out); (case aS => exact HB5.out.size); (case aL => have := LM.out; omega); intro v1 w6 ho hb hg hat; have HO6 := Aside0.mk ho; have HB6 := Aside0.mk hb; have HI6 := Aside0.mk (IsS51.grown HI5.out hg (IsS51.own_ne HI5.out HO5.out (by decide))); clear ho hb hg hat HO5 HB5 HI5 hcz0 hcz1))
            go_roundg k1
            case measure => have := HK1.out; omega
            case rel => exact ⟨s2, y2, wrap64 (x3 + 1), x4 ++ [m], rfl, H', ⟨by have := HK1.out; omega⟩, HO6, HI6, HB6⟩
          · rw [if_neg c3] at H
            exact absurd H (by simp)
        · replace H : (if y2 = 0 then (if x4.length < 17592186044416 then (num_Parts_uint64.l0 k1 s2 y2 n (wrap64 (x3 + 1)) (x4 ++ [m])) else (none)) else (some (([] : List Int), s2, y2))) = some (r1, r2, r3) := H
          rw [if_neg c2] at H
          have c2b : (y2 != 0) = true := bne_iff_ne.mpr c2
          clear c2
          simp only [Option.some.injEq, Prod.mk.injEq] at H
          obtain ⟨rfl, rfl, rfl⟩ := H
          go_wp2_with (first | (go_at_call 30; refine (num_Reader_Num.calls k1 g x0 x1 m s2 y2 w0 _ HI.out HB.out HN.out).mono ?_; rintro e w5 ⟨rfl, hI, hb, hk⟩; have HI5 := Aside0.mk hI; have HB5 := Aside0.mk hb; obtain ⟨HGz, hgz⟩ := HI5.out; have hcz0 := cellS51_0 HGz; have hcz1 := cellS51_1 HGz; clear HGz hgz hI hb hk HI HB HO))
          go_ret
          exact ⟨_, rfl, Kd.R_nil _ _ _ _ _, HI5.out, HB5.out⟩
      · rw [if_neg c1] at H
        have c1b : decide (x3 < n) = false := decide_eq_false c1
        clear c1
        simp only [Option.some.injEq, Prod.mk.injEq] at H
        obtain ⟨rfl, rfl, rfl⟩ := H
        go_wp2
        go_ret
        exact ⟨_, rfl, HO.out, HI.out, HB.out⟩
set_option maxHeartbeats 8000000 in
set_option maxRecDepth 100000 in
theorem num_GetRow.calls (k : Nat) (a0 : ByteArray) (r1 : List Int) (r2 : ByteArray) (r3 : Int) (w : World) (h : num_GetRow.f k a0 = some (r1, r2, r3)) :
    Calls Try.prog 20 #[.string a0] w fun e w' => ∃ v0_ : Value, e = .returned (.tuple #[v0_, .string r2, .int .i64 r3]) ∧ Kd.R (Kd.int .u64) 22 w' w.heap.size (fun _ => True) v0_ r1 ∧ Below w.heap.size w w' := by
  obtain ⟨⟨l, s, y⟩, hA, hl⟩ := Option.bind_eq_some_iff.mp h
  obtain ⟨⟨c1, c2, c3, c4, c5⟩, hC, hE⟩ := Option.bind_eq_some_iff.mp hl
  simp only [Option.some.injEq, Prod.mk.injEq] at hE
  obtain ⟨rfl, rfl, rfl⟩ := hE
  have HA := Aside0.mk hA
  have HC := Aside0.mk hC
  clear h hl hA hC
  go_enter Try.func20, Try.ntmps20
  go_wp2_with (first | (go_at_call 29; refine (num_Parts_uint64.calls k w.heap.size a0 0 4096 l s y w _ (IsS51.new w w a0 0 (Below.refl _ _)) (below_alloc (Below.refl _ _) _) HA.out).mono ?_; rintro e w5 ⟨v5, rfl, ho, hI, hb⟩; have HO5 := Aside0.mk ho; have HI5 := Aside0.mk hI; have HB5 := Aside0.mk hb; clear ho hI hb) | (go_at_call 31; refine (num_done_uint64.calls w.heap.size s y (fun k_ => k_ ≠ w.heap.size) _ l c1 c2 c3 c4 c5 w _ HI5.out HB5.out HO5.out HC.out).mono ?_; rintro e w6 ⟨v6, rfl, ho, hI, hb, hk⟩; have HO6 := Aside0.mk ho; have HB6 := Aside0.mk hb; clear ho hI hb hk HI5 HB5 HO5))
  go_ret3
  exact ⟨_, rfl, Kd.R_mono HO6.out (fun _ _ => trivial), HB6.out⟩


/-! ### spoorref01_GetRow: function 21 -/
def spoorref01_GetRow.l0 : Nat → Int → ByteArray → List Int → Int → Option (List Int × ByteArray × Int)
  | 0, _, _, _, _ => none
  | k + 1, x5, x6, x8, x9 => if x9 < x5 then ((spoorref01_Get.f k x6).bind fun bt170 => (if bt170.2.2 = 0 then (if x8.length < 17592186044416 then (spoorref01_GetRow.l0 k x5 bt170.2.1 (x8 ++ [bt170.1]) (IntKind.u64.wrap (x9 + 1))) else (none)) else (some (([] : List Int), (⟨#[]⟩ : ByteArray), bt170.2.2)))) else (some (x8, x6, 0))
def spoorref01_GetRow.f (k : Nat) (a0 : ByteArray) : Option (List Int × ByteArray × Int) := (spoorref01_Get.f k a0).bind fun bt167 => (if bt167.2.2 = 0 then (if bt167.1 > 4096 then (some (([] : List Int), (⟨#[]⟩ : ByteArray), 7)) else (spoorref01_GetRow.l0 k bt167.1 bt167.2.1 ([] : List Int) 0)) else (some (([] : List Int), (⟨#[]⟩ : ByteArray), bt167.2.2)))
theorem spoorref01_GetRow.mono_l : ∀ k, (∀ y0 y1 y2 y3, LeO (spoorref01_GetRow.l0 k y0 y1 y2 y3) (spoorref01_GetRow.l0 (k + 1) y0 y1 y2 y3))
  | 0 => fun _ _ _ _ r h => by simp [spoorref01_GetRow.l0] at h
  | k + 1 => by
    have ih0 := spoorref01_GetRow.mono_l k
    · intro y0 y1 y2 y3
      unfold spoorref01_GetRow.l0
      repeat' first
      | (with_reducible exact ih0 _ _ _ _)
      | (with_reducible exact spoorref01_Get.mono _ _)
      | (with_reducible exact LeO.refl _)
      | (with_reducible exact LeO.none _)
      | (with_reducible refine LeO.ite ?_ ?_)
      | (with_reducible refine LeO.bind ?_ (fun _ => ?_))
      | exact ih0 _ _ _ _
      | exact spoorref01_Get.mono _ _
      | exact LeO.none _
      | refine LeO.ite ?_ ?_
      | refine LeO.bind ?_ (fun _ => ?_)
theorem spoorref01_GetRow.mono : ∀ a0 k, LeO (spoorref01_GetRow.f k a0) (spoorref01_GetRow.f (k + 1) a0) := by
  intro a0 k
  have ih0 := spoorref01_GetRow.mono_l k
  unfold spoorref01_GetRow.f
  repeat' first
      | (with_reducible exact ih0 _ _ _ _)
      | (with_reducible exact spoorref01_Get.mono _ _)
      | (with_reducible exact LeO.refl _)
      | (with_reducible exact LeO.none _)
      | (with_reducible refine LeO.ite ?_ ?_)
      | (with_reducible refine LeO.bind ?_ (fun _ => ?_))
      | exact ih0 _ _ _ _
      | exact spoorref01_Get.mono _ _
      | exact LeO.none _
      | refine LeO.ite ?_ ?_
      | refine LeO.bind ?_ (fun _ => ?_)
set_option maxHeartbeats 8000000 in
set_option maxRecDepth 100000 in
theorem spoorref01_GetRow.calls (k : Nat) (a0 : ByteArray) (r1 : List Int) (r2 : ByteArray) (r3 : Int) (w : World) (h : spoorref01_GetRow.f k a0 = some (r1, r2, r3)) :
    Calls Try.prog 21 #[.string a0] w fun e w' => ∃ v0_ : Value, e = .returned (.tuple #[v0_, .string r2, .int .i64 r3]) ∧ Kd.R (Kd.int .u64) 22 w' w.heap.size (fun _ => True) v0_ r1 ∧ Below w.heap.size w w' := by
  have HB := Aside0.mk (Below.refl w.heap.size w)
  have H : ((spoorref01_Get.f k a0).bind fun bt167 => (if bt167.2.2 = 0 then (if bt167.1 > 4096 then (some (([] : List Int), (⟨#[]⟩ : ByteArray), 7)) else (spoorref01_GetRow.l0 k bt167.1 bt167.2.1 ([] : List Int) 0)) else (some (([] : List Int), (⟨#[]⟩ : ByteArray), bt167.2.2)))) = some (r1, r2, r3) := h
  clear h
  replace H := Option.bind_eq_some_iff.mp H
  obtain ⟨⟨t167, t168, t169⟩, A20, H⟩ := H
  replace H : (if t169 = 0 then (if t167 > 4096 then (some (([] : List Int), (⟨#[]⟩ : ByteArray), 7)) else (spoorref01_GetRow.l0 k t167 t168 ([] : List Int) 0)) else (some (([] : List Int), (⟨#[]⟩ : ByteArray), t169))) = some (r1, r2, r3) := H
  have A2 := Aside0.mk A20
  clear A20
  by_cases c3 : t169 = 0
  · rw [if_pos c3] at H
    have c3b0 : (t169 == 0) = true := beq_iff_eq.mpr c3
    have c3b1 : (t169 != 0) = false := bne_eq_false_iff_eq.mpr c3
    clear c3
    by_cases c4 : t167 > 4096
    · rw [if_pos c4] at H
      have c4b0 : decide (4096 < t167) = true := decide_eq_true c4
      clear c4
      simp only [Option.some.injEq, Prod.mk.injEq] at H
      obtain ⟨rfl, rfl, rfl⟩ := H
      go_enter Try.func21, Try.ntmps21
      go_wp2_with (first | ((with_reducible refine gate_callee (f := 13) rfl ?_); refine goesL_ (some 15) rfl rfl Try.func13 (by kernel_rfl) rfl #[.string a0] rfl (by (try simp only [List.map_toArray, List.map_cons, List.map_nil]); first | done | rfl | (simp only [List.length_drop, List.length_take]; rfl)) ?_; (with_reducible refine (spoorref01_Get.calls k a0 t167 t168 t169 _ A2.out).mono ?_); rintro e w' ⟨rfl, ⟨nd, rfl⟩⟩; refine ⟨_, rfl, ?_⟩))
      go_ret3
      exact ⟨_, by first | rfl | (simp [errW_none, errW_some] <;> rfl) | (simp [*, errW_none, errW_some] <;> rfl), by first | exact Kd.R_nil _ _ _ _ _ | exact Kd.N_nil _ _ _ _ _ | exact Kd.V_nil _ _ _ _ _ | exact Kd.Q_nil _ _ _ _ _ | exact Kd.S_nil _ _ _ _ _, by repeat (first | (with_reducible first | exact HB.out | apply below_alloc | apply pw_below_drewN | apply below_drew1) | exact HB.out)⟩
    · rw [if_neg c4] at H
      have c4b0 : decide (4096 < t167) = false := decide_eq_false c4
      clear c4
      have H' := Aside0.mk H
      clear H
      go_enter Try.func21, Try.ntmps21
      go_wp2_with (first | ((with_reducible refine gate_callee (f := 13) rfl ?_); refine goesL_ (some 15) rfl rfl Try.func13 (by kernel_rfl) rfl #[.string a0] rfl (by (try simp only [List.map_toArray, List.map_cons, List.map_nil]); first | done | rfl | (simp only [List.length_drop, List.length_take]; rfl)) ?_; (with_reducible refine (spoorref01_Get.calls k a0 t167 t168 t169 _ A2.out).mono ?_); rintro e w' ⟨rfl, ⟨nd, rfl⟩⟩; refine ⟨_, rfl, ?_⟩))
      go_loopg [6, 8, 9] k (fun kq v6 v8 v9 w' => ∃ (x6_1 : ByteArray) (x8_1 : List Int) (x9_1 : Int), v6 = .string x6_1 ∧ v9 = .int .u64 x9_1 ∧ Aside0 (spoorref01_GetRow.l0 kq t167 x6_1 x8_1 x9_1 = some (r1, r2, r3)) ∧ Aside0 (kq ≤ k) ∧ Aside0 (Kd.R (Kd.int .u64) 22 w' w.heap.size (fun _ => True) v8 x8_1) ∧ Aside0 (Below w.heap.size w w'))
      case atStart => exact ⟨(t168), (([] : List Int)), (0), (by first | rfl | (simp; done) | (simp [*]; done)), (by first | rfl | (simp; done) | (simp [*]; done)), H', ⟨Nat.le_refl _⟩, ⟨by first | exact Kd.R_nil _ _ _ _ _ | exact Kd.N_nil _ _ _ _ _ | exact Kd.V_nil _ _ _ _ _ | exact Kd.Q_nil _ _ _ _ _ | exact Kd.S_nil _ _ _ _ _⟩, ⟨by repeat (first | (with_reducible first | exact HB.out | apply below_alloc | apply pw_below_drewN | apply below_drew1) | exact HB.out)⟩⟩
      case round =>
        clear H'
        try clear c1
        try clear c2
        try clear p2
        try clear c3
        try clear c3b0
        try clear c3b1
        try clear c4
        try clear c4b0
        obtain ⟨x6_1, x8_1, x9_1, rfl, rfl, HA, HK1, HO_8, HB⟩ := hrel
        cases gk with
        | zero => exact absurd HA.out (by simp [spoorref01_GetRow.l0])
        | succ k1 =>
          have H := HA.out
          clear HA
          simp only [spoorref01_GetRow.l0] at H
          by_cases c5 : x9_1 < t167
          · rw [if_pos c5] at H
            have c5b0 : decide (x9_1 < t167) = true := decide_eq_true c5
            clear c5
            replace H := Option.bind_eq_some_iff.mp H
            obtain ⟨⟨t170, t171, t172⟩, A60, H⟩ := H
            replace H : (if t172 = 0 then (if x8_1.length < 17592186044416 then (spoorref01_GetRow.l0 k1 t167 t171 (x8_1 ++ [t170]) (IntKind.u64.wrap (x9_1 + 1))) else (none)) else (some (([] : List Int), (⟨#[]⟩ : ByteArray), t172))) = some (r1, r2, r3) := H
            have A6 := Aside0.mk A60
            clear A60
            by_cases c7 : t172 = 0
            · rw [if_pos c7] at H
              have c7b0 : (t172 == 0) = true := beq_iff_eq.mpr c7
              have c7b1 : (t172 != 0) = false := bne_eq_false_iff_eq.mpr c7
              clear c7
              by_cases c8 : x8_1.length < 17592186044416
              · rw [if_pos c8] at H
                have LMc8 := Aside0.mk c8
                clear c8
                obtain ⟨y173, hy173⟩ : ∃ y_ : List Int, y_ = (x8_1 ++ [t170]) := ⟨_, rfl⟩
                replace H : (spoorref01_GetRow.l0 k1 t167 t171 y173 (IntKind.u64.wrap (x9_1 + 1))) = some (r1, r2, r3) := by first | (rw [hy173]; with_reducible exact H) | (have H2_ := (Option.bind_some _ _).symm.trans H; rw [hy173]; with_reducible exact H2_) | (have H2_ := (Option.bind_some _ _).symm.trans H; with_reducible exact H2_) | with_reducible exact H | (rw [hy173]; exact H) | exact H
                have Ny173 := Aside0.mk hy173
                clear hy173
                have H' := Aside0.mk H
                clear H
                go_wp2_with (first | ((with_reducible refine gate_callee (f := 13) rfl ?_); refine goesL_ (some 31) rfl rfl Try.func13 (by kernel_rfl) rfl #[.string x6_1] rfl (by (try simp only [List.map_toArray, List.map_cons, List.map_nil]); first | done | rfl | (simp only [List.length_drop, List.length_take]; rfl)) ?_; (with_reducible refine (spoorref01_Get.calls k1 x6_1 t170 t171 t172 _ A6.out).mono ?_); rintro e w' ⟨rfl, ⟨nd, rfl⟩⟩; refine ⟨_, rfl, ?_⟩) | ((with_reducible refine gate_builtin (b := .append) (xs := #[.tmp 38, .tmp 40]) rfl ?_); at_builtin; refine Kd.R_append (Kd.int .u64) (w0 := w) w.heap.size rfl (.tmp 38) (.tmp 40) 33 22 (.int .u64 0) 8 rfl Try.underlying33 info22 rfl (by decide) (by omega) u8 x8_1 t170 [.int .u64 t170] (fun _ => True) (fun _ => False) rfl rfl ?aP (fun _ hk => hk.elim) ?aF ?aO ?aB ?aS ?aL ?_; (case aP => exact rfl); (case aB => exact (by repeat (first | (with_reducible first | exact HB.out | apply below_alloc | apply pw_below_drewN | apply below_drew1) | exact HB.out))); (case aF => exact (fun _ _ => trivial)); (case aO => exact (by (with_reducible repeat (first | apply Kd.R_alloc | apply Kd.R_drewN | apply Kd.R_drew)); exact HO_8.out)); (case aS => exact (below_size (by repeat (first | (with_reducible first | exact HB.out | apply below_alloc | apply pw_below_drewN | apply below_drew1) | exact HB.out)))); (case aL => have := LMc8.out; omega); intro v174 w9 ho hb hg hat; rw [← Ny173.out] at ho; have n0_ := Aside0.mk (hb); have n1_ := Aside0.mk (ho); clear HB; clear HO_8; have HB := n0_; have HO175 := n1_; clear n0_ n1_; clear ho hb hg hat))
                go_roundg k1
                case measure => have := HK1.out; omega
                case rel => exact ⟨(t171), (y173), (IntKind.u64.wrap (x9_1 + 1)), (by first | rfl | (simp; done) | (simp [*]; done)), (by first | rfl | (simp; done) | (simp [*]; done)), H', ⟨by have := HK1.out; omega⟩, ⟨by (with_reducible repeat (first | apply Kd.R_alloc | apply Kd.R_drewN | apply Kd.R_drew)); exact HO175.out⟩, ⟨by repeat (first | (with_reducible first | exact HB.out | apply below_alloc | apply pw_below_drewN | apply below_drew1) | exact HB.out)⟩⟩
              · rw [if_neg c8] at H
                exact absurd H (by simp)
            · rw [if_neg c7] at H
              have c7b0 : (t172 == 0) = false := beq_eq_false_iff_ne.mpr c7
              have c7b1 : (t172 != 0) = true := bne_iff_ne.mpr c7
              simp only [Option.some.injEq, Prod.mk.injEq] at H
              obtain ⟨rfl, rfl, rfl⟩ := H
              go_wp2_with (first | ((with_reducible refine gate_callee (f := 13) rfl ?_); refine goesL_ (some 31) rfl rfl Try.func13 (by kernel_rfl) rfl #[.string x6_1] rfl (by (try simp only [List.map_toArray, List.map_cons, List.map_nil]); first | done | rfl | (simp only [List.length_drop, List.length_take]; rfl)) ?_; (with_reducible refine (spoorref01_Get.calls k1 x6_1 t170 t171 t172 _ A6.out).mono ?_); rintro e w' ⟨rfl, ⟨nd, rfl⟩⟩; refine ⟨_, rfl, ?_⟩))
              go_ret3
              exact ⟨_, by first | rfl | (simp [errW_none, errW_some] <;> rfl) | (simp [*, errW_none, errW_some] <;> rfl), by first | exact Kd.R_nil _ _ _ _ _ | exact Kd.N_nil _ _ _ _ _ | exact Kd.V_nil _ _ _ _ _ | exact Kd.Q_nil _ _ _ _ _ | exact Kd.S_nil _ _ _ _ _, by repeat (first | (with_reducible first | exact HB.out | apply below_alloc | apply pw_below_drewN | apply below_drew1) | exact HB.out)⟩
          · rw [if_neg c5] at H
            have c5b0 : decide (x9_1 < t167) = false := decide_eq_false c5
            clear c5
            simp only [Option.some.injEq, Prod.mk.injEq] at H
            obtain ⟨rfl, rfl, rfl⟩ := H
            go_wp2
            go_ret3
            exact ⟨_, by first | rfl | (simp [errW_none, errW_some] <;> rfl) | (simp [*, errW_none, errW_some] <;> rfl), by (with_reducible repeat (first | apply Kd.R_alloc | apply Kd.R_drewN | apply Kd.R_drew)); exact HO_8.out, by repeat (first | (with_reducible first | exact HB.out | apply below_alloc | apply pw_below_drewN | apply below_drew1) | exact HB.out)⟩
  · rw [if_neg c3] at H
    have c3b0 : (t169 == 0) = false := beq_eq_false_iff_ne.mpr c3
    have c3b1 : (t169 != 0) = true := bne_iff_ne.mpr c3
    simp only [Option.some.injEq, Prod.mk.injEq] at H
    obtain ⟨rfl, rfl, rfl⟩ := H
    go_enter Try.func21, Try.ntmps21
    go_wp2_with (first | ((with_reducible refine gate_callee (f := 13) rfl ?_); refine goesL_ (some 15) rfl rfl Try.func13 (by kernel_rfl) rfl #[.string a0] rfl (by (try simp only [List.map_toArray, List.map_cons, List.map_nil]); first | done | rfl | (simp only [List.length_drop, List.length_take]; rfl)) ?_; (with_reducible refine (spoorref01_Get.calls k a0 t167 t168 t169 _ A2.out).mono ?_); rintro e w' ⟨rfl, ⟨nd, rfl⟩⟩; refine ⟨_, rfl, ?_⟩))
    go_ret3
    exact ⟨_, by first | rfl | (simp [errW_none, errW_some] <;> rfl) | (simp [*, errW_none, errW_some] <;> rfl), by first | exact Kd.R_nil _ _ _ _ _ | exact Kd.N_nil _ _ _ _ _ | exact Kd.V_nil _ _ _ _ _ | exact Kd.Q_nil _ _ _ _ _ | exact Kd.S_nil _ _ _ _ _, by repeat (first | (with_reducible first | exact HB.out | apply below_alloc | apply pw_below_drewN | apply below_drew1) | exact HB.out)⟩

end Go.Proofs.Ytnhkmhpibbmmnaa.Q
