-- Printed by this session's program wip/tools/mp.sh out of the translation.
import Derived.Test.YtdnffphknigipaaQx0
import Derived.Test.YtdnffphknigipaaQx1
namespace Go.Proofs.Ytdnffphknigipaa.Q
open Go.RowKit Go.Proofs.YtdnffphknigipaaW.PrintWords Go.Proofs.YtdnffphknigipaaW.PrintLast Go.Proofs.YtdnffphknigipaaW.PrintMore
attribute [local go_sem] max2_int min2_int max_two min_two max_three min_three max_four min_four   -- for this text's walks alone
set_option linter.unusedVariables false
set_option linter.unusedSimpArgs false

/-! ### page_Put: function 8 -/
theorem res_c {P : Program} {fn : Func} {p : Tmp} {ty : TypeId} (h : fn.results = #[.cell p ty]) (tmps : Array Value) (w : World) (g : Nat) (t : TypeId) (cs : Array Value) (fr : Nat × Nat) (d : TypeDesc)
    (hp : tmps.getD p undef = .pointer (some ⟨g, 0, none⟩)) (hg : w.heap[g]? = some (.cells cs t fr))
    (hu : P.underlying ty = some d) (hd : (match d with | .struct _ | .array _ _ => true | _ => false) = true) (hi : (P.info? ty).map (·.size) = some cs.size) :
    (results fn tmps).run P w = .ok (.agg cs) w := by
  have hp' : tmps[p]?.getD undef = .pointer (some ⟨g, 0, none⟩) := by simpa using hp
  simp [results, h, hp', asAddr, run_loadVar_row w g t ty cs fr d hg hu hd hi]
set_option maxHeartbeats 8000000 in
set_option maxRecDepth 100000 in
theorem slices_Reverse_byte_byte.calls_at (e_ : Nat) (k : Nat) (P0_ : Nat → Prop) (u9000_ : Value) (l0 : List Int) (r : List Int) (w0 w : World) (hB : Below w0.heap.size w0 w) (ho0 : Kd.R (Kd.int .u8) e_ w w0.heap.size P0_ u9000_ l0) (h : slices_Reverse_byte_byte.f k l0 = some r) :
    Calls Try.prog 27 #[u9000_] w fun e w' => e = .returned (.tuple #[]) ∧ Kd.R (Kd.int .u8) e_ w' w0.heap.size (fun k_ => (P0_ k_ ∨ w.heap.size ≤ k_)) u9000_ r ∧ Below w0.heap.size w0 w' ∧ Kept w w' (fun k_ => P0_ k_) := by
  have HO0 := Aside0.mk (show Kd.R (Kd.int .u8) e_ w w0.heap.size (fun k_ => (P0_ k_ ∨ w.heap.size ≤ k_)) u9000_ l0 from Kd.R_mono ho0 (fun k_ hk => (.inl hk)))
  have HK := Aside0.mk (Kept.refl w (fun k_ => P0_ k_))
  have HW0 := Aside0.mk hB.size
  have HB := Aside0.mk hB
  clear hB
  have H : (slices_Reverse_byte_byte.l0 k l0 0 (wrap64 ((l0.length : Int) - 1))) = some r := h
  clear h
  have H' := Aside0.mk H
  clear H
  obtain ⟨Ao2, co2, eo2⟩ := Kd.R_slice HO0.out
  subst eo2
  go_enter Try.func27, Try.ntmps27
  go_wp2
  go_loopg [2, 3] k (fun kq v2 v3 w' => ∃ (x0_1 : List Int) (x2_1 : Int) (x3_1 : Int), v2 = .int .i64 x2_1 ∧ v3 = .int .i64 x3_1 ∧ Aside0 (slices_Reverse_byte_byte.l0 kq x0_1 x2_1 x3_1 = some r) ∧ Aside0 (kq ≤ k) ∧ Aside0 (Kd.R (Kd.int .u8) e_ w' w0.heap.size (fun k_ => (P0_ k_ ∨ w.heap.size ≤ k_)) (.slice Ao2 l0.length co2) x0_1) ∧ Aside0 (Kept w w' (fun k_ => P0_ k_)) ∧ Aside0 (Below w0.heap.size w0 w'))
  case atStart => exact ⟨(l0), (0), (wrap64 ((l0.length : Int) - 1)), (by first | rfl | (simp; done) | (simp [*]; done)), (by first | rfl | (simp; done) | (simp [*]; done)), H', ⟨Nat.le_refl _⟩, ⟨by (with_reducible repeat (first | apply Kd.R_alloc | apply Kd.R_drewN | apply Kd.R_drew)); exact HO0.out⟩, ⟨by repeat (first | (with_reducible first | exact HK.out | apply Kept.alloc | apply Kept.drewN | apply Kept.drew) | exact HK.out)⟩, ⟨by repeat (first | (with_reducible first | exact HB.out | apply below_alloc | apply pw_below_drewN | apply below_drew1) | exact HB.out)⟩⟩
  case round =>
    clear H'
    try clear c2
    try clear p2
    obtain ⟨x0_1, x2_1, x3_1, rfl, rfl, HA, HK1, HO_0, HK, HB⟩ := hrel
    have hl0_1 := (Kd.R_reads' HO_0.out).1
    rw [hl0_1] at HO_0
    (try simp only [hl0_1])
    cases gk with
    | zero => exact absurd HA.out (by simp [slices_Reverse_byte_byte.l0])
    | succ k1 =>
      have H := HA.out
      clear HA
      simp only [slices_Reverse_byte_byte.l0] at H
      by_cases c3 : x2_1 < x3_1
      · rw [if_pos c3] at H
        have c3b0 : decide (x2_1 < x3_1) = true := decide_eq_true c3
        clear c3
        by_cases c4 : 0 ≤ x3_1
        · rw [if_pos c4] at H
          have c4b0 : decide (0 ≤ x3_1) = true := decide_eq_true c4
          clear c4
          by_cases c5 : x3_1 < (x0_1.length : Int)
          · rw [if_pos c5] at H
            have c5b0 : decide (x3_1 < (x0_1.length : Int)) = true := decide_eq_true c5
            clear c5
            by_cases c6 : 0 ≤ x2_1
            · rw [if_pos c6] at H
              have c6b0 : decide (0 ≤ x2_1) = true := decide_eq_true c6
              clear c6
              by_cases c7 : x2_1 < (x0_1.length : Int)
              · rw [if_pos c7] at H
                have c7b0 : decide (x2_1 < (x0_1.length : Int)) = true := decide_eq_true c7
                clear c7
                obtain ⟨y103, hy103⟩ : ∃ y_ : List Int, y_ = (x0_1.set (x2_1 : Int).toNat (rd x0_1 x3_1)) := ⟨_, rfl⟩
                replace H : (slices_Reverse_byte_byte.l0 k1 (y103.set (x3_1 : Int).toNat (rd x0_1 x2_1)) (wrap64 (x2_1 + 1)) (wrap64 (x3_1 - 1))) = some r := by first | (rw [hy103]; with_reducible exact H) | (have H2_ := (Option.bind_some _ _).symm.trans H; rw [hy103]; with_reducible exact H2_) | (have H2_ := (Option.bind_some _ _).symm.trans H; with_reducible exact H2_) | with_reducible exact H | (rw [hy103]; exact H) | exact H
                have Ny103 := Aside0.mk hy103
                clear hy103
                obtain ⟨y104, hy104⟩ : ∃ y_ : List Int, y_ = (y103.set (x3_1 : Int).toNat (rd x0_1 x2_1)) := ⟨_, rfl⟩
                replace H : (slices_Reverse_byte_byte.l0 k1 y104 (wrap64 (x2_1 + 1)) (wrap64 (x3_1 - 1))) = some r := by first | (rw [hy104]; with_reducible exact H) | (have H2_ := (Option.bind_some _ _).symm.trans H; rw [hy104]; with_reducible exact H2_) | (have H2_ := (Option.bind_some _ _).symm.trans H; with_reducible exact H2_) | with_reducible exact H | (rw [hy104]; exact H) | exact H
                have Ny104 := Aside0.mk hy104
                clear hy104
                have H' := Aside0.mk H
                clear H
                try go_wp2
                have n0_ := Aside0.mk (Kd.R_drew HO_0.out)
                have n1_ := Aside0.mk (Kept.drew HK.out)
                have n2_ := Aside0.mk (below_drew1 HB.out)
                clear HO_0
                clear HK
                clear HB
                have HO_0 := n0_
                have HK := n1_
                have HB := n2_
                clear n0_ n1_ n2_
                have p101 : 0 ≤ (x3_1 : Int) := of_decide_eq_true (by first | (with_reducible assumption) | assumption)
                have q101 : x3_1 < (x0_1.length : Int) := of_decide_eq_true (by first | (with_reducible assumption) | assumption)
                obtain ⟨ad101, e101, hx101_0⟩ := Kd.at_int (Kd.R_reads' HO_0.out).2.2 x3_1 p101 q101
                cases e101
                replace p101 := eq_true p101
                replace q101 := eq_true q101
                have p102 : 0 ≤ (x2_1 : Int) := of_decide_eq_true (by first | (with_reducible assumption) | assumption)
                have q102 : x2_1 < (x0_1.length : Int) := of_decide_eq_true (by first | (with_reducible assumption) | assumption)
                obtain ⟨ad102, e102, hx102_0⟩ := Kd.at_int (Kd.R_reads' HO_0.out).2.2 x2_1 p102 q102
                obtain rfl : ad101 = ad102 := (by injection e102)
                replace p102 := eq_true p102
                replace q102 := eq_true q102
                have p8 : 0 ≤ (x2_1 : Int) := of_decide_eq_true (by first | (with_reducible assumption) | assumption)
                have q8 : (x2_1 : Int) < ((x0_1.length : Int) : Int) := of_decide_eq_true (by first | (with_reducible assumption) | assumption)
                obtain ⟨go8, co8, eo8, gb8, gl8, cl8, HG8⟩ := Kd.R_form HO_0.out (by omega)
                (first | cases eo8 | (injection eo8 with ea_ en_ ec_; (first | subst ea_ | (injection ea_ with ea_; subst ea_)); subst ec_; clear en_))
                have GB8 := Aside0.mk gb8
                have GG8 := Aside0.mk HG8
                clear gb8 gl8 HG8
                have HMgo8 := Aside0.mk (show (P0_ go8 ∨ w.heap.size ≤ go8) from (HO_0.out.1 _ rfl))
                (first | simp only [add_plain] at hx101_0 | skip)
                (first | simp only [add_plain] at hx102_0 | skip)
                obtain ⟨hx8_0, hf8_0⟩ := Kd.R_celln 0 HO_0.out (x2_1 : Int) p8 q8
                replace p8 := eq_true p8
                replace q8 := eq_true q8
                have HP11 := Kd.R_putn HO_0.out (x2_1 : Int) (rd x0_1 x3_1)
                rw [← Ny103.out] at HP11
                have HQ11 := Aside0.mk HP11
                clear HP11
                have p9 : 0 ≤ (x3_1 : Int) := of_decide_eq_true (by first | (with_reducible assumption) | assumption)
                have q9 : (x3_1 : Int) < ((x0_1.length : Int) : Int) := of_decide_eq_true (by first | (with_reducible assumption) | assumption)
                obtain ⟨hx9_0, hf9_0⟩ := Kd.R_celln 0 HQ11.out (x3_1 : Int) p9 q9
                replace p9 := eq_true p9
                replace q9 := eq_true q9
                have HP12 := Kd.R_putn HQ11.out (x3_1 : Int) (rd x0_1 x2_1)
                rw [← Ny104.out] at HP12
                have HQ12 := Aside0.mk HP12
                clear HP12
                refine start_ (n := 16) (S := fun w' => w'.cell? ⟨go8, (x3_1).toNat, none⟩ = some (.int .u8 (rd x0_1 x3_1)) ∧ w'.cell? ⟨go8, (x2_1).toNat, none⟩ = some (.int .u8 (rd x0_1 x2_1))) (ds := [13, 15]) #[false, false, false, false, false, false, false, false, false, false, false, false, false, false, false, false] (by kernel_rfl) rfl rfl ⟨hx101_0, hx102_0⟩ (fun hHeld => ?_); refine with_tabW slices_Reverse_byte_byte.tab3 slices_Reverse_byte_byte.bits3 (fun HT_ HW_ => ?_)
                generalize wr.drew = w10 at HO_0 HK HB GG8 HQ11 HQ12 hf8_0 hf9_0 hx101_0 hx102_0 hx8_0 hx9_0 hHeld ⊢
                refine pure_ (i := 0) (N := some 14) (v := ?_) (a' := ?_) #[true, false, false, false, false, false, false, false, false, false, false, false, false, false, false, false] rfl rfl (any_of HT_.out (by kernel_rfl)) (fun _ _ _ h => h) (Or.inl ⟨by rfl, ?_⟩) ?_ ?_
                rotate_left
                · intro w'
                  go_simp
                  with_reducible rfl
                rotate_left
                · simp only [Act.put, List.setIfInBounds_toArray, List.set_cons_zero, List.set_cons_succ, i64_w, i32_w]
                  rfl
                refine pure_ (i := 1) (N := some 15) (v := ?_) (a' := ?_) #[true, true, false, false, false, false, false, false, false, false, false, false, false, false, false, false] rfl rfl (any_of HT_.out (by kernel_rfl)) (fun _ _ _ h => h) (Or.inl ⟨by rfl, ?_⟩) ?_ ?_
                rotate_left
                · intro w'
                  go_simp
                  with_reducible rfl
                rotate_left
                · simp only [Act.put, List.setIfInBounds_toArray, List.set_cons_zero, List.set_cons_succ, i64_w, i32_w]
                  rfl
                refine pure_ (i := 2) (N := some 16) (v := ?_) (a' := ?_) #[true, true, true, false, false, false, false, false, false, false, false, false, false, false, false, false] rfl rfl (any_of HT_.out (by kernel_rfl)) (fun _ _ _ h => h) (Or.inl ⟨by rfl, ?_⟩) ?_ ?_
                rotate_left
                · intro w'
                  go_simp
                  with_reducible rfl
                rotate_left
                · simp only [Act.put, List.setIfInBounds_toArray, List.set_cons_zero, List.set_cons_succ, i64_w, i32_w]
                  rfl
                refine pure_ (i := 3) (N := some 17) (v := ?_) (a' := ?_) #[true, true, true, true, false, false, false, false, false, false, false, false, false, false, false, false] rfl rfl (any_of HT_.out (by kernel_rfl)) (fun _ _ _ h => h) (Or.inl ⟨by rfl, ?_⟩) ?_ ?_
                rotate_left
                · intro w'
                  go_simp
                  with_reducible rfl
                rotate_left
                · simp only [Act.put, List.setIfInBounds_toArray, List.set_cons_zero, List.set_cons_succ, i64_w, i32_w]
                  rfl
                refine pure_ (i := 4) (N := some 18) (v := ?_) (a' := ?_) #[true, true, true, true, true, false, false, false, false, false, false, false, false, false, false, false] rfl rfl (any_of HT_.out (by kernel_rfl)) (fun _ _ _ h => h) (Or.inl ⟨by rfl, ?_⟩) ?_ ?_
                rotate_left
                · intro w'
                  go_simp
                  with_reducible rfl
                rotate_left
                · simp only [Act.put, List.setIfInBounds_toArray, List.set_cons_zero, List.set_cons_succ, i64_w, i32_w]
                  rfl
                refine pure_ (i := 5) (N := some 19) (v := ?_) (a' := ?_) #[true, true, true, true, true, true, false, false, false, false, false, false, false, false, false, false] rfl rfl (any_of HT_.out (by kernel_rfl)) (fun _ _ _ h => h) (Or.inl ⟨by rfl, ?_⟩) ?_ ?_
                rotate_left
                · intro w'
                  go_simp
                  with_reducible rfl
                rotate_left
                · simp only [Act.put, List.setIfInBounds_toArray, List.set_cons_zero, List.set_cons_succ, i64_w, i32_w]
                  rfl
                refine pure_ (i := 6) (N := some 20) (v := ?_) (a' := ?_) #[true, true, true, true, true, true, true, false, false, false, false, false, false, false, false, false] rfl rfl (any_of HT_.out (by kernel_rfl)) (fun _ _ _ h => h) (Or.inl ⟨by rfl, ?_⟩) ?_ ?_
                rotate_left
                · intro w'
                  go_simp
                  with_reducible rfl
                rotate_left
                · simp only [Act.put, List.setIfInBounds_toArray, List.set_cons_zero, List.set_cons_succ, i64_w, i32_w]
                  rfl
                refine pure_ (i := 8) (N := some 22) (v := ?_) (a' := ?_) #[true, true, true, true, true, true, true, false, true, false, false, false, false, false, false, false] rfl rfl (any_of HT_.out (by kernel_rfl)) (fun _ _ _ h => h) (Or.inl ⟨by rfl, ?_⟩) ?_ ?_
                rotate_left
                · intro w'
                  go_simp
                  with_reducible rfl
                rotate_left
                · simp only [Act.put, List.setIfInBounds_toArray, List.set_cons_zero, List.set_cons_succ, i64_w, i32_w]
                  rfl
                refine pure_ (i := 9) (N := some 23) (v := ?_) (a' := ?_) #[true, true, true, true, true, true, true, false, true, true, false, false, false, false, false, false] rfl rfl (any_of HT_.out (by kernel_rfl)) (fun _ _ _ h => h) (Or.inl ⟨by rfl, ?_⟩) ?_ ?_
                rotate_left
                · intro w'
                  go_simp
                  with_reducible rfl
                rotate_left
                · simp only [Act.put, List.setIfInBounds_toArray, List.set_cons_zero, List.set_cons_succ, i64_w, i32_w]
                  rfl
                refine pure_ (i := 10) (N := some 24) (v := ?_) (a' := ?_) #[true, true, true, true, true, true, true, false, true, true, true, false, false, false, false, false] rfl rfl (any_of HT_.out (by kernel_rfl)) (fun _ _ _ h => h) (Or.inl ⟨by rfl, ?_⟩) ?_ ?_
                rotate_left
                · intro w'
                  go_simp
                  with_reducible rfl
                rotate_left
                · simp only [Act.put, List.setIfInBounds_toArray, List.set_cons_zero, List.set_cons_succ, i64_w, i32_w]
                  rfl
                refine take_ (i := 7) (N := some 21) (v := ?_) (a' := ?_) #[true, true, true, true, true, true, true, true, true, true, true, false, false, false, false, false] rfl rfl (take_ofW HT_.out HW_.out (by kernel_rfl)) (fun _ _ _ h => h) (Or.inl ⟨by rfl, ?_⟩) hHeld ?_ ?_
                rotate_left
                · rintro w' ⟨s0, s1⟩
                  go_simp
                  with_reducible rfl
                rotate_left
                · simp only [Act.put, List.setIfInBounds_toArray, List.set_cons_zero, List.set_cons_succ, i64_w, i32_w]
                  rfl
                refine take_ (i := 11) (N := some 25) (v := ?_) (a' := ?_) #[true, true, true, true, true, true, true, true, true, true, true, true, false, false, false, false] rfl rfl (take_ofW HT_.out HW_.out (by kernel_rfl)) (fun _ _ _ h => h) (Or.inl ⟨by rfl, ?_⟩) hHeld ?_ ?_
                rotate_left
                · rintro w' ⟨s0, s1⟩
                  go_simp
                  with_reducible rfl
                rotate_left
                · simp only [Act.put, List.setIfInBounds_toArray, List.set_cons_zero, List.set_cons_succ, i64_w, i32_w]
                  rfl
                refine pure_ (i := 12) (N := some 26) (v := ?_) (a' := ?_) #[true, true, true, true, true, true, true, true, true, true, true, true, true, false, false, false] rfl rfl (any_of HT_.out (by kernel_rfl)) (fun _ _ _ h => h) (Or.inl ⟨by rfl, ?_⟩) ?_ ?_
                rotate_left
                · intro w'
                  go_simp
                  with_reducible rfl
                rotate_left
                · simp only [Act.put, List.setIfInBounds_toArray, List.set_cons_zero, List.set_cons_succ, i64_w, i32_w]
                  rfl
                refine last_ (i := 13) (N := none) #[true, true, true, true, true, true, true, true, true, true, true, true, true, true, false, false] rfl rfl (one_of HT_.out (by kernel_rfl)) (by decide) (fun K hK => ?_)
                refine skip_ (w1 := ?_) (by rfl) rfl ?_ ?_
                rotate_left
                · go_simp
                  rfl
                refine hK.out _ _ ?_
                clear hK K
                refine pure_ (i := 14) (N := some 27) (v := ?_) (a' := ?_) #[true, true, true, true, true, true, true, true, true, true, true, true, true, true, true, false] rfl rfl (any_of HT_.out (by kernel_rfl)) (fun _ _ _ h => h) (Or.inl ⟨by rfl, ?_⟩) ?_ ?_
                rotate_left
                · intro w'
                  go_simp
                  with_reducible rfl
                rotate_left
                · simp only [Act.put, List.setIfInBounds_toArray, List.set_cons_zero, List.set_cons_succ, i64_w, i32_w]
                  rfl
                refine last_ (i := 15) (N := none) #[true, true, true, true, true, true, true, true, true, true, true, true, true, true, true, true] rfl rfl (one_of HT_.out (by kernel_rfl)) (by decide) (fun K hK => ?_)
                refine skip_ (w1 := ?_) (by rfl) rfl ?_ ?_
                rotate_left
                · go_simp
                  rfl
                refine hK.out _ _ ?_
                clear hK K
                refine done_ (done_of HT_.out (by kernel_rfl)) ?_
                try go_wp2
                (try simp only [← hl0_1])
                go_roundg k1
                case measure => have := HK1.out; omega
                case rel => exact ⟨(y104), (wrap64 (x2_1 + 1)), (wrap64 (x3_1 - 1)), (by first | rfl | (simp; done) | (simp [*]; done)), (by first | rfl | (simp; done) | (simp [*]; done)), H', ⟨by have := HK1.out; omega⟩, ⟨by (try simp only [hl0_1]); (with_reducible repeat (first | apply Kd.R_alloc | apply Kd.R_drewN | apply Kd.R_drew)); exact HQ12.out⟩, ⟨by repeat (first | (with_reducible first | exact HK.out | apply Kept.alloc | apply Kept.drewN | apply Kept.drew | refine Kept.setCell ?_ HMgo8.out _ | refine Kept.setCell ?_ HMgo8.out _) | exact HK.out)⟩, ⟨by repeat (first | (with_reducible first | exact HB.out | apply below_alloc | apply pw_below_drewN | apply below_drew1 | refine below_set ?_ GB8.out | refine below_set ?_ GB8.out) | exact HB.out)⟩⟩
              · rw [if_neg c7] at H
                exact absurd H (by simp)
            · rw [if_neg c6] at H
              exact absurd H (by simp)
          · rw [if_neg c5] at H
            exact absurd H (by simp)
        · rw [if_neg c4] at H
          exact absurd H (by simp)
      · rw [if_neg c3] at H
        have c3b0 : decide (x2_1 < x3_1) = false := decide_eq_false c3
        clear c3
        obtain rfl := Option.some.inj H
        go_wp2
        first | go_end0 | ((try simp only [Exit.inBlock, Exit.then]); refine bodyPost_ret (results_none rfl _ _ _) rfl ?_)
        exact ⟨by first | rfl | (simp [errW_none, errW_some] <;> rfl) | (simp [*, errW_none, errW_some] <;> rfl), (by first | exact (by (with_reducible repeat (first | apply Kd.R_alloc | apply Kd.R_drewN | apply Kd.R_drew)); exact HO_0.out) | (simp only [hl0_1]; exact (by (with_reducible repeat (first | apply Kd.R_alloc | apply Kd.R_drewN | apply Kd.R_drew)); exact HO_0.out))), by repeat (first | (with_reducible first | exact HB.out | apply below_alloc | apply pw_below_drewN | apply below_drew1) | exact HB.out), by repeat (first | (with_reducible first | exact HK.out | apply Kept.alloc | apply Kept.drewN | apply Kept.drew) | exact HK.out)⟩
/-- An array of one-cell numbers at block g, as a row of the call's own. -/
theorem arr_row {w : World} {g base : Nat} {t : TypeId} {xs : List Int} (hg : w.heap[g]? = some (.cells (nums .u8 xs).toArray t (0, 0))) (hb : base ≤ g) (hl : xs.length ≤ maxLen) :
    Kd.R (Kd.int .u8) t w base (fun k => k = g) (.slice (some ⟨g, 0, none⟩) xs.length xs.length) xs :=
  Kd.R_of_own (enc := Value.int .u8) (h1 := fun _ => rfl) ⟨by simp [encs], .inr ⟨g, xs.length, _, rfl, hb, hg, Nat.le_refl _, hl, by simp [nums], by rw [List.take_of_length_le (by simp [nums])]; simp [nums, encs]⟩⟩ (fun k hk => by simpa [Value.ownBlock] using hk.symm)
theorem row_arr {w : World} {g base n : Nat} {t : TypeId} {ok : Nat → Prop} {xs : List Int} (h : Kd.R (Kd.int .u8) t w base ok (.slice (some ⟨g, 0, none⟩) n n) xs) :
    xs.length = n ∧ w.heap[g]? = some (.cells (nums .u8 xs).toArray t (0, 0)) := by
  have hl := (Kd.R_reads' h).1
  have ho := Kd.own_of_R h
  refine ⟨hl.symm, ?_⟩
  rcases ho.2 with ⟨h1, _⟩ | ⟨g', cap, cur, e, _, hh, hn, _, hs, ht⟩
  · cases h1
  · injection e with e1 e2 e3
    injection e1 with e1
    injection e1 with e1
    subst e1 e3
    rw [hh]
    have hc : cur.toList = nums .u8 xs := by
      rw [List.take_of_length_le (by simp; omega)] at ht
      exact ht
    rw [← hc]
set_option maxHeartbeats 4000000 in
set_option maxRecDepth 100000 in
theorem turned_is (x0 x1 x2 x3 x4 x5 x6 x7 : Int) (w : World) :
    Calls Try.prog 23 #[.agg #[.int .u8 x0, .int .u8 x1, .int .u8 x2, .int .u8 x3, .int .u8 x4, .int .u8 x5, .int .u8 x6, .int .u8 x7]] w fun e w' => e = .returned (.agg #[.int .u8 x7, .int .u8 x6, .int .u8 x5, .int .u8 x4, .int .u8 x3, .int .u8 x2, .int .u8 x1, .int .u8 x0]) ∧ Below w.heap.size w w' := by
  go_enter Try.func23, Try.ntmps23
  go_wp2_with (go_at_call 27; refine (slices_Reverse_byte_byte.calls_at 43 5 (fun k => k = w.heap.size) _ [x0, x1, x2, x3, x4, x5, x6, x7] [x7, x6, x5, x4, x3, x2, x1, x0] w _ ?hb ?ho ?hf).mono ?_)
  case hb => exact below_alloc (below_alloc (Below.refl w.heap.size w) _) _
  case ho => exact arr_row (xs := [x0, x1, x2, x3, x4, x5, x6, x7]) (blk_alloc (heap_alloc_new w _) _) (Nat.le_refl _) (by simp [maxLen])
  case hf => simp [slices_Reverse_byte_byte.f, slices_Reverse_byte_byte.l0, wrap64, rd]
  rintro e w5 ⟨rfl, hO, hB, hK⟩
  have hG := (row_arr hO).2
  have hR : w5.heap[w.heap.size + 1]? = some (.cells #[.int .u8 0, .int .u8 0, .int .u8 0, .int .u8 0, .int .u8 0, .int .u8 0, .int .u8 0, .int .u8 0] 43 (0, 0)) := (hK.2 (w.heap.size + 1) (by simp) (by omega)).trans (by simpa using heap_alloc_new (w.alloc (.cells #[.int .u8 x0, .int .u8 x1, .int .u8 x2, .int .u8 x3, .int .u8 x4, .int .u8 x5, .int .u8 x6, .int .u8 x7] 43)) (.cells #[.int .u8 0, .int .u8 0, .int .u8 0, .int .u8 0, .int .u8 0, .int .u8 0, .int .u8 0, .int .u8 0] 43))
  have HB := Aside0.mk hB
  have HR := Aside0.mk hR
  have hc0 : w5.cell? ⟨w.heap.size, 0, none⟩ = some (.int .u8 x7) := (blk_cell hG 0).trans rfl
  have hc1 : w5.cell? ⟨w.heap.size, 1, none⟩ = some (.int .u8 x6) := (blk_cell hG 1).trans rfl
  have hc2 : w5.cell? ⟨w.heap.size, 2, none⟩ = some (.int .u8 x5) := (blk_cell hG 2).trans rfl
  have hc3 : w5.cell? ⟨w.heap.size, 3, none⟩ = some (.int .u8 x4) := (blk_cell hG 3).trans rfl
  have hc4 : w5.cell? ⟨w.heap.size, 4, none⟩ = some (.int .u8 x3) := (blk_cell hG 4).trans rfl
  have hc5 : w5.cell? ⟨w.heap.size, 5, none⟩ = some (.int .u8 x2) := (blk_cell hG 5).trans rfl
  have hc6 : w5.cell? ⟨w.heap.size, 6, none⟩ = some (.int .u8 x1) := (blk_cell hG 6).trans rfl
  have hc7 : w5.cell? ⟨w.heap.size, 7, none⟩ = some (.int .u8 x0) := (blk_cell hG 7).trans rfl
  have hr0 : w5.cell? ⟨w.heap.size + 1, 0, none⟩ = some (.int .u8 0) := (blk_cell hR 0).trans rfl
  have hr1 : w5.cell? ⟨w.heap.size + 1, 1, none⟩ = some (.int .u8 0) := (blk_cell hR 1).trans rfl
  have hr2 : w5.cell? ⟨w.heap.size + 1, 2, none⟩ = some (.int .u8 0) := (blk_cell hR 2).trans rfl
  have hr3 : w5.cell? ⟨w.heap.size + 1, 3, none⟩ = some (.int .u8 0) := (blk_cell hR 3).trans rfl
  have hr4 : w5.cell? ⟨w.heap.size + 1, 4, none⟩ = some (.int .u8 0) := (blk_cell hR 4).trans rfl
  have hr5 : w5.cell? ⟨w.heap.size + 1, 5, none⟩ = some (.int .u8 0) := (blk_cell hR 5).trans rfl
  have hr6 : w5.cell? ⟨w.heap.size + 1, 6, none⟩ = some (.int .u8 0) := (blk_cell hR 6).trans rfl
  have hr7 : w5.cell? ⟨w.heap.size + 1, 7, none⟩ = some (.int .u8 0) := (blk_cell hR 7).trans rfl
  have hf0 := blk_frozen hG 0
  have hg0 := blk_frozen hR 0
  have hf1 := blk_frozen hG 1
  have hg1 := blk_frozen hR 1
  have hf2 := blk_frozen hG 2
  have hg2 := blk_frozen hR 2
  have hf3 := blk_frozen hG 3
  have hg3 := blk_frozen hR 3
  have hf4 := blk_frozen hG 4
  have hg4 := blk_frozen hR 4
  have hf5 := blk_frozen hG 5
  have hg5 := blk_frozen hR 5
  have hf6 := blk_frozen hG 6
  have hg6 := blk_frozen hR 6
  have hf7 := blk_frozen hG 7
  have hg7 := blk_frozen hR 7
  clear hO hB hK hG hR
  go_wp2
  refine bodyPost_ret (res_c rfl _ _ (w.heap.size + 1) 43 #[.int .u8 x7, .int .u8 x6, .int .u8 x5, .int .u8 x4, .int .u8 x3, .int .u8 x2, .int .u8 x1, .int .u8 x0] (0, 0) _ rfl ?_ Try.underlying43 rfl (by kernel_rfl)) rfl ?_
  · exact (blk_put (blk_put (blk_put (blk_put (blk_put (blk_put (blk_put (blk_put HR.out 0 (.int .u8 x7) rfl) 1 (.int .u8 x6) rfl) 2 (.int .u8 x5) rfl) 3 (.int .u8 x4) rfl) 4 (.int .u8 x3) rfl) 5 (.int .u8 x2) rfl) 6 (.int .u8 x1) rfl) 7 (.int .u8 x0) rfl)
  · exact ⟨rfl, ((((((((HB.out.setCell (p := ⟨w.heap.size + 1, 0, none⟩) (Nat.le_succ _) _).setCell (p := ⟨w.heap.size + 1, 1, none⟩) (Nat.le_succ _) _).setCell (p := ⟨w.heap.size + 1, 2, none⟩) (Nat.le_succ _) _).setCell (p := ⟨w.heap.size + 1, 3, none⟩) (Nat.le_succ _) _).setCell (p := ⟨w.heap.size + 1, 4, none⟩) (Nat.le_succ _) _).setCell (p := ⟨w.heap.size + 1, 5, none⟩) (Nat.le_succ _) _).setCell (p := ⟨w.heap.size + 1, 6, none⟩) (Nat.le_succ _) _).setCell (p := ⟨w.heap.size + 1, 7, none⟩) (Nat.le_succ _) _)⟩
/-- A number's eight bytes. -/
def w8 (n : Int) : List Int := [n / 72057594037927936 % 256, n / 281474976710656 % 256, n / 1099511627776 % 256, n / 4294967296 % 256, n / 16777216 % 256, n / 65536 % 256, n / 256 % 256, n % 256]
def w8up (n : Int) (i : Nat) : List Int := (w8 n).take i ++ (List.replicate 8 0).drop i
set_option maxHeartbeats 4000000 in
set_option maxRecDepth 100000 in
theorem word_is (n : Int) (h0 : 0 ≤ n) (h1 : n ≤ 18446744073709551615) (w : World) :
    Calls Try.prog 22 #[.int .u64 n] w fun e w' => e = .returned (.agg (nums .u8 (w8 n)).toArray) ∧ Below w.heap.size w w' := by
  go_enter Try.func22, Try.ntmps22
  go_wp2
  go_loopg [5] 8 (fun kq v5 w' => ∃ (i : Nat) (x0 x1 x2 x3 x4 x5 x6 x7 : Int), i ≤ 8 ∧ kq = 8 - i ∧ v5 = .int .i64 (i : Int) ∧ w8up n i = [x0, x1, x2, x3, x4, x5, x6, x7] ∧ w'.heap[w.heap.size]? = some (.cells #[.int .u8 0, .int .u8 0, .int .u8 0, .int .u8 0, .int .u8 0, .int .u8 0, .int .u8 0, .int .u8 0] 43 (0, 0)) ∧ w'.heap[w.heap.size + 1]? = some (.cells #[.int .u8 x0, .int .u8 x1, .int .u8 x2, .int .u8 x3, .int .u8 x4, .int .u8 x5, .int .u8 x6, .int .u8 x7] 43 (0, 0)) ∧ Below w.heap.size w w')
  case atStart => exact ⟨0, 0, 0, 0, 0, 0, 0, 0, 0, by omega, rfl, rfl, rfl, blk_alloc (heap_alloc_new w _) _, by simpa using heap_alloc_new (w.alloc (.cells #[.int .u8 0, .int .u8 0, .int .u8 0, .int .u8 0, .int .u8 0, .int .u8 0, .int .u8 0, .int .u8 0] 43)) (.cells #[.int .u8 0, .int .u8 0, .int .u8 0, .int .u8 0, .int .u8 0, .int .u8 0, .int .u8 0, .int .u8 0] 43), below_alloc (below_alloc (Below.refl w.heap.size w) _) _⟩
  case round =>
    obtain ⟨i, x0, x1, x2, x3, x4, x5, x6, x7, hi, rfl, rfl, hx, hR, hG, hB⟩ := hrel
    have hF := blk_frozen hG
    have hF2 := blk_frozen hR
    have HB := Aside0.mk hB
    have HG := Aside0.mk hG
    have HR := Aside0.mk hR
    have hc0 : wr.cell? ⟨w.heap.size + 1, 0, none⟩ = some (.int .u8 x0) := (blk_cell hG 0).trans rfl
    have hc1 : wr.cell? ⟨w.heap.size + 1, 1, none⟩ = some (.int .u8 x1) := (blk_cell hG 1).trans rfl
    have hc2 : wr.cell? ⟨w.heap.size + 1, 2, none⟩ = some (.int .u8 x2) := (blk_cell hG 2).trans rfl
    have hc3 : wr.cell? ⟨w.heap.size + 1, 3, none⟩ = some (.int .u8 x3) := (blk_cell hG 3).trans rfl
    have hc4 : wr.cell? ⟨w.heap.size + 1, 4, none⟩ = some (.int .u8 x4) := (blk_cell hG 4).trans rfl
    have hc5 : wr.cell? ⟨w.heap.size + 1, 5, none⟩ = some (.int .u8 x5) := (blk_cell hG 5).trans rfl
    have hc6 : wr.cell? ⟨w.heap.size + 1, 6, none⟩ = some (.int .u8 x6) := (blk_cell hG 6).trans rfl
    have hc7 : wr.cell? ⟨w.heap.size + 1, 7, none⟩ = some (.int .u8 x7) := (blk_cell hG 7).trans rfl
    have hr0 : wr.cell? ⟨w.heap.size, 0, none⟩ = some (.int .u8 0) := (blk_cell hR 0).trans rfl
    have hr1 : wr.cell? ⟨w.heap.size, 1, none⟩ = some (.int .u8 0) := (blk_cell hR 1).trans rfl
    have hr2 : wr.cell? ⟨w.heap.size, 2, none⟩ = some (.int .u8 0) := (blk_cell hR 2).trans rfl
    have hr3 : wr.cell? ⟨w.heap.size, 3, none⟩ = some (.int .u8 0) := (blk_cell hR 3).trans rfl
    have hr4 : wr.cell? ⟨w.heap.size, 4, none⟩ = some (.int .u8 0) := (blk_cell hR 4).trans rfl
    have hr5 : wr.cell? ⟨w.heap.size, 5, none⟩ = some (.int .u8 0) := (blk_cell hR 5).trans rfl
    have hr6 : wr.cell? ⟨w.heap.size, 6, none⟩ = some (.int .u8 0) := (blk_cell hR 6).trans rfl
    have hr7 : wr.cell? ⟨w.heap.size, 7, none⟩ = some (.int .u8 0) := (blk_cell hR 7).trans rfl
    have hf0 := hF 0
    have hg0 := hF2 0
    have hf1 := hF 1
    have hg1 := hF2 1
    have hf2 := hF 2
    have hg2 := hF2 2
    have hf3 := hF 3
    have hg3 := hF2 3
    have hf4 := hF 4
    have hg4 := hF2 4
    have hf5 := hF 5
    have hg5 := hF2 5
    have hf6 := hF 6
    have hg6 := hF2 6
    have hf7 := hF 7
    have hg7 := hF2 7
    clear hB hG hR hF hF2
    match i, hi with
    | 8, _ =>
      go_wp2
      refine bodyPost_ret (res_c rfl _ _ w.heap.size 43 #[.int .u8 x0, .int .u8 x1, .int .u8 x2, .int .u8 x3, .int .u8 x4, .int .u8 x5, .int .u8 x6, .int .u8 x7] (0, 0) _ rfl (blk_put (blk_put (blk_put (blk_put (blk_put (blk_put (blk_put (blk_put HR.out 0 (.int .u8 x0) rfl) 1 (.int .u8 x1) rfl) 2 (.int .u8 x2) rfl) 3 (.int .u8 x3) rfl) 4 (.int .u8 x4) rfl) 5 (.int .u8 x5) rfl) 6 (.int .u8 x6) rfl) 7 (.int .u8 x7) rfl) Try.underlying43 rfl (by kernel_rfl)) rfl ?_
      have e : w8 n = [x0, x1, x2, x3, x4, x5, x6, x7] := hx
      rw [e]
      exact ⟨rfl, ((((((((HB.out.setCell (p := ⟨w.heap.size, 0, none⟩) (Nat.le_refl _) _).setCell (p := ⟨w.heap.size, 1, none⟩) (Nat.le_refl _) _).setCell (p := ⟨w.heap.size, 2, none⟩) (Nat.le_refl _) _).setCell (p := ⟨w.heap.size, 3, none⟩) (Nat.le_refl _) _).setCell (p := ⟨w.heap.size, 4, none⟩) (Nat.le_refl _) _).setCell (p := ⟨w.heap.size, 5, none⟩) (Nat.le_refl _) _).setCell (p := ⟨w.heap.size, 6, none⟩) (Nat.le_refl _) _).setCell (p := ⟨w.heap.size, 7, none⟩) (Nat.le_refl _) _)⟩
    | 0, _ =>
      go_wp2
      go_roundg 7
      case measure => omega
      case rel => exact ⟨1, _, x1, x2, x3, x4, x5, x6, x7, by omega, rfl, rfl, (by simp [w8up, w8] at hx ⊢; omega), (blk_far HR.out (p := ⟨w.heap.size + 1, 0, none⟩) (by simp) _), (blk_put HG.out 0 _ rfl), HB.out.setCell (p := ⟨w.heap.size + 1, 0, none⟩) (Nat.le_succ _) _⟩
    | 1, _ =>
      go_wp2
      go_roundg 6
      case measure => omega
      case rel => exact ⟨2, x0, _, x2, x3, x4, x5, x6, x7, by omega, rfl, rfl, (by simp [w8up, w8] at hx ⊢; omega), (blk_far HR.out (p := ⟨w.heap.size + 1, 1, none⟩) (by simp) _), (blk_put HG.out 1 _ rfl), HB.out.setCell (p := ⟨w.heap.size + 1, 1, none⟩) (Nat.le_succ _) _⟩
    | 2, _ =>
      go_wp2
      go_roundg 5
      case measure => omega
      case rel => exact ⟨3, x0, x1, _, x3, x4, x5, x6, x7, by omega, rfl, rfl, (by simp [w8up, w8] at hx ⊢; omega), (blk_far HR.out (p := ⟨w.heap.size + 1, 2, none⟩) (by simp) _), (blk_put HG.out 2 _ rfl), HB.out.setCell (p := ⟨w.heap.size + 1, 2, none⟩) (Nat.le_succ _) _⟩
    | 3, _ =>
      go_wp2
      go_roundg 4
      case measure => omega
      case rel => exact ⟨4, x0, x1, x2, _, x4, x5, x6, x7, by omega, rfl, rfl, (by simp [w8up, w8] at hx ⊢; omega), (blk_far HR.out (p := ⟨w.heap.size + 1, 3, none⟩) (by simp) _), (blk_put HG.out 3 _ rfl), HB.out.setCell (p := ⟨w.heap.size + 1, 3, none⟩) (Nat.le_succ _) _⟩
    | 4, _ =>
      go_wp2
      go_roundg 3
      case measure => omega
      case rel => exact ⟨5, x0, x1, x2, x3, _, x5, x6, x7, by omega, rfl, rfl, (by simp [w8up, w8] at hx ⊢; omega), (blk_far HR.out (p := ⟨w.heap.size + 1, 4, none⟩) (by simp) _), (blk_put HG.out 4 _ rfl), HB.out.setCell (p := ⟨w.heap.size + 1, 4, none⟩) (Nat.le_succ _) _⟩
    | 5, _ =>
      go_wp2
      go_roundg 2
      case measure => omega
      case rel => exact ⟨6, x0, x1, x2, x3, x4, _, x6, x7, by omega, rfl, rfl, (by simp [w8up, w8] at hx ⊢; omega), (blk_far HR.out (p := ⟨w.heap.size + 1, 5, none⟩) (by simp) _), (blk_put HG.out 5 _ rfl), HB.out.setCell (p := ⟨w.heap.size + 1, 5, none⟩) (Nat.le_succ _) _⟩
    | 6, _ =>
      go_wp2
      go_roundg 1
      case measure => omega
      case rel => exact ⟨7, x0, x1, x2, x3, x4, x5, _, x7, by omega, rfl, rfl, (by simp [w8up, w8] at hx ⊢; omega), (blk_far HR.out (p := ⟨w.heap.size + 1, 6, none⟩) (by simp) _), (blk_put HG.out 6 _ rfl), HB.out.setCell (p := ⟨w.heap.size + 1, 6, none⟩) (Nat.le_succ _) _⟩
    | 7, _ =>
      go_wp2
      go_roundg 0
      case measure => omega
      case rel => exact ⟨8, x0, x1, x2, x3, x4, x5, x6, _, by omega, rfl, rfl, (by simp [w8up, w8] at hx ⊢; omega), (blk_far HR.out (p := ⟨w.heap.size + 1, 7, none⟩) (by simp) _), (blk_put HG.out 7 _ rfl), HB.out.setCell (p := ⟨w.heap.size + 1, 7, none⟩) (Nat.le_succ _) _⟩
theorem zv42 (w : World) : (zeroValue 42).run Try.prog w = .ok (.agg (nums .u8 (List.replicate 128 0)).toArray) w := by
  have h : (Try.prog.info? 42).map (·.zero) = some (some (.agg (nums .u8 (List.replicate 128 0)).toArray)) := by kernel_rfl
  cases hq : Try.prog.info? 42 with
  | none => simp [hq] at h
  | some i =>
    have hz : i.zero = some (.agg (nums .u8 (List.replicate 128 0)).toArray) := by simpa [hq] using h
    simp [zeroValue, typeInfo, hq, hz]
/-- copy of a slice's cells into a row, as one step of a region that draws; all other blocks stay. -/
theorem step_copy_at {P : Program} {ops : Array Oper} {o : Oper} {a : Act} {w : World} {K : Act → World → Prop} {Q : Exit → Act → World → Prop} {E : Prop} (hgd : o.guard = none) (d s : Operand) (dT sT : TypeId)
    (ho : o.op = .call { callee := .builtin .copy, args := #[d, s], argTypes := #[dT, sT] }) (elem : TypeId) (hu : P.underlying dT = some (.slice elem)) (hsz : (P.info? elem).map (·.size) = some 1)
    (dLen dCap sLen sCap : Nat) (g off : Nat) (ad : Addr) (hd : a.eval d = .slice (some ⟨g, off, none⟩) dLen dCap) (hs : a.eval s = .slice (some ad) sLen sCap)
    (cur : List Value) (t : TypeId) (hg : w.heap[g]? = some (.cells cur.toArray t (0, 0))) (cs : List Value) (hn : cs.length = Nat.min sLen dLen)
    (hsrc : ∀ j v, cs[j]? = some v → w.cell? (ad.add j) = some v)
    (hfit : off + cs.length ≤ cur.length) (h1 : ∀ v ∈ cs, v.oneCell' = true) (w0 : World) (hb : Below w0.heap.size w0 w) (hBg : w0.heap.size ≤ g)
    (h : ∀ w', Aside0 (w'.heap[g]? = some (.cells (splice cur off cs).toArray t (0, 0))) → Aside0 (Below w0.heap.size w0 w') → Aside0 (∀ k, k ≠ g → w'.heap[k]? = w.heap[k]?) → K (a.put o.dst (goInt cs.length)) w') :
    if Region.wanted o (yielded ops a.tmps) = true then Oper.wp P o a w K Q else E := by
  have hw : Region.wanted o (yielded ops a.tmps) = true := by simp [Region.wanted, hgd]
  rw [if_pos hw]
  have hrun := run_copy_row (P := P) w dT sT o.type elem g off dLen dCap ad sLen sCap cur.toArray t cs hu hsz hg hn hsrc (by simpa using hfit) h1
  unfold Oper.wp
  simp [execOp, ho, resolve, invoke, builtin, hd, hs, hrun, Result.andThen]
  exact h _ ⟨by simpa [splice] using setRow_heap w g _ _ t _ hg⟩ ⟨below_setRow hb hBg _⟩ ⟨fun k hk => setRow_other w g k _ hk⟩
/-- copy of a text into a row; all other blocks stay. -/
theorem wpList_copy_text {P : Program} {w : World} {ops : Array Oper} {rest : List Oper} {o : Oper} {a : Act} {Q : Exit → Act → World → Prop} (hgd : o.guard = none) (d s : Operand) (dT sT : TypeId)
    (ho : o.op = .call { callee := .builtin .copy, args := #[d, s], argTypes := #[dT, sT] }) (elem : TypeId) (hu : P.underlying dT = some (.slice elem)) (hsz : (P.info? elem).map (·.size) = some 1)
    (dLen dCap : Nat) (g off : Nat) (x : ByteArray) (hd : a.eval d = .slice (some ⟨g, off, none⟩) dLen dCap) (hs : a.eval s = .string x) (hle : x.size ≤ dLen)
    (cur : List Value) (t : TypeId) (hg : w.heap[g]? = some (.cells cur.toArray t (0, 0)))
    (hfit : off + x.size ≤ cur.length) (w0 : World) (hb : Below w0.heap.size w0 w) (hBg : w0.heap.size ≤ g)
    (h : ∀ w', Aside0 (w'.heap[g]? = some (.cells (splice cur off (nums .u8 (bytesOf x))).toArray t (0, 0))) → Aside0 (Below w0.heap.size w0 w') → Aside0 (∀ k, k ≠ g → w'.heap[k]? = w.heap[k]?) → wpList P ops Q rest (a.put o.dst (goInt x.size)) w') :
    wpList P ops Q (o :: rest) a w := by
  have hlen : (nums .u8 (bytesOf x)).length = x.size := by rw [nums_length, bytesOf_length]
  have hst := run_storeCells_at P g off t (nums .u8 (bytesOf x)) 0 cur.toArray w hg (by rw [hlen]; simpa using hfit) (by intro v hv; simp [nums] at hv; obtain ⟨y, _, rfl⟩ := hv; rfl)
  have hmin : Nat.min x.size dLen = x.size := Nat.min_eq_left hle
  have htk : List.take x.size (List.map (fun b : UInt8 => Value.int IntKind.u8 (b.toNat : Int)) x.data.toList) = nums .u8 (bytesOf x) := by
    rw [List.take_of_length_le (by rw [List.length_map, data_length]; exact Nat.le_refl _)]
    simp [nums, bytesOf]
  rw [hlen] at hst
  simp only [Nat.add_zero] at hst
  have hrun : (Builtin.copy_ #[dT, sT] o.type #[.slice (some ⟨g, off, none⟩) dLen dCap, .string x]).run P w = .ok (goInt x.size) (w.setRow g (cur.take off ++ nums .u8 (bytesOf x) ++ cur.drop (off + x.size)).toArray) := by
    cases hq : P.info? elem with
    | none => simp [hq] at hsz
    | some i =>
      simp [Builtin.copy_, run_underlying hu, Builtin.lenOf, Builtin.firstCells, sizeOf, typeInfo, hq, hmin]
      rw [htk, hst]
      simp [Result.andThen]
  refine wpList_plain hgd fun K hK => ?_
  unfold Oper.wp
  simp [execOp, ho, resolve, invoke, builtin, hd, hs, hrun, Result.andThen]
  refine hK _ _ (h _ ⟨?_⟩ ⟨below_setRow hb hBg _⟩ ⟨fun k hk => setRow_other w g k _ hk⟩)
  have := setRow_heap w g _ (cur.take off ++ nums .u8 (bytesOf x) ++ cur.drop (off + x.size)).toArray t _ hg
  simpa [splice, hlen] using this
theorem nums_splice (k : IntKind) (L cs : List Int) (off : Nat) : splice (nums k L) off (nums k cs) = nums k (splice L off cs) := by simp [splice, nums]
theorem src_of {w : World} {g : Nat} {t : TypeId} {l : List Value} (h : w.heap[g]? = some (.cells l.toArray t (0, 0))) : ∀ j v, l[j]? = some v → w.cell? ((⟨g, 0, none⟩ : Addr).add j) = some v := fun j v hj => by
  have e : (⟨g, 0, none⟩ : Addr).add j = ⟨g, j, none⟩ := by unfold Addr.add; split <;> simp_all
  rw [e, blk_cell h]
  simpa using hj
theorem page_list (x0 x1 x2 x3 x4 x5 x6 x7 n : Int) (b : List Int) (hb : b.length ≤ 111) :
    splice (splice ((splice (List.replicate 128 0) 0 [x0, x1, x2, x3, x4, x5, x6, x7]).set 8 n) 9 b) 120 [x7, x6, x5, x4, x3, x2, x1, x0] =
      [x0, x1, x2, x3, x4, x5, x6, x7] ++ ([n] ++ (b ++ (List.replicate (111 - b.length) 0 ++ [x0, x1, x2, x3, x4, x5, x6, x7].reverse))) := by
  have e1 : (splice (List.replicate 128 0) 0 [x0, x1, x2, x3, x4, x5, x6, x7]).set 8 n = [x0, x1, x2, x3, x4, x5, x6, x7, n] ++ List.replicate 119 0 := by rfl
  rw [e1]
  have e2 : splice ([x0, x1, x2, x3, x4, x5, x6, x7, n] ++ List.replicate 119 0) 9 b = ([x0, x1, x2, x3, x4, x5, x6, x7, n] ++ b) ++ List.replicate (119 - b.length) 0 := by
    obtain ⟨R, hR⟩ : ∃ R : List Int, List.replicate 119 0 = R := ⟨_, rfl⟩
    rw [hR]
    simp [splice, Nat.add_comm]
    rw [← hR, List.drop_replicate]
  rw [e2]
  have e3 : List.replicate (119 - b.length) (0 : Int) = List.replicate (111 - b.length) 0 ++ List.replicate 8 0 := by
    rw [List.replicate_append_replicate]; congr 1; omega
  rw [e3, ← List.append_assoc]
  have hl : ([x0, x1, x2, x3, x4, x5, x6, x7, n] ++ b ++ List.replicate (111 - b.length) (0 : Int)).length = 120 := by simp; omega
  generalize hq : ([x0, x1, x2, x3, x4, x5, x6, x7, n] ++ b ++ List.replicate (111 - b.length) (0 : Int)) = q at hl
  have e4 : splice (q ++ List.replicate 8 0) 120 [x7, x6, x5, x4, x3, x2, x1, x0] = q ++ [x7, x6, x5, x4, x3, x2, x1, x0] := by
    unfold splice
    rw [List.take_append_of_le_length (by omega), List.take_of_length_le (by omega), List.drop_eq_nil_of_le (by simp; omega)]
    simp
  rw [e4, ← hq]
  simp
def page_bytes (a0 : Int) (a1 : ByteArray) : List Int := w8 a0 ++ ([(a1.size : Int)] ++ (bytesOf a1 ++ (List.replicate (111 - a1.size) 0 ++ (w8 a0).reverse)))
def page_Put.f (a0 : Int) (a1 : ByteArray) : Option (ByteArray × Int) :=
  if a0 = 0 then some (⟨#[]⟩, 1) else if (a1.size : Int) > 111 then some (⟨#[]⟩, 11) else if 0 ≤ a0 ∧ a0 ≤ 18446744073709551615 then some (strOfNums (page_bytes a0 a1), 0) else none
set_option maxHeartbeats 8000000 in
set_option maxRecDepth 100000 in
theorem page_Put.calls (a0 : Int) (a1 : ByteArray) (r1 : ByteArray) (r2 : Int) (w : World) (h : page_Put.f a0 a1 = some (r1, r2)) :
    Calls Try.prog 8 #[.int .u64 a0, .string a1] w fun e w' => e = .returned (.tuple #[.string r1, .int .i64 r2]) ∧ Below w.heap.size w w' := by
  unfold page_Put.f at h
  by_cases c1 : a0 = 0
  · rw [if_pos c1] at h
    simp only [Option.some.injEq, Prod.mk.injEq] at h
    obtain ⟨rfl, rfl⟩ := h
    subst c1
    go_enter Try.func8, Try.ntmps8
    go_wp2
    go_ret2
    exact ⟨rfl, Below.refl _ _⟩
  · rw [if_neg c1] at h
    have c1b : (a0 == 0) = false := by simpa using c1
    by_cases c2 : (a1.size : Int) > 111
    · rw [if_pos c2] at h
      simp only [Option.some.injEq, Prod.mk.injEq] at h
      obtain ⟨rfl, rfl⟩ := h
      have c2b : decide (111 < (a1.size : Int)) = true := decide_eq_true c2
      go_enter Try.func8, Try.ntmps8
      go_wp2
      go_ret2
      exact ⟨rfl, Below.refl _ _⟩
    · rw [if_neg c2] at h
      by_cases c3 : 0 ≤ a0 ∧ a0 ≤ 18446744073709551615
      · rw [if_pos c3] at h
        simp only [Option.some.injEq, Prod.mk.injEq] at h
        have c2b : decide (111 < (a1.size : Int)) = false := decide_eq_false c2
        have HR := Aside0.mk h
        clear h
        obtain ⟨x0, x1, x2, x3, x4, x5, x6, x7, hx⟩ : ∃ x0 x1 x2 x3 x4 x5 x6 x7, w8 a0 = [x0, x1, x2, x3, x4, x5, x6, x7] := ⟨_, _, _, _, _, _, _, _, rfl⟩
        have HX := Aside0.mk hx
        have HW : Aside0 (∀ w, Calls Try.prog 22 #[.int .u64 a0] w fun e w' => e = .returned (.agg #[.int .u8 x0, .int .u8 x1, .int .u8 x2, .int .u8 x3, .int .u8 x4, .int .u8 x5, .int .u8 x6, .int .u8 x7]) ∧ Below w.heap.size w w') := ⟨fun w => by have h_ := word_is a0 c3.1 c3.2 w; rw [hx] at h_; exact h_⟩
        clear hx
        obtain ⟨Z, hZ⟩ : ∃ Z : List Int, List.replicate 128 0 = Z := ⟨_, rfl⟩
        have hz : ∀ w, (zeroValue 42).run Try.prog w = .ok (.agg (nums .u8 Z).toArray) w := by rw [← hZ]; exact zv42
        have HZ := Aside0.mk hZ
        clear hZ
        go_enter Try.func8, Try.ntmps8
        go_wp2_with (go_at_call 22; refine (HW.out _).mono ?_; rintro e w5 ⟨rfl, hb5⟩; have HB5 := Aside0.mk hb5; clear hb5)
        have hlt : w.heap.size < w5.heap.size := by have := HB5.out.size; simp at this; omega
        have b7 : (w5.alloc (.cells #[.int .u8 x0, .int .u8 x1, .int .u8 x2, .int .u8 x3, .int .u8 x4, .int .u8 x5, .int .u8 x6, .int .u8 x7] 43)).heap[w5.heap.size]? = some (.cells #[.int .u8 x0, .int .u8 x1, .int .u8 x2, .int .u8 x3, .int .u8 x4, .int .u8 x5, .int .u8 x6, .int .u8 x7] 43 (0, 0)) := heap_alloc_new _ _
        have b6 : (w5.alloc (.cells #[.int .u8 x0, .int .u8 x1, .int .u8 x2, .int .u8 x3, .int .u8 x4, .int .u8 x5, .int .u8 x6, .int .u8 x7] 43)).heap[w.heap.size]? = some (.cells (nums .u8 Z).toArray 42 (0, 0)) := blk_alloc (blk_below (heap_alloc_new w (.cells (nums .u8 Z).toArray 42)) (by simpa using HB5.out)) _
        have hb6 : Below w.heap.size w (w5.alloc (.cells #[.int .u8 x0, .int .u8 x1, .int .u8 x2, .int .u8 x3, .int .u8 x4, .int .u8 x5, .int .u8 x6, .int .u8 x7] 43)) := below_alloc (below_then (below_alloc (Below.refl w.heap.size w) _) (by simp) (by simpa using HB5.out)) _
        generalize w5.alloc (.cells #[.int .u8 x0, .int .u8 x1, .int .u8 x2, .int .u8 x3, .int .u8 x4, .int .u8 x5, .int .u8 x6, .int .u8 x7] 43) = w6 at b7 b6 hb6 ⊢
        generalize w5.heap.size = g7 at hlt b7 ⊢
        clear HB5 hz HW
        have B6 := Aside0.mk b6
        have B7 := Aside0.mk b7
        have HB6 := Aside0.mk hb6
        have hzl : Z.length = 128 := by rw [← HZ.out]; simp
        clear b6 b7 hb6
        go_region_law (refine step_copy_at rfl (.tmp 17) (.tmp 18) 45 45 rfl 5 Try.underlying45 (by kernel_rfl) 128 128 8 8 w.heap.size 0 ⟨g7, 0, none⟩ (by simp [Act.eval, Act.put]) (by simp [Act.eval, Act.put]) (nums .u8 Z) 42 (blk_drew B6.out) [.int .u8 x0, .int .u8 x1, .int .u8 x2, .int .u8 x3, .int .u8 x4, .int .u8 x5, .int .u8 x6, .int .u8 x7] (by simp) (src_of (blk_drew B7.out)) (by simp [nums, hzl]) (by simp [Value.oneCell']) w (below_drew1 HB6.out) (Nat.le_refl _) ?_; intro w7 hg7 hb7 hk7)
        have B77 : Aside0 (w7.heap[g7]? = some (.cells #[.int .u8 x0, .int .u8 x1, .int .u8 x2, .int .u8 x3, .int .u8 x4, .int .u8 x5, .int .u8 x6, .int .u8 x7] 43 (0, 0))) := ⟨(hk7.out g7 (by omega)).trans (blk_drew B7.out)⟩
        obtain ⟨Y1, hY1⟩ : ∃ Y1 : List Int, splice Z 0 [x0, x1, x2, x3, x4, x5, x6, x7] = Y1 := ⟨_, rfl⟩
        have hl1 : Y1.length = 128 := by rw [← hY1, length_splice _ _ _ (by simp [hzl])]; exact hzl
        have B67 : Aside0 (w7.heap[w.heap.size]? = some (.cells (nums .u8 Y1).toArray 42 (0, 0))) := ⟨by rw [hg7.out, ← hY1, ← nums_splice]; rfl⟩
        have HY1 := Aside0.mk hY1
        clear hY1 hg7 hk7 B6 B7 HB6
        have hc8 : w7.cell? ⟨w.heap.size, 8, none⟩ = some (.int .u8 (Y1.getD 8 0)) := (blk_cell B67.out 8).trans (by simp [nums, hl1, List.getD_eq_getElem?_getD])
        have hf8 := blk_frozen B67.out 8
        have hs111 : a1.size ≤ 111 := by omega
        have B68 : Aside0 ((w7.setCell ⟨w.heap.size, 8, none⟩ (.int .u8 a1.size)).heap[w.heap.size]? = some (.cells (nums .u8 (Y1.set 8 a1.size)).toArray 42 (0, 0))) := ⟨blk_put B67.out 8 _ (by simp [nums, List.map_set])⟩
        go_wp2_with (first | ((with_reducible refine gate_builtin (b := .copy) (xs := #[.tmp 24, .tmp 25]) rfl ?_); refine wpList_copy_text rfl (.tmp 24) (.tmp 25) 45 9 rfl 5 Try.underlying45 (by kernel_rfl) 119 119 w.heap.size 9 a1 rfl rfl (by omega) (nums .u8 (Y1.set 8 a1.size)) 42 B68.out (by simp [nums, hl1]; omega) w (hb7.out.setCell (p := ⟨w.heap.size, 8, none⟩) (Nat.le_refl _) _) (Nat.le_refl _) ?_; intro w8' hg8 hb8 hk8; have B78 := Aside0.mk ((hk8.out g7 (by omega)).trans (blk_far B77.out (p := ⟨w.heap.size, 8, none⟩) (by simp; omega) (.int .u8 a1.size))); have hc70 : w8'.cell? ⟨g7, 0, none⟩ = some (.int .u8 x0) := (blk_cell B78.out 0).trans rfl; have hf70 := blk_frozen B78.out 0; have hc71 : w8'.cell? ⟨g7, 1, none⟩ = some (.int .u8 x1) := (blk_cell B78.out 1).trans rfl; have hf71 := blk_frozen B78.out 1; have hc72 : w8'.cell? ⟨g7, 2, none⟩ = some (.int .u8 x2) := (blk_cell B78.out 2).trans rfl; have hf72 := blk_frozen B78.out 2; have hc73 : w8'.cell? ⟨g7, 3, none⟩ = some (.int .u8 x3) := (blk_cell B78.out 3).trans rfl; have hf73 := blk_frozen B78.out 3; have hc74 : w8'.cell? ⟨g7, 4, none⟩ = some (.int .u8 x4) := (blk_cell B78.out 4).trans rfl; have hf74 := blk_frozen B78.out 4; have hc75 : w8'.cell? ⟨g7, 5, none⟩ = some (.int .u8 x5) := (blk_cell B78.out 5).trans rfl; have hf75 := blk_frozen B78.out 5; have hc76 : w8'.cell? ⟨g7, 6, none⟩ = some (.int .u8 x6) := (blk_cell B78.out 6).trans rfl; have hf76 := blk_frozen B78.out 6; have hc77 : w8'.cell? ⟨g7, 7, none⟩ = some (.int .u8 x7) := (blk_cell B78.out 7).trans rfl; have hf77 := blk_frozen B78.out 7; clear hk8 hc8 hf8 hb7 B77) | (go_at_call 23; refine (turned_is x0 x1 x2 x3 x4 x5 x6 x7 _).mono ?_; rintro e w9 ⟨rfl, hb9⟩; have hg9 := Aside0.mk (blk_below hg8.out hb9); have B79 := Aside0.mk (blk_below B78.out hb9); have HB9 := Aside0.mk (below_step hb8.out hb9); clear hb9 hc70 hc71 hc72 hc73 hc74 hc75 hc76 hc77 hf70 hf71 hf72 hf73 hf74 hf75 hf76 hf77; have hc90 : w9.cell? ⟨g7, 0, none⟩ = some (.int .u8 x0) := (blk_cell B79.out 0).trans rfl; have hf90 := blk_frozen B79.out 0; have hc91 : w9.cell? ⟨g7, 1, none⟩ = some (.int .u8 x1) := (blk_cell B79.out 1).trans rfl; have hf91 := blk_frozen B79.out 1; have hc92 : w9.cell? ⟨g7, 2, none⟩ = some (.int .u8 x2) := (blk_cell B79.out 2).trans rfl; have hf92 := blk_frozen B79.out 2; have hc93 : w9.cell? ⟨g7, 3, none⟩ = some (.int .u8 x3) := (blk_cell B79.out 3).trans rfl; have hf93 := blk_frozen B79.out 3; have hc94 : w9.cell? ⟨g7, 4, none⟩ = some (.int .u8 x4) := (blk_cell B79.out 4).trans rfl; have hf94 := blk_frozen B79.out 4; have hc95 : w9.cell? ⟨g7, 5, none⟩ = some (.int .u8 x5) := (blk_cell B79.out 5).trans rfl; have hf95 := blk_frozen B79.out 5; have hc96 : w9.cell? ⟨g7, 6, none⟩ = some (.int .u8 x6) := (blk_cell B79.out 6).trans rfl; have hf96 := blk_frozen B79.out 6; have hc97 : w9.cell? ⟨g7, 7, none⟩ = some (.int .u8 x7) := (blk_cell B79.out 7).trans rfl; have hf97 := blk_frozen B79.out 7))
        have b7 : ((((((((w9.setCell ⟨g7, 0, none⟩ (.int .u8 x7)).setCell ⟨g7, 1, none⟩ (.int .u8 x6)).setCell ⟨g7, 2, none⟩ (.int .u8 x5)).setCell ⟨g7, 3, none⟩ (.int .u8 x4)).setCell ⟨g7, 4, none⟩ (.int .u8 x3)).setCell ⟨g7, 5, none⟩ (.int .u8 x2)).setCell ⟨g7, 6, none⟩ (.int .u8 x1)).setCell ⟨g7, 7, none⟩ (.int .u8 x0)).heap[g7]? = some (.cells #[.int .u8 x7, .int .u8 x6, .int .u8 x5, .int .u8 x4, .int .u8 x3, .int .u8 x2, .int .u8 x1, .int .u8 x0] 43 (0, 0)) := (blk_put (blk_put (blk_put (blk_put (blk_put (blk_put (blk_put (blk_put B79.out 0 (.int .u8 x7) rfl) 1 (.int .u8 x6) rfl) 2 (.int .u8 x5) rfl) 3 (.int .u8 x4) rfl) 4 (.int .u8 x3) rfl) 5 (.int .u8 x2) rfl) 6 (.int .u8 x1) rfl) 7 (.int .u8 x0) rfl)
        have b6 := (blk_far (blk_far (blk_far (blk_far (blk_far (blk_far (blk_far (blk_far hg9.out (p := ⟨g7, 0, none⟩) (by simp; omega) (.int .u8 x7)) (p := ⟨g7, 1, none⟩) (by simp; omega) (.int .u8 x6)) (p := ⟨g7, 2, none⟩) (by simp; omega) (.int .u8 x5)) (p := ⟨g7, 3, none⟩) (by simp; omega) (.int .u8 x4)) (p := ⟨g7, 4, none⟩) (by simp; omega) (.int .u8 x3)) (p := ⟨g7, 5, none⟩) (by simp; omega) (.int .u8 x2)) (p := ⟨g7, 6, none⟩) (by simp; omega) (.int .u8 x1)) (p := ⟨g7, 7, none⟩) (by simp; omega) (.int .u8 x0))
        have hb6 : Below w.heap.size w ((((((((w9.setCell ⟨g7, 0, none⟩ (.int .u8 x7)).setCell ⟨g7, 1, none⟩ (.int .u8 x6)).setCell ⟨g7, 2, none⟩ (.int .u8 x5)).setCell ⟨g7, 3, none⟩ (.int .u8 x4)).setCell ⟨g7, 4, none⟩ (.int .u8 x3)).setCell ⟨g7, 5, none⟩ (.int .u8 x2)).setCell ⟨g7, 6, none⟩ (.int .u8 x1)).setCell ⟨g7, 7, none⟩ (.int .u8 x0)) := ((((((((HB9.out.setCell (p := ⟨g7, 0, none⟩) (by simp; omega) (.int .u8 x7)).setCell (p := ⟨g7, 1, none⟩) (by simp; omega) (.int .u8 x6)).setCell (p := ⟨g7, 2, none⟩) (by simp; omega) (.int .u8 x5)).setCell (p := ⟨g7, 3, none⟩) (by simp; omega) (.int .u8 x4)).setCell (p := ⟨g7, 4, none⟩) (by simp; omega) (.int .u8 x3)).setCell (p := ⟨g7, 5, none⟩) (by simp; omega) (.int .u8 x2)).setCell (p := ⟨g7, 6, none⟩) (by simp; omega) (.int .u8 x1)).setCell (p := ⟨g7, 7, none⟩) (by simp; omega) (.int .u8 x0))
        generalize ((((((((w9.setCell ⟨g7, 0, none⟩ (.int .u8 x7)).setCell ⟨g7, 1, none⟩ (.int .u8 x6)).setCell ⟨g7, 2, none⟩ (.int .u8 x5)).setCell ⟨g7, 3, none⟩ (.int .u8 x4)).setCell ⟨g7, 4, none⟩ (.int .u8 x3)).setCell ⟨g7, 5, none⟩ (.int .u8 x2)).setCell ⟨g7, 6, none⟩ (.int .u8 x1)).setCell ⟨g7, 7, none⟩ (.int .u8 x0)) = w10 at b7 b6 hb6 ⊢
        rw [nums_splice] at b6
        have B7 := Aside0.mk b7
        have B6 := Aside0.mk b6
        have HB6 := Aside0.mk hb6
        have hl2 : (splice (Y1.set 8 (a1.size : Int)) 9 (bytesOf a1)).length = 128 := by rw [length_splice _ _ _ (by rw [bytesOf_length]; simp [hl1]; omega)]; simp [hl1]
        clear b7 b6 hb6 B78 B79 hg8 hg9 HB9 hb8 B67 B68
        obtain ⟨Y2, hY2⟩ : ∃ Y2 : List Int, splice (Y1.set 8 (a1.size : Int)) 9 (bytesOf a1) = Y2 := ⟨_, rfl⟩
        rw [hY2] at B6 hl2
        have HY2 := Aside0.mk hY2
        clear hY2
        go_region_law (refine step_copy_at rfl (.tmp 29) (.tmp 30) 45 45 rfl 5 Try.underlying45 (by kernel_rfl) 8 8 8 8 w.heap.size 120 ⟨g7, 0, none⟩ (by simp [Act.eval, Act.put]) (by simp [Act.eval, Act.put]) (nums .u8 Y2) 42 (blk_drew B6.out) [.int .u8 x7, .int .u8 x6, .int .u8 x5, .int .u8 x4, .int .u8 x3, .int .u8 x2, .int .u8 x1, .int .u8 x0] (by simp) (src_of (blk_drew B7.out)) (by simp [nums, hl2]) (by simp [Value.oneCell']) w (below_drew1 HB6.out) (Nat.le_refl _) ?_; intro w11 hg11 hb11 hk11)
        obtain ⟨Y3, hY3⟩ : ∃ Y3 : List Int, splice Y2 120 [x7, x6, x5, x4, x3, x2, x1, x0] = Y3 := ⟨_, rfl⟩
        have hl3 : Y3.length = 128 := by rw [← hY3, length_splice _ _ _ (by simp [hl2])]; exact hl2
        have B11 : Aside0 (w11.heap[w.heap.size]? = some (.cells (nums .u8 Y3).toArray 42 (0, 0))) := ⟨by rw [hg11.out, ← hY3, ← nums_splice]; rfl⟩
        have HY3 := Aside0.mk hY3
        clear hY3 hg11 hk11 B6 B7 HB6
        have hcv := run_convert_bytes_arg (P := Try.prog) w11 45 5 Try.underlying45 Try.underlying5 w.heap.size 0 128 128 Y3 hl3 (fun i hi => by rw [Nat.zero_add, blk_cell B11.out]; simp [nums, hl3, hi, List.getD_eq_getElem?_getD]) 9 Try.underlying9
        go_wp2
        go_ret2
        have he := HR.out
        obtain ⟨rfl, rfl⟩ := he
        have e : Y3 = page_bytes a0 a1 := by
          rw [← HY3.out, ← HY2.out, ← HY1.out, ← HZ.out, page_bytes, HX.out, page_list _ _ _ _ _ _ _ _ _ _ (by rw [bytesOf_length]; exact hs111), bytesOf_length]
        rw [e]
        exact ⟨rfl, hb11.out⟩
      · rw [if_neg c3] at h
        cases h


end Go.Proofs.Ytdnffphknigipaa.Q
