-- Printed by this session's program wip/tools/mp.sh out of the translation.
import Derived.Test.YtdnffphknigipaaQx0
import Derived.Test.YtdnffphknigipaaQx2
namespace Go.Proofs.Ytdnffphknigipaa.Q
open Go.RowKit Go.Proofs.YtdnffphknigipaaW.PrintWords Go.Proofs.YtdnffphknigipaaW.PrintLast Go.Proofs.YtdnffphknigipaaW.PrintMore
attribute [local go_sem] max2_int min2_int max_two min_two max_three min_three max_four min_four   -- for this text's walks alone
set_option linter.unusedVariables false
set_option linter.unusedSimpArgs false

/-! ### page_Tag: function 12 -/
/-- The number of a text's first i bytes. -/
def numUp (s : ByteArray) : Nat → Int
  | 0 => 0
  | i + 1 => 256 * numUp s i + bt s i
theorem numUp_bound (s : ByteArray) : ∀ i, 0 ≤ numUp s i ∧ numUp s i < 256 ^ i
  | 0 => by simp [numUp]
  | i + 1 => by
    have h := numUp_bound s i
    have hb : 0 ≤ bt s i ∧ bt s i ≤ 255 := bt_range s i
    simp only [numUp, Int.pow_succ]
    omega
theorem or8 (n b : Int) (h0 : 0 ≤ n) (h1 : n < 72057594037927936) (hb0 : 0 ≤ b) (hb1 : b ≤ 255) : Go.bits .or .u64 (IntKind.u64.wrap (n * 256)) (IntKind.u64.wrap b) = 256 * n + b := by
  have e1 : IntKind.u64.wrap (n * 256) = ((256 * n.toNat : Nat) : Int) := by simp [IntKind.wrap, IntKind.signed, IntKind.bits]; omega
  have e2 : IntKind.u64.wrap b = (b.toNat : Int) := by simp [IntKind.wrap, IntKind.signed, IntKind.bits]; omega
  rw [e1, e2, u64_or_nat _ _ (by omega) (by omega), nat_join 8 _ _ (by omega) (by omega)]
  omega
theorem ba_ext {a b : ByteArray} (h : a.toList = b.toList) : a = b := by
  rw [Go.ByteArray.toList_eq, Go.ByteArray.toList_eq] at h
  exact ByteArray.ext (Array.toList_inj.mp h)
def page_Tag.f (a0 : ByteArray) : Option (Int × Int) :=
  if (a0.size : Int) ≠ 128 then some (0, 11) else if numUp a0 8 = 0 then some (0, 3) else if a0.extract 120 a0.size ≠ strOfNums (w8 (numUp a0 8)).reverse then some (0, 3) else some (numUp a0 8, 0)
set_option maxHeartbeats 8000000 in
set_option maxRecDepth 100000 in
theorem page_Tag.calls (a0 : ByteArray) (r1 : Int) (r2 : Int) (w : World) (h : page_Tag.f a0 = some (r1, r2)) :
    Calls Try.prog 12 #[.string a0] w fun e w' => e = .returned (.tuple #[.int .u64 r1, .int .i64 r2]) ∧ Below w.heap.size w w' := by
  unfold page_Tag.f at h
  by_cases c1 : (a0.size : Int) ≠ 128
  · rw [if_pos c1] at h
    simp only [Option.some.injEq, Prod.mk.injEq] at h
    obtain ⟨rfl, rfl⟩ := h
    have c1b : ((a0.size : Int) != 128) = true := by simpa using c1
    go_enter Try.func12, Try.ntmps12
    go_wp2
    go_ret2
    exact ⟨rfl, Below.refl _ _⟩
  · rw [if_neg c1] at h
    have c1b : ((a0.size : Int) != 128) = false := by simpa using c1
    have c1n : a0.size = 128 := by omega
    have HR := Aside0.mk h
    clear h
    go_enter Try.func12, Try.ntmps12
    go_wp2
    go_loopg [10, 4] 8 (fun kq v10 v4 w' => ∃ i : Nat, i ≤ 8 ∧ kq = 8 - i ∧ v10 = .int .i64 (i : Int) ∧ v4 = .int .u64 (numUp a0 i) ∧ w' = w)
    case atStart => exact ⟨0, by omega, rfl, rfl, rfl, rfl⟩
    case round =>
      obtain ⟨i, hi, rfl, rfl, rfl, hw⟩ := hrel
      by_cases c2 : i = 8
      · subst c2
        obtain ⟨x0, x1, x2, x3, x4, x5, x6, x7, hx⟩ : ∃ x0 x1 x2 x3 x4 x5 x6 x7, w8 (numUp a0 8) = [x0, x1, x2, x3, x4, x5, x6, x7] := ⟨_, _, _, _, _, _, _, _, rfl⟩
        have HX := Aside0.mk hx
        have hn := numUp_bound a0 8
        have HW : Aside0 (∀ w, Calls Try.prog 22 #[.int .u64 (numUp a0 8)] w fun e w' => e = .returned (.agg #[.int .u8 x0, .int .u8 x1, .int .u8 x2, .int .u8 x3, .int .u8 x4, .int .u8 x5, .int .u8 x6, .int .u8 x7]) ∧ Below w.heap.size w w') := ⟨fun w => by have h_ := word_is (numUp a0 8) hn.1 (by have := hn.2; omega) w; rw [hx] at h_; exact h_⟩
        clear hx
        rw [hw] at *
        clear hw
        generalize numUp a0 8 = n at *
        go_wp2_with (first | (go_at_call 22; refine (HW.out _).mono ?_; rintro e w5 ⟨rfl, hb5⟩; have HB5 := Aside0.mk hb5; clear hb5) | (go_at_call 23; refine (turned_is x0 x1 x2 x3 x4 x5 x6 x7 _).mono ?_; rintro e w9 ⟨rfl, hb9⟩; have HB9 := Aside0.mk (below_step HB5.out hb9); clear hb9))
        have b10 : (w9.alloc (.cells #[.int .u8 x7, .int .u8 x6, .int .u8 x5, .int .u8 x4, .int .u8 x3, .int .u8 x2, .int .u8 x1, .int .u8 x0] 43)).heap[w9.heap.size]? = some (.cells #[.int .u8 x7, .int .u8 x6, .int .u8 x5, .int .u8 x4, .int .u8 x3, .int .u8 x2, .int .u8 x1, .int .u8 x0] 43 (0, 0)) := heap_alloc_new _ _
        have hb10 : Below w.heap.size w (w9.alloc (.cells #[.int .u8 x7, .int .u8 x6, .int .u8 x5, .int .u8 x4, .int .u8 x3, .int .u8 x2, .int .u8 x1, .int .u8 x0] 43)) := below_alloc HB9.out _
        generalize w9.alloc (.cells #[.int .u8 x7, .int .u8 x6, .int .u8 x5, .int .u8 x4, .int .u8 x3, .int .u8 x2, .int .u8 x1, .int .u8 x0] 43) = w10 at b10 hb10 ⊢
        generalize w9.heap.size = g9 at b10 ⊢
        have HB10 := Aside0.mk hb10
        have hcv : ∀ q, (Go.convert 45 9 (.slice (some ⟨g9, 0, none⟩) 8 8)).run Try.prog (w10.drewN q) = .ok (.string (strOfNums [x7, x6, x5, x4, x3, x2, x1, x0])) (w10.drewN q) := fun q => run_convert_bytes_arg (P := Try.prog) (w10.drewN q) 45 5 Try.underlying45 Try.underlying5 g9 0 8 8 [x7, x6, x5, x4, x3, x2, x1, x0] rfl (fun i hi => by
          rw [Nat.zero_add, blk_cell (blk_drewN b10 q)]
          have : i = 0 ∨ i = 1 ∨ i = 2 ∨ i = 3 ∨ i = 4 ∨ i = 5 ∨ i = 6 ∨ i = 7 := by omega
          rcases this with rfl | rfl | rfl | rfl | rfl | rfl | rfl | rfl <;> rfl) 9 Try.underlying9
        have hcv0 := hcv 0
        have hcv1 := hcv 1
        clear hb10 b10 HB9 HB5 HW
        by_cases c3 : n = 0
        · subst c3
          have he := HR.out
          rw [if_pos rfl] at he
          simp only [Option.some.injEq, Prod.mk.injEq] at he
          obtain ⟨rfl, rfl⟩ := he
          go_quiet (fail)
          go_wp2
          go_ret2
          exact ⟨rfl, pw_below_drewN HB10.out _⟩
        · have he := HR.out
          rw [if_neg c3, HX.out] at he
          have c3b : (n == 0) = false := by simpa using c3
          obtain ⟨S8, hS8⟩ : ∃ S8, strOfNums [x7, x6, x5, x4, x3, x2, x1, x0] = S8 := ⟨_, rfl⟩
          have hS8' : strOfNums ([x0, x1, x2, x3, x4, x5, x6, x7].reverse) = S8 := hS8
          rw [hS8] at hcv
          rw [hS8'] at he
          rw [c1n] at he
          by_cases c4 : a0.extract 120 128 ≠ S8
          · have c4b : ((a0.extract 120 128).toList == S8.toList) = false := by
              apply Bool.eq_false_iff.mpr
              intro e
              exact c4 (ba_ext (beq_iff_eq.mp e))
            rw [if_pos c4] at he
            simp only [Option.some.injEq, Prod.mk.injEq] at he
            obtain ⟨rfl, rfl⟩ := he
            go_quiet (fail)
            go_wp2
            go_ret2
            exact ⟨rfl, pw_below_drewN HB10.out _⟩
          · have c4b : ((a0.extract 120 128).toList == S8.toList) = true := by
              rw [Classical.not_not.mp c4]
              exact beq_self_eq_true _
            rw [if_neg c4] at he
            simp only [Option.some.injEq, Prod.mk.injEq] at he
            obtain ⟨rfl, rfl⟩ := he
            go_quiet (fail)
            go_wp2
            go_ret2
            exact ⟨rfl, pw_below_drewN HB10.out _⟩
      · have c2b : decide ((i : Int) < 8) = true := decide_eq_true (by omega)
        go_wp2
        go_roundg (8 - (i + 1))
        case measure => omega
        case rel =>
          refine ⟨i + 1, by omega, rfl, by simp, ?_, rfl⟩
          have hb := numUp_bound a0 i
          have hp : (256 : Int) ^ i ≤ 256 ^ 7 := by
            have : i = 0 ∨ i = 1 ∨ i = 2 ∨ i = 3 ∨ i = 4 ∨ i = 5 ∨ i = 6 ∨ i = 7 := by omega
            rcases this with rfl | rfl | rfl | rfl | rfl | rfl | rfl | rfl <;> decide
          have hbt := bt_range a0 i
          have e := bt_at a0 i (by simp; omega)
          simp only [Int.toNat_natCast] at e
          rw [e, or8 _ _ hb.1 (by omega) hbt.1 hbt.2]
          rfl


/-! ### page_Get: function 10 -/
def page_Get.l0 : Nat → ByteArray → Int → Int → Option (ByteArray × Int)
  | 0, _, _, _ => none
  | k + 1, x0, x8, x9 => if x9 < 120 then (if 0 ≤ x9 then (if x9 < (x0.size : Int) then (if (bt x0 x9) = 0 then (page_Get.l0 k x0 x8 (wrap64 (x9 + 1))) else (some ((⟨#[]⟩ : ByteArray), 7))) else (none)) else (none)) else (if 9 ≤ x8 then (if x8 ≤ (x0.size : Int) then (some (x0.extract 9 (x8 : Int).toNat, 0)) else (none)) else (none))
def page_Get.f (k : Nat) (a0 : ByteArray) (a1 : Int) : Option (ByteArray × Int) := (page_Tag.f a0).bind fun bt123 => (if bt123.2 = 0 then (if bt123.1 = a1 then (if 8 < (a0.size : Int) then (if (wrap64 (9 + (wrap64 (bt a0 8)))) > 120 then (some ((⟨#[]⟩ : ByteArray), 7)) else (page_Get.l0 k a0 (wrap64 (9 + (wrap64 (bt a0 8)))) (wrap64 (9 + (wrap64 (bt a0 8)))))) else (none)) else (some ((⟨#[]⟩ : ByteArray), 3))) else (some ((⟨#[]⟩ : ByteArray), bt123.2)))
theorem page_Get.mono_l : ∀ k, (∀ y0 y1 y2, LeO (page_Get.l0 k y0 y1 y2) (page_Get.l0 (k + 1) y0 y1 y2))
  | 0 => fun _ _ _ r h => by simp [page_Get.l0] at h
  | k + 1 => by
    have ih0 := page_Get.mono_l k
    · intro y0 y1 y2
      unfold page_Get.l0
      repeat' first
      | (with_reducible exact ih0 _ _ _)
      | (with_reducible exact LeO.refl _)
      | (with_reducible exact LeO.none _)
      | (with_reducible refine LeO.ite ?_ ?_)
      | (with_reducible refine LeO.bind ?_ (fun _ => ?_))
      | exact ih0 _ _ _
      | exact LeO.none _
      | refine LeO.ite ?_ ?_
      | refine LeO.bind ?_ (fun _ => ?_)
theorem page_Get.mono : ∀ a0 a1 k, LeO (page_Get.f k a0 a1) (page_Get.f (k + 1) a0 a1) := by
  intro a0 a1 k
  have ih0 := page_Get.mono_l k
  unfold page_Get.f
  repeat' first
      | (with_reducible exact ih0 _ _ _)
      | (with_reducible exact LeO.refl _)
      | (with_reducible exact LeO.none _)
      | (with_reducible refine LeO.ite ?_ ?_)
      | (with_reducible refine LeO.bind ?_ (fun _ => ?_))
      | exact ih0 _ _ _
      | exact LeO.none _
      | refine LeO.ite ?_ ?_
      | refine LeO.bind ?_ (fun _ => ?_)
set_option maxHeartbeats 8000000 in
set_option maxRecDepth 100000 in
theorem page_Get.calls (k : Nat) (a0 : ByteArray) (a1 : Int) (r1 : ByteArray) (r2 : Int) (w : World) (h : page_Get.f k a0 a1 = some (r1, r2)) :
    Calls Try.prog 10 #[.string a0, .int .u64 a1] w fun e w' => e = .returned (.tuple #[.string r1, .int .i64 r2]) ∧ Below w.heap.size w w' := by
  have HB := Aside0.mk (Below.refl w.heap.size w)
  have H : ((page_Tag.f a0).bind fun bt123 => (if bt123.2 = 0 then (if bt123.1 = a1 then (if 8 < (a0.size : Int) then (if (wrap64 (9 + (wrap64 (bt a0 8)))) > 120 then (some ((⟨#[]⟩ : ByteArray), 7)) else (page_Get.l0 k a0 (wrap64 (9 + (wrap64 (bt a0 8)))) (wrap64 (9 + (wrap64 (bt a0 8)))))) else (none)) else (some ((⟨#[]⟩ : ByteArray), 3))) else (some ((⟨#[]⟩ : ByteArray), bt123.2)))) = some (r1, r2) := h
  clear h
  replace H := Option.bind_eq_some_iff.mp H
  obtain ⟨⟨t123, t124⟩, A30, H⟩ := H
  replace H : (if t124 = 0 then (if t123 = a1 then (if 8 < (a0.size : Int) then (if (wrap64 (9 + (wrap64 (bt a0 8)))) > 120 then (some ((⟨#[]⟩ : ByteArray), 7)) else (page_Get.l0 k a0 (wrap64 (9 + (wrap64 (bt a0 8)))) (wrap64 (9 + (wrap64 (bt a0 8)))))) else (none)) else (some ((⟨#[]⟩ : ByteArray), 3))) else (some ((⟨#[]⟩ : ByteArray), t124))) = some (r1, r2) := H
  have A3 := Aside0.mk A30
  clear A30
  by_cases c4 : t124 = 0
  · rw [if_pos c4] at H
    have c4b0 : (t124 == 0) = true := beq_iff_eq.mpr c4
    have c4b1 : (t124 != 0) = false := bne_eq_false_iff_eq.mpr c4
    clear c4
    by_cases c5 : t123 = a1
    · rw [if_pos c5] at H
      have c5b0 : (t123 == a1) = true := beq_iff_eq.mpr c5
      have c5b1 : (t123 != a1) = false := bne_eq_false_iff_eq.mpr c5
      clear c5
      by_cases c6 : 8 < (a0.size : Int)
      · rw [if_pos c6] at H
        have c6b0 : decide (8 < (a0.size : Int)) = true := decide_eq_true c6
        have c6b1 : decide (8 < a0.size) = true := decide_eq_true (by omega)
        clear c6
        by_cases c8 : (wrap64 (9 + (wrap64 (bt a0 8)))) > 120
        · rw [if_pos c8] at H
          have c8b0 : decide (120 < (wrap64 (9 + (wrap64 (bt a0 8))))) = true := decide_eq_true c8
          clear c8
          simp only [Option.some.injEq, Prod.mk.injEq] at H
          obtain ⟨rfl, rfl⟩ := H
          go_enter Try.func10, Try.ntmps10
          go_wp2_with (first | ((with_reducible refine gate_callee (f := 12) rfl ?_); refine goesL_ (some 12) rfl rfl Try.func12 (by kernel_rfl) rfl #[.string a0] rfl (by (try simp only [List.map_toArray, List.map_cons, List.map_nil]); first | done | rfl | (simp only [List.length_drop, List.length_take]; rfl)) ?_; (with_reducible refine (page_Tag.calls a0 t123 t124 _ A3.out).mono ?_); rintro e w9 ⟨rfl, hb⟩; refine ⟨_, rfl, ?_⟩; have n0_ := Aside0.mk (below_step (by repeat (first | (with_reducible first | exact HB.out | apply below_alloc | apply pw_below_drewN | apply below_drew1) | exact HB.out)) hb); clear HB; have HB := n0_; clear n0_; (try clear hb); (try clear hb2); (try clear hk); (try clear hi); have p7 : 0 ≤ (8 : Int) := (by omega); have q7 : 8 < a0.size := (by have : (8 : Int) < (a0.size : Int) := of_decide_eq_true (by first | (with_reducible assumption) | assumption); first | omega | (simp only [ByteArray.size_append]; omega)); have hx7 : ∀ h : 8 < a0.size, ((a0[8]'h).toNat : Int) = bt a0 8 := bt_at a0 8; clear p7; have qi7 : (8 < (a0.size : Int)) = True := eq_true (of_decide_eq_true (by first | (with_reducible assumption) | assumption)); replace q7 := eq_true q7))
          go_ret2
          exact ⟨by first | rfl | (simp [errW_none, errW_some] <;> rfl) | (simp [*, errW_none, errW_some] <;> rfl), by repeat (first | (with_reducible first | exact HB.out | apply below_alloc | apply pw_below_drewN | apply below_drew1) | exact HB.out)⟩
        · rw [if_neg c8] at H
          have c8b0 : decide (120 < (wrap64 (9 + (wrap64 (bt a0 8))))) = false := decide_eq_false c8
          clear c8
          have H' := Aside0.mk H
          clear H
          go_enter Try.func10, Try.ntmps10
          go_wp2_with (first | ((with_reducible refine gate_callee (f := 12) rfl ?_); refine goesL_ (some 12) rfl rfl Try.func12 (by kernel_rfl) rfl #[.string a0] rfl (by (try simp only [List.map_toArray, List.map_cons, List.map_nil]); first | done | rfl | (simp only [List.length_drop, List.length_take]; rfl)) ?_; (with_reducible refine (page_Tag.calls a0 t123 t124 _ A3.out).mono ?_); rintro e w10 ⟨rfl, hb⟩; refine ⟨_, rfl, ?_⟩; have n0_ := Aside0.mk (below_step (by repeat (first | (with_reducible first | exact HB.out | apply below_alloc | apply pw_below_drewN | apply below_drew1) | exact HB.out)) hb); clear HB; have HB := n0_; clear n0_; (try clear hb); (try clear hb2); (try clear hk); (try clear hi); have p7 : 0 ≤ (8 : Int) := (by omega); have q7 : 8 < a0.size := (by have : (8 : Int) < (a0.size : Int) := of_decide_eq_true (by first | (with_reducible assumption) | assumption); first | omega | (simp only [ByteArray.size_append]; omega)); have hx7 : ∀ h : 8 < a0.size, ((a0[8]'h).toNat : Int) = bt a0 8 := bt_at a0 8; clear p7; have qi7 : (8 < (a0.size : Int)) = True := eq_true (of_decide_eq_true (by first | (with_reducible assumption) | assumption)); replace q7 := eq_true q7))
          go_loopg [9] k (fun kq v9 w' => ∃ (x9_1 : Int), v9 = .int .i64 x9_1 ∧ Aside0 (page_Get.l0 kq a0 (wrap64 (9 + (wrap64 (bt a0 8)))) x9_1 = some (r1, r2)) ∧ Aside0 (kq ≤ k) ∧ Aside0 (Below w.heap.size w w'))
          case atStart => exact ⟨(wrap64 (9 + (wrap64 (bt a0 8)))), (by first | rfl | (simp; done) | (simp [*]; done)), H', ⟨Nat.le_refl _⟩, ⟨by repeat (first | (with_reducible first | exact HB.out | apply below_alloc | apply pw_below_drewN | apply below_drew1) | exact HB.out)⟩⟩
          case round =>
            clear H'
            try clear c1
            try clear p2
            try clear c4
            try clear c4b0
            try clear c4b1
            try clear c5
            try clear c5b0
            try clear c5b1
            try clear c6
            try clear c6b0
            try clear c6b1
            try clear p6
            try clear p7
            try clear q7
            try clear hx7
            try clear qi7
            try clear c8
            try clear c8b0
            try clear c10
            try clear p7
            try clear q7
            obtain ⟨x9_1, rfl, HA, HK1, HB⟩ := hrel
            cases gk with
            | zero => exact absurd HA.out (by simp [page_Get.l0])
            | succ k1 =>
              have H := HA.out
              clear HA
              simp only [page_Get.l0] at H
              by_cases c11 : x9_1 < 120
              · rw [if_pos c11] at H
                have c11b0 : decide (x9_1 < 120) = true := decide_eq_true c11
                clear c11
                by_cases c12 : 0 ≤ x9_1
                · rw [if_pos c12] at H
                  have c12b0 : decide (0 ≤ x9_1) = true := decide_eq_true c12
                  clear c12
                  by_cases c13 : x9_1 < (a0.size : Int)
                  · rw [if_pos c13] at H
                    have c13b0 : decide (x9_1 < (a0.size : Int)) = true := decide_eq_true c13
                    clear c13
                    by_cases c15 : (bt a0 x9_1) = 0
                    · rw [if_pos c15] at H
                      have c15b0 : ((bt a0 x9_1) == 0) = true := beq_iff_eq.mpr c15
                      have c15b1 : ((bt a0 x9_1) != 0) = false := bne_eq_false_iff_eq.mpr c15
                      clear c15
                      have H' := Aside0.mk H
                      clear H
                      have p14 : 0 ≤ (x9_1 : Int) := of_decide_eq_true (by first | (with_reducible assumption) | assumption)
                      have q14 : x9_1 < (a0.size : Int) := of_decide_eq_true (by first | (with_reducible assumption) | assumption)
                      have hx14 := bt_at a0 x9_1
                      replace p14 := eq_true p14
                      replace q14 := eq_true q14
                      go_wp2
                      go_roundg k1
                      case measure => have := HK1.out; omega
                      case rel => exact ⟨(wrap64 (x9_1 + 1)), (by first | rfl | (simp; done) | (simp [*]; done)), H', ⟨by have := HK1.out; omega⟩, ⟨by repeat (first | (with_reducible first | exact HB.out | apply below_alloc | apply pw_below_drewN | apply below_drew1) | exact HB.out)⟩⟩
                    · rw [if_neg c15] at H
                      have c15b0 : ((bt a0 x9_1) == 0) = false := beq_eq_false_iff_ne.mpr c15
                      have c15b1 : ((bt a0 x9_1) != 0) = true := bne_iff_ne.mpr c15
                      simp only [Option.some.injEq, Prod.mk.injEq] at H
                      obtain ⟨rfl, rfl⟩ := H
                      have p14 : 0 ≤ (x9_1 : Int) := of_decide_eq_true (by first | (with_reducible assumption) | assumption)
                      have q14 : x9_1 < (a0.size : Int) := of_decide_eq_true (by first | (with_reducible assumption) | assumption)
                      have hx14 := bt_at a0 x9_1
                      replace p14 := eq_true p14
                      replace q14 := eq_true q14
                      go_wp2
                      go_ret2
                      exact ⟨by first | rfl | (simp [errW_none, errW_some] <;> rfl) | (simp [*, errW_none, errW_some] <;> rfl), by repeat (first | (with_reducible first | exact HB.out | apply below_alloc | apply pw_below_drewN | apply below_drew1) | exact HB.out)⟩
                  · rw [if_neg c13] at H
                    exact absurd H (by simp)
                · rw [if_neg c12] at H
                  exact absurd H (by simp)
              · rw [if_neg c11] at H
                have c11b0 : decide (x9_1 < 120) = false := decide_eq_false c11
                clear c11
                by_cases c16 : 9 ≤ (wrap64 (9 + (wrap64 (bt a0 8))))
                · rw [if_pos c16] at H
                  have c16b0 := eq_true c16
                  have c16b1 : decide (9 ≤ (wrap64 (9 + (wrap64 (bt a0 8))))) = true := decide_eq_true c16
                  by_cases c17 : (wrap64 (9 + (wrap64 (bt a0 8)))) ≤ (a0.size : Int)
                  · rw [if_pos c17] at H
                    have c17b0 := eq_true c17
                    have c17b1 : decide ((wrap64 (9 + (wrap64 (bt a0 8)))) ≤ (a0.size : Int)) = true := decide_eq_true c17
                    simp only [Option.some.injEq, Prod.mk.injEq] at H
                    obtain ⟨rfl, rfl⟩ := H
                    go_wp2
                    go_ret2
                    exact ⟨by first | rfl | (simp [errW_none, errW_some] <;> rfl) | (simp [*, errW_none, errW_some] <;> rfl), by repeat (first | (with_reducible first | exact HB.out | apply below_alloc | apply pw_below_drewN | apply below_drew1) | exact HB.out)⟩
                  · rw [if_neg c17] at H
                    exact absurd H (by simp)
                · rw [if_neg c16] at H
                  exact absurd H (by simp)
      · rw [if_neg c6] at H
        exact absurd H (by simp)
    · rw [if_neg c5] at H
      have c5b0 : (t123 == a1) = false := beq_eq_false_iff_ne.mpr c5
      have c5b1 : (t123 != a1) = true := bne_iff_ne.mpr c5
      simp only [Option.some.injEq, Prod.mk.injEq] at H
      obtain ⟨rfl, rfl⟩ := H
      go_enter Try.func10, Try.ntmps10
      go_wp2_with (first | ((with_reducible refine gate_callee (f := 12) rfl ?_); refine goesL_ (some 12) rfl rfl Try.func12 (by kernel_rfl) rfl #[.string a0] rfl (by (try simp only [List.map_toArray, List.map_cons, List.map_nil]); first | done | rfl | (simp only [List.length_drop, List.length_take]; rfl)) ?_; (with_reducible refine (page_Tag.calls a0 t123 t124 _ A3.out).mono ?_); rintro e w18 ⟨rfl, hb⟩; refine ⟨_, rfl, ?_⟩; have n0_ := Aside0.mk (below_step (by repeat (first | (with_reducible first | exact HB.out | apply below_alloc | apply pw_below_drewN | apply below_drew1) | exact HB.out)) hb); clear HB; have HB := n0_; clear n0_; (try clear hb); (try clear hb2); (try clear hk); (try clear hi)))
      go_ret2
      exact ⟨by first | rfl | (simp [errW_none, errW_some] <;> rfl) | (simp [*, errW_none, errW_some] <;> rfl), by repeat (first | (with_reducible first | exact HB.out | apply below_alloc | apply pw_below_drewN | apply below_drew1) | exact HB.out)⟩
  · rw [if_neg c4] at H
    have c4b0 : (t124 == 0) = false := beq_eq_false_iff_ne.mpr c4
    have c4b1 : (t124 != 0) = true := bne_iff_ne.mpr c4
    simp only [Option.some.injEq, Prod.mk.injEq] at H
    obtain ⟨rfl, rfl⟩ := H
    go_enter Try.func10, Try.ntmps10
    go_wp2_with (first | ((with_reducible refine gate_callee (f := 12) rfl ?_); refine goesL_ (some 12) rfl rfl Try.func12 (by kernel_rfl) rfl #[.string a0] rfl (by (try simp only [List.map_toArray, List.map_cons, List.map_nil]); first | done | rfl | (simp only [List.length_drop, List.length_take]; rfl)) ?_; (with_reducible refine (page_Tag.calls a0 t123 t124 _ A3.out).mono ?_); rintro e w19 ⟨rfl, hb⟩; refine ⟨_, rfl, ?_⟩; have n0_ := Aside0.mk (below_step (by repeat (first | (with_reducible first | exact HB.out | apply below_alloc | apply pw_below_drewN | apply below_drew1) | exact HB.out)) hb); clear HB; have HB := n0_; clear n0_; (try clear hb); (try clear hb2); (try clear hk); (try clear hi)))
    go_ret2
    exact ⟨by first | rfl | (simp [errW_none, errW_some] <;> rfl) | (simp [*, errW_none, errW_some] <;> rfl), by repeat (first | (with_reducible first | exact HB.out | apply below_alloc | apply pw_below_drewN | apply below_drew1) | exact HB.out)⟩

end Go.Proofs.Ytdnffphknigipaa.Q
