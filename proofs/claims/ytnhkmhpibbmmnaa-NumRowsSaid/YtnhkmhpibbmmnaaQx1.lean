-- Printed by this session's program wip/tools/mp.sh out of the translation.
import Derived.Test.YtnhkmhpibbmmnaaQx0
namespace Go.Proofs.Ytnhkmhpibbmmnaa.Q
open Go.RowKit Go.Proofs.YtnhkmhpibbmmnaaW.PrintWords Go.Proofs.YtnhkmhpibbmmnaaW.PrintLast Go.Proofs.YtnhkmhpibbmmnaaW.PrintMore
attribute [local go_sem] max2_int min2_int max_two min_two max_three min_three max_four min_four   -- for this text's walks alone
set_option linter.unusedVariables false
set_option linter.unusedSimpArgs false

/-! ### num_Add: function 28 -/
def num_Add.l0 : Nat → List Int → Int → Option (List Int)
  | 0, _, _ => none
  | k + 1, x0, x1 => if x1 ≥ 128 then (if x0.length < 140737488355328 then (num_Add.l0 k (x0 ++ [Go.bits .or .u8 ((x1) % 256) 128]) (x1 / 128)) else (none)) else (if x0.length < 140737488355328 then (some (x0 ++ [(x1) % 256])) else (none))
def num_Add.f (k : Nat) (l0 : List Int) (a1 : Int) : Option (List Int) := num_Add.l0 k l0 a1
theorem num_Add.mono_l : ∀ k, (∀ y0 y1, LeO (num_Add.l0 k y0 y1) (num_Add.l0 (k + 1) y0 y1))
  | 0 => fun _ _ r h => by simp [num_Add.l0] at h
  | k + 1 => by
    have ih0 := num_Add.mono_l k
    · intro y0 y1
      unfold num_Add.l0
      repeat' first
      | (with_reducible exact ih0 _ _)
      | (with_reducible exact LeO.refl _)
      | (with_reducible exact LeO.none _)
      | (with_reducible refine LeO.ite ?_ ?_)
      | (with_reducible refine LeO.bind ?_ (fun _ => ?_))
      | exact ih0 _ _
      | exact LeO.none _
      | refine LeO.ite ?_ ?_
      | refine LeO.bind ?_ (fun _ => ?_)
theorem num_Add.mono : ∀ a0 a1 k, LeO (num_Add.f k a0 a1) (num_Add.f (k + 1) a0 a1) := by
  intro a0 a1 k
  have ih0 := num_Add.mono_l k
  unfold num_Add.f
  repeat' first
      | (with_reducible exact ih0 _ _)
      | (with_reducible exact LeO.refl _)
      | (with_reducible exact LeO.none _)
      | (with_reducible refine LeO.ite ?_ ?_)
      | (with_reducible refine LeO.bind ?_ (fun _ => ?_))
      | exact ih0 _ _
      | exact LeO.none _
      | refine LeO.ite ?_ ?_
      | refine LeO.bind ?_ (fun _ => ?_)
set_option maxHeartbeats 8000000 in
set_option maxRecDepth 100000 in
theorem num_Add.calls (k : Nat) (P0_ : Nat → Prop) (u9000_ : Value) (l0 : List Int) (a1 : Int) (r : List Int) (w0 w : World) (hB : Below w0.heap.size w0 w) (ho0 : Kd.R (Kd.int .u8) 5 w w0.heap.size P0_ u9000_ l0) (h : num_Add.f k l0 a1 = some r) :
    Calls Try.prog 28 #[u9000_, .int .u64 a1] w fun e w' => ∃ v0_ : Value, e = .returned (v0_) ∧ Kd.R (Kd.int .u8) 5 w' w0.heap.size (fun k_ => (P0_ k_ ∨ w.heap.size ≤ k_)) v0_ r ∧ Below w0.heap.size w0 w' ∧ Kept w w' (fun k_ => P0_ k_) := by
  have HO0 := Aside0.mk (show Kd.R (Kd.int .u8) 5 w w0.heap.size (fun k_ => (P0_ k_ ∨ w.heap.size ≤ k_)) u9000_ l0 from Kd.R_mono ho0 (fun k_ hk => (.inl hk)))
  have HK := Aside0.mk (Kept.refl w (fun k_ => P0_ k_))
  have HW0 := Aside0.mk hB.size
  have HB := Aside0.mk hB
  clear hB
  have H : (num_Add.l0 k l0 a1) = some r := h
  clear h
  have H' := Aside0.mk H
  clear H
  go_enter Try.func28, Try.ntmps28
  go_wp2
  go_loopg [0, 1] k (fun kq v0 v1 w' => ∃ (x0_1 : List Int) (x1_1 : Int), v1 = .int .u64 x1_1 ∧ Aside0 (num_Add.l0 kq x0_1 x1_1 = some r) ∧ Aside0 (kq ≤ k) ∧ Aside0 (Kd.R (Kd.int .u8) 5 w' w0.heap.size (fun k_ => (P0_ k_ ∨ w.heap.size ≤ k_)) v0 x0_1) ∧ Aside0 (Kept w w' (fun k_ => P0_ k_)) ∧ Aside0 (Below w0.heap.size w0 w'))
  case atStart => exact ⟨(l0), (a1), (by first | rfl | (simp; done) | (simp [*]; done)), H', ⟨Nat.le_refl _⟩, ⟨by (with_reducible repeat (first | apply Kd.R_alloc | apply Kd.R_drewN | apply Kd.R_drew)); exact HO0.out⟩, ⟨by repeat (first | (with_reducible first | exact HK.out | apply Kept.alloc | apply Kept.drewN | apply Kept.drew) | exact HK.out)⟩, ⟨by repeat (first | (with_reducible first | exact HB.out | apply below_alloc | apply pw_below_drewN | apply below_drew1) | exact HB.out)⟩⟩
  case round =>
    clear H'
    try clear c2
    try clear p2
    obtain ⟨x0_1, x1_1, rfl, HA, HK1, HO_0, HK, HB⟩ := hrel
    cases gk with
    | zero => exact absurd HA.out (by simp [num_Add.l0])
    | succ k1 =>
      have H := HA.out
      clear HA
      simp only [num_Add.l0] at H
      by_cases c3 : x1_1 ≥ 128
      · rw [if_pos c3] at H
        have c3b0 : decide (128 ≤ x1_1) = true := decide_eq_true c3
        clear c3
        by_cases c4 : x0_1.length < 140737488355328
        · rw [if_pos c4] at H
          have LMc4 := Aside0.mk c4
          clear c4
          obtain ⟨y101, hy101⟩ : ∃ y_ : List Int, y_ = (x0_1 ++ [Go.bits .or .u8 ((x1_1) % 256) 128]) := ⟨_, rfl⟩
          replace H : (num_Add.l0 k1 y101 (x1_1 / 128)) = some r := by first | (rw [hy101]; with_reducible exact H) | (have H2_ := (Option.bind_some _ _).symm.trans H; rw [hy101]; with_reducible exact H2_) | (have H2_ := (Option.bind_some _ _).symm.trans H; with_reducible exact H2_) | with_reducible exact H | (rw [hy101]; exact H) | exact H
          have Ny101 := Aside0.mk hy101
          clear hy101
          have H' := Aside0.mk H
          clear H
          go_wp2_with (first | ((with_reducible refine gate_builtin (b := .append) (xs := #[.tmp 7, .tmp 11]) rfl ?_); at_builtin; refine Kd.R_append (Kd.int .u8) (w0 := w0) w0.heap.size rfl (.tmp 7) (.tmp 11) 46 5 (.int .u8 0) 1 rfl Try.underlying46 info5 rfl (by decide) (by omega) u0 x0_1 (Go.bits .or .u8 ((x1_1) % 256) 128) [.int .u8 (Go.bits .or .u8 ((x1_1) % 256) 128)] (fun k_ => (P0_ k_ ∨ w.heap.size ≤ k_)) (fun _ => False) rfl rfl ?aP (fun _ hk => hk.elim) ?aF ?aO ?aB ?aS ?aL ?_; (case aP => exact rfl); (case aB => exact (by repeat (first | (with_reducible first | exact HB.out | apply below_alloc | apply pw_below_drewN | apply below_drew1) | exact HB.out))); (case aF => exact (fun k_ hk => (.inr (Nat.le_trans (by first | exact HK.out.1 | exact (show Kept w _ (fun k_ => P0_ k_) from by repeat (first | (with_reducible first | exact HK.out | apply Kept.alloc | apply Kept.drewN | apply Kept.drew) | exact HK.out)).1) hk)))); (case aO => exact (by (with_reducible repeat (first | apply Kd.R_alloc | apply Kd.R_drewN | apply Kd.R_drew)); exact HO_0.out)); (case aS => exact (below_size (by repeat (first | (with_reducible first | exact HB.out | apply below_alloc | apply pw_below_drewN | apply below_drew1) | exact HB.out)))); (case aL => have := LMc4.out; omega); intro v102 w5 ho hb hg hat; rw [← Ny101.out] at ho; have n0_ := Aside0.mk (hb); have n1_ := Aside0.mk (Kept.of_grown (S := (fun k_ => P0_ k_)) hg (by repeat (first | (with_reducible first | exact HK.out | apply Kept.alloc | apply Kept.drewN | apply Kept.drew) | exact HK.out)) (fun k_ e_ => (HO_0.out.1 k_ e_))); have n2_ := Aside0.mk (ho); clear HB; clear HK; clear HO_0; have HB := n0_; have HK := n1_; have HO103 := n2_; clear n0_ n1_ n2_; clear ho hb hg hat))
          go_roundg k1
          case measure => have := HK1.out; omega
          case rel => exact ⟨(y101), (x1_1 / 128), (by first | rfl | (simp; done) | (simp [*]; done)), H', ⟨by have := HK1.out; omega⟩, ⟨by (with_reducible repeat (first | apply Kd.R_alloc | apply Kd.R_drewN | apply Kd.R_drew)); exact HO103.out⟩, ⟨by repeat (first | (with_reducible first | exact HK.out | apply Kept.alloc | apply Kept.drewN | apply Kept.drew) | exact HK.out)⟩, ⟨by repeat (first | (with_reducible first | exact HB.out | apply below_alloc | apply pw_below_drewN | apply below_drew1) | exact HB.out)⟩⟩
        · rw [if_neg c4] at H
          exact absurd H (by simp)
      · rw [if_neg c3] at H
        have c3b0 : decide (128 ≤ x1_1) = false := decide_eq_false c3
        clear c3
        by_cases c6 : x0_1.length < 140737488355328
        · rw [if_pos c6] at H
          have LMc6 := Aside0.mk c6
          clear c6
          obtain ⟨y104, hy104⟩ : ∃ y_ : List Int, y_ = (x0_1 ++ [(x1_1) % 256]) := ⟨_, rfl⟩
          replace H : (some y104) = some r := by first | (rw [hy104]; with_reducible exact H) | (have H2_ := (Option.bind_some _ _).symm.trans H; rw [hy104]; with_reducible exact H2_) | (have H2_ := (Option.bind_some _ _).symm.trans H; with_reducible exact H2_) | with_reducible exact H | (rw [hy104]; exact H) | exact H
          have Ny104 := Aside0.mk hy104
          clear hy104
          obtain rfl := Option.some.inj H
          go_wp2_with (first | ((with_reducible refine gate_builtin (b := .append) (xs := #[.tmp 15, .tmp 18]) rfl ?_); at_builtin; refine Kd.R_append (Kd.int .u8) (w0 := w0) w0.heap.size rfl (.tmp 15) (.tmp 18) 46 5 (.int .u8 0) 1 rfl Try.underlying46 info5 rfl (by decide) (by omega) u0 x0_1 ((x1_1) % 256) [.int .u8 ((x1_1) % 256)] (fun k_ => (P0_ k_ ∨ w.heap.size ≤ k_)) (fun _ => False) rfl rfl ?aP (fun _ hk => hk.elim) ?aF ?aO ?aB ?aS ?aL ?_; (case aP => exact rfl); (case aB => exact (by repeat (first | (with_reducible first | exact HB.out | apply below_alloc | apply pw_below_drewN | apply below_drew1) | exact HB.out))); (case aF => exact (fun k_ hk => (.inr (Nat.le_trans (by first | exact HK.out.1 | exact (show Kept w _ (fun k_ => P0_ k_) from by repeat (first | (with_reducible first | exact HK.out | apply Kept.alloc | apply Kept.drewN | apply Kept.drew) | exact HK.out)).1) hk)))); (case aO => exact (by (with_reducible repeat (first | apply Kd.R_alloc | apply Kd.R_drewN | apply Kd.R_drew)); exact HO_0.out)); (case aS => exact (below_size (by repeat (first | (with_reducible first | exact HB.out | apply below_alloc | apply pw_below_drewN | apply below_drew1) | exact HB.out)))); (case aL => have := LMc6.out; omega); intro v105 w7 ho hb hg hat; rw [← Ny104.out] at ho; have n0_ := Aside0.mk (hb); have n1_ := Aside0.mk (Kept.of_grown (S := (fun k_ => P0_ k_)) hg (by repeat (first | (with_reducible first | exact HK.out | apply Kept.alloc | apply Kept.drewN | apply Kept.drew) | exact HK.out)) (fun k_ e_ => (HO_0.out.1 k_ e_))); have n2_ := Aside0.mk (ho); clear HB; clear HK; clear HO_0; have HB := n0_; have HK := n1_; have HO106 := n2_; clear n0_ n1_ n2_; clear ho hb hg hat))
          go_ret
          exact ⟨_, by first | rfl | (simp [errW_none, errW_some] <;> rfl) | (simp [*, errW_none, errW_some] <;> rfl), by (with_reducible repeat (first | apply Kd.R_alloc | apply Kd.R_drewN | apply Kd.R_drew)); exact HO106.out, by repeat (first | (with_reducible first | exact HB.out | apply below_alloc | apply pw_below_drewN | apply below_drew1) | exact HB.out), by repeat (first | (with_reducible first | exact HK.out | apply Kept.alloc | apply Kept.drewN | apply Kept.drew) | exact HK.out)⟩
        · rw [if_neg c6] at H
          exact absurd H (by simp)

/-! ### num_Put: function 9 -/
/-- An append that has room, of one new cell behind an address. -/
theorem wpList_append_in {P : Program} (w : World) {ops : Array Oper} {rest : List Oper} {o : Oper} {a : Act} {Q : Exit → Act → World → Prop}
    (hg : o.guard = none) (s x : Operand) (t : TypeId) (hop : o.op = Op.call { callee := Callee.builtin Builtin.append, args := #[s, x], argTypes := #[t, t] })
    (e : TypeId) (i : TypeInfo) (h1 : P.underlying t = some (.slice e)) (h2 : P.info? e = some i) (h4 : i.size = 1)
    (b n cap : Nat) (hs : a.eval s = .slice (some ⟨b, 0, none⟩) n cap)
    (ad : Addr) (c : Nat) (u : Value) (hx : a.eval x = .slice (some ad) 1 c) (hc : w.cell? ad = some u) (h1c : u.oneCell' = true) (hr : n + 1 ≤ cap)
    (hspare : (w.cell? ⟨b, n, none⟩).isSome = true ∧ w.frozen? ⟨b, n, none⟩ = false)
    (hroom : wpList P ops Q rest (a.put o.dst (.slice (some ⟨b, 0, none⟩) (n + 1) cap)) (w.setCell ⟨b, n, none⟩ u)) :
    wpList P ops Q (o :: rest) a w := by
  refine wpList_plain hg fun K hK' => ?_
  have hrun := run_append_room_cells (P := P) w t o.type e i h1 h2 b 0 n cap ad 1 c [u] (by rw [h4]; rfl) (fun j v hj => by
    match j with
    | 0 => simp at hj; subst hj; rw [show ad.add 0 = ad from by unfold Addr.add; split <;> simp_all]; exact hc
    | j + 1 => simp at hj) (by simpa using h1c) hr (fun j hj => by
      obtain rfl : j = 0 := by simpa using hj
      simpa [h4] using hspare.1) (fun j hj => by
      obtain rfl : j = 0 := by simpa using hj
      simpa [h4] using hspare.2)
  rw [h4] at hrun
  simp only [Nat.mul_one, Nat.zero_add, World.setCells] at hrun
  unfold Oper.wp
  simp [execOp, hop, resolve, invoke, builtin, hs, hx, hrun, Result.andThen]
  exact hK' _ _ hroom
/-- Ten bytes at block g, the first ones told. -/
def Room10 (T : TypeId) (g : Nat) (W : World) (xs : List Int) : Prop := ∃ cs : Array Value, W.heap[g]? = some (.cells cs T (0, 0)) ∧ cs.size = 10 ∧ cs.toList.take xs.length = nums .u8 xs
theorem Room10.lt {T : TypeId} {g : Nat} {W : World} {xs : List Int} (h : Room10 T g W xs) : g < W.heap.size := by
  obtain ⟨cs, hb, _⟩ := h
  exact blk_lt hb
theorem Room10.below {T : TypeId} {g : Nat} {W W1 : World} {xs : List Int} (h : Room10 T g W xs) (hb : Below W.heap.size W W1) : Room10 T g W1 xs := by
  obtain ⟨cs, hc, r⟩ := h
  exact ⟨cs, (hb.block g (blk_lt hc)).trans hc, r⟩
theorem Room10.put {T : TypeId} {g : Nat} {W : World} {xs : List Int} (h : Room10 T g W xs) (hl : xs.length < 10) (x : Int) : Room10 T g (W.setCell ⟨g, xs.length, none⟩ (.int .u8 x)) (xs ++ [x]) := by
  obtain ⟨cs, hc, hs, ht⟩ := h
  refine ⟨_, blk_set hc xs.length (.int .u8 x), by simpa using hs, ?_⟩
  rw [Array.toList_setIfInBounds, List.length_append, List.length_singleton, List.take_succ_eq_append_getElem (by simp; omega), List.take_set_of_le (Nat.le_refl _), ht]
  simp [nums]
theorem Room10.spare {T : TypeId} {g : Nat} {W : World} {xs : List Int} (h : Room10 T g W xs) (n : Nat) (hl : n < 10) : (W.cell? ⟨g, n, none⟩).isSome = true ∧ W.frozen? ⟨g, n, none⟩ = false := by
  obtain ⟨cs, hc, hs, ht⟩ := h
  refine ⟨?_, blk_frozen hc _⟩
  rw [blk_cell hc, Array.getElem?_eq_getElem (by omega)]
  rfl
theorem Room10.cells {T : TypeId} {g : Nat} {W : World} {xs : List Int} (h : Room10 T g W xs) : ∀ i, i < xs.length → W.cell? ⟨g, 0 + i, none⟩ = some (.int .u8 (xs.getD i 0)) := by
  obtain ⟨cs, hc, hs, ht⟩ := h
  intro i hi
  rw [Nat.zero_add, blk_cell hc]
  have h1 : (cs.toList.take xs.length)[i]? = (nums .u8 xs)[i]? := by rw [ht]
  rw [List.getElem?_take_of_lt hi, Array.getElem?_toList] at h1
  rw [h1]
  simp [nums, List.getElem?_eq_getElem hi, List.getD_eq_getElem?_getD]
theorem num_Add.longer : ∀ k xs a r, num_Add.l0 k xs a = some r → xs.length < r.length
  | 0, _, _, _, h => by simp [num_Add.l0] at h
  | k + 1, xs, a, r, h => by
    simp only [num_Add.l0] at h
    split at h
    · split at h
      · have := num_Add.longer k _ _ _ h
        simp at this
        omega
      · cases h
    · split at h
      · cases h
        simp
      · cases h
set_option maxHeartbeats 8000000 in
set_option maxRecDepth 100000 in
theorem num_Add.room (k : Nat) (g : Nat) (xs : List Int) (a1 : Int) (r : List Int) (w0 w : World) (hB : Below w0.heap.size w0 w) (hg : w0.heap.size ≤ g) (hR : Room10 45 g w xs) (h : num_Add.f k xs a1 = some r) (hl : r.length ≤ 10) :
    Calls Try.prog 28 #[.slice (some ⟨g, 0, none⟩) xs.length 10, .int .u64 a1] w fun e w' => e = .returned (.slice (some ⟨g, 0, none⟩) r.length 10) ∧ Room10 45 g w' r ∧ Below w0.heap.size w0 w' := by
  have HR := Aside0.mk hR
  have HB := Aside0.mk hB
  have HG := Aside0.mk hg
  have HL := Aside0.mk hl
  clear hB hR hg hl
  have H : (num_Add.l0 k xs a1) = some r := h
  clear h
  have H' := Aside0.mk H
  clear H
  go_enter Try.func28, Try.ntmps28
  go_wp2
  go_loopg [0, 1] k (fun kq v0 v1 w' => ∃ (x0_1 : List Int) (x1_1 : Int), v0 = .slice (some ⟨g, 0, none⟩) x0_1.length 10 ∧ v1 = .int .u64 x1_1 ∧ Aside0 (num_Add.l0 kq x0_1 x1_1 = some r) ∧ Aside0 (kq ≤ k) ∧ Aside0 (Room10 45 g w' x0_1) ∧ Aside0 (Below w0.heap.size w0 w'))
  case atStart => exact ⟨xs, a1, rfl, rfl, H', ⟨Nat.le_refl _⟩, HR, HB⟩
  case round =>
    clear H'
    obtain ⟨x0_1, x1_1, rfl, rfl, HA, HK1, HR, HB⟩ := hrel
    cases gk with
    | zero => exact absurd HA.out (by simp [num_Add.l0])
    | succ k1 =>
      have H := HA.out
      have HN := Aside0.mk (num_Add.longer _ _ _ _ HA.out)
      clear HA
      simp only [num_Add.l0] at H
      by_cases c3 : x1_1 ≥ 128
      · rw [if_pos c3] at H
        have c3b0 : decide (128 ≤ x1_1) = true := decide_eq_true c3
        clear c3
        by_cases c4 : x0_1.length < 140737488355328
        · rw [if_pos c4] at H
          clear c4
          have H' := Aside0.mk H
          clear H
          go_wp2_with (first | ((with_reducible refine gate_builtin (b := .append) (xs := #[.tmp 7, .tmp 11]) rfl ?_); at_builtin; refine wpList_append_in _ rfl (.tmp 7) (.tmp 11) 46 rfl 5 _ Try.underlying46 rfl rfl g x0_1.length 10 rfl _ _ (.int .u8 (Go.bits .or .u8 ((x1_1) % 256) 128)) rfl ?c1 rfl ?c2 ?c3 ?_; (case c1 => exact (blk_cell (heap_alloc_new _ _) 0).trans rfl); (case c2 => have := HN.out; have := HL.out; omega); (case c3 => exact (HR.out.below (below_alloc (Below.refl _ _) _)).spare _ (by have := HN.out; have := HL.out; omega)); have HR' := Aside0.mk ((HR.out.below (below_alloc (Below.refl _ _) (.cells #[.int .u8 (Go.bits .or .u8 ((x1_1) % 256) 128)] 5))).put (by have := HN.out; have := HL.out; omega) (Go.bits .or .u8 ((x1_1) % 256) 128)); have HB' := Aside0.mk ((below_alloc HB.out (.cells #[.int .u8 (Go.bits .or .u8 ((x1_1) % 256) 128)] 5)).setCell (p := ⟨g, x0_1.length, none⟩) HG.out (.int .u8 (Go.bits .or .u8 ((x1_1) % 256) 128))); clear HR HB))
          go_roundg k1
          case measure => have := HK1.out; omega
          case rel => exact ⟨x0_1 ++ [Go.bits .or .u8 ((x1_1) % 256) 128], x1_1 / 128, by first | rfl | (simp; done), rfl, H', ⟨by have := HK1.out; omega⟩, HR', HB'⟩
        · rw [if_neg c4] at H
          exact absurd H (by simp)
      · rw [if_neg c3] at H
        have c3b0 : decide (128 ≤ x1_1) = false := decide_eq_false c3
        clear c3
        by_cases c6 : x0_1.length < 140737488355328
        · rw [if_pos c6] at H
          clear c6
          have hr := Option.some.inj H
          clear H
          have HE := Aside0.mk hr
          clear hr
          go_wp2_with (first | ((with_reducible refine gate_builtin (b := .append) (xs := #[.tmp 15, .tmp 18]) rfl ?_); at_builtin; refine wpList_append_in _ rfl (.tmp 15) (.tmp 18) 46 rfl 5 _ Try.underlying46 rfl rfl g x0_1.length 10 rfl _ _ (.int .u8 ((x1_1) % 256)) rfl ?c1 rfl ?c2 ?c3 ?_; (case c1 => exact (blk_cell (heap_alloc_new _ _) 0).trans rfl); (case c2 => have := HN.out; have := HL.out; omega); (case c3 => exact (HR.out.below (below_alloc (Below.refl _ _) _)).spare _ (by have := HN.out; have := HL.out; omega)); have HR' := Aside0.mk ((HR.out.below (below_alloc (Below.refl _ _) (.cells #[.int .u8 ((x1_1) % 256)] 5))).put (by have := HN.out; have := HL.out; omega) ((x1_1) % 256)); have HB' := Aside0.mk ((below_alloc HB.out (.cells #[.int .u8 ((x1_1) % 256)] 5)).setCell (p := ⟨g, x0_1.length, none⟩) HG.out (.int .u8 ((x1_1) % 256))); clear HR HB))
          go_ret
          have he := HE.out
          subst he
          exact ⟨by simp, HR'.out, HB'.out⟩
        · rw [if_neg c6] at H
          exact absurd H (by simp)
def num_Put.f (k : Nat) (a0 : Int) : Option (ByteArray) := (num_Add.f k [] a0).bind fun l => if l.length ≤ 10 then some (strOfNums l) else none
theorem num_Put.mono : ∀ a0 k, LeO (num_Put.f k a0) (num_Put.f (k + 1) a0) := by
  intro a0 k
  unfold num_Put.f
  repeat' first
      | (with_reducible exact num_Add.mono _ _ _)
      | (with_reducible exact LeO.refl _)
      | (with_reducible exact LeO.none _)
      | (with_reducible refine LeO.ite ?_ ?_)
      | (with_reducible refine LeO.bind ?_ (fun _ => ?_))
      | exact num_Add.mono _ _ _
      | exact LeO.none _
      | refine LeO.ite ?_ ?_
      | refine LeO.bind ?_ (fun _ => ?_)
set_option maxHeartbeats 8000000 in
set_option maxRecDepth 100000 in
theorem num_Put.calls (k : Nat) (a0 : Int) (r : ByteArray) (w : World) (h : num_Put.f k a0 = some r) :
    Calls Try.prog 9 #[.int .u64 a0] w fun e w' => e = .returned (.string r) ∧ Below w.heap.size w w' := by
  have HB := Aside0.mk (Below.refl w.heap.size w)
  have H := Option.bind_eq_some_iff.mp h
  clear h
  obtain ⟨l, hA, hl⟩ := H
  by_cases h10 : l.length ≤ 10
  · rw [if_pos h10] at hl
    have HE := Aside0.mk (Option.some.inj hl)
    have HL := Aside0.mk h10
    have HA := Aside0.mk hA
    clear hl h10 hA
    go_enter Try.func9, Try.ntmps9
    go_wp2_with (first | (go_at_call 28; refine (num_Add.room k w.heap.size [] a0 l w _ (below_alloc (Below.refl _ _) _) (Nat.le_refl _) ⟨_, heap_alloc_new _ _, rfl, rfl⟩ HA.out HL.out).mono ?_; rintro e w5 ⟨rfl, hr, hb⟩; have hcv := run_convert_bytes_arg (P := Try.prog) w5 46 5 Try.underlying46 Try.underlying5 w.heap.size 0 l.length 10 l rfl hr.cells 9 Try.underlying9; have HB5 := Aside0.mk hb; clear hr hb))
    go_ret
    have he := HE.out
    subst he
    exact ⟨rfl, HB5.out⟩
  · rw [if_neg h10] at hl
    exact absurd hl (by simp)


end Go.Proofs.Ytnhkmhpibbmmnaa.Q
