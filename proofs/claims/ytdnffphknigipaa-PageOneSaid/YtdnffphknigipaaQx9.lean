-- Printed by this session's program wip/tools/mp.sh out of the translation.
import Derived.Test.YtdnffphknigipaaQx0
import Derived.Test.YtdnffphknigipaaQx2
namespace Go.Proofs.Ytdnffphknigipaa.Q
open Go.RowKit Go.Proofs.YtdnffphknigipaaW.PrintWords Go.Proofs.YtdnffphknigipaaW.PrintLast Go.Proofs.YtdnffphknigipaaW.PrintMore
attribute [local go_sem] max2_int min2_int max_two min_two max_three min_three max_four min_four   -- for this text's walks alone
set_option linter.unusedVariables false
set_option linter.unusedSimpArgs false

/-! ### page_Split: function 15 -/
open Go.Shelf
attribute [local go_sem] Oper.semAt_some
/-- Three blocks stay. -/
def Keep3 (Bs Bm b : Nat) (W W' : World) : Prop := ∀ q, q = Bs ∨ q = Bm ∨ q = b → W'.heap[q]? = W.heap[q]?
set_option maxRecDepth 100000 in
set_option maxHeartbeats 2000000 in
theorem chunk1_in (n : Nat) (hn : 1 ≤ n) (l Bs Bm b len cap : Nat) (J Jx : List Nat → World → Prop) (hlen : len ≤ 14208) (hcap : len ≤ cap) (hcm : cap ≤ maxLen)
    (hY : ∀ pre x W, J pre W → pre.length < 129 → YieldAt Fence.wide (n - 1) Try.prog l #[.slice (some ⟨b, x * 111, none⟩) (min 111 (len - x * 111)) (min 111 (len - x * 111))] W fun e W' =>
      (e = .returned (.bool true) ∧ J (pre ++ [x]) W' ∧ Keep3 Bs Bm b W W') ∨ (e = .returned (.bool false) ∧ Jx (pre ++ [x]) W'))
    (hJd : ∀ pre W q, J pre W → J pre (W.drewN q)) 
    (W : World) (hBs : W.heap[Bs]? = some (.cells #[.slice (some ⟨b, 0, none⟩) len cap] 45 (0, 0))) (hBm : W.heap[Bm]? = some (.cells #[.int .i64 111] 3 (0, 0))) (h0 : J [] W) :
    CallsIn Fence.wide n Try.prog 28 #[.func (.yield l) #[] #[], .pointer (some ⟨Bs, 0, none⟩), .pointer (some ⟨Bm, 0, none⟩)] W fun e W' => (∃ v, e = .returned v) ∧
      ((∃ ys, ys = List.range ((len + 110) / 111) ∧ J ys W') ∨ (∃ pre, (∃ k, k ≤ (len + 110) / 111 ∧ pre = List.range k) ∧ Jx pre W')) := by
  refine callsIn_of_wp Try.func28 rfl trivial ?_ rfl
  simp only [Try.ntmps28, List.size_toArray, List.length_cons, List.length_nil, Nat.reduceAdd, Nat.reduceSub, Array.replicate_succ, Array.replicate_zero, List.push_toArray, List.append_toArray, List.nil_append, List.cons_append]
  have hBs0 : W.cell? ⟨Bs, 0, none⟩ = some (.slice (some ⟨b, 0, none⟩) len cap) := (blk_cell hBs 0).trans rfl
  have hBm0 : W.cell? ⟨Bm, 0, none⟩ = some (.int .i64 111) := (blk_cell hBm 0).trans rfl
  gi_wp2
  clear hBs0 hBm0
  gi_loopw [4] (fun i wr => ∃ k : Nat, k ≤ (len + 110) / 111 ∧ i = .int .i64 ((k * 111 : Nat) : Int) ∧ J (List.range k) wr ∧ Keep3 Bs Bm b W wr)
    (fun i _ => len + 111 - (intOf i).toNat)
  case atStart => exact ⟨0, Nat.zero_le _, rfl, h0, fun _ _ => rfl⟩
  case round =>
    obtain ⟨k, hk, rfl, hJs, hnx⟩ := hrel
    have hcs : wr.cell? ⟨Bs, 0, none⟩ = some (.slice (some ⟨b, 0, none⟩) len cap) := (blk_cell ((hnx Bs (.inl rfl)).trans hBs) 0).trans rfl
    have hcm : wr.cell? ⟨Bm, 0, none⟩ = some (.int .i64 111) := (blk_cell ((hnx Bm (.inr (.inl rfl))).trans hBm) 0).trans rfl
    by_cases hlt : k * 111 < len
    · obtain ⟨m, hm⟩ : ∃ m : Nat, min 111 (len - k * 111) = m := ⟨_, rfl⟩
      have hme : (if ((len - k * 111 : Nat) : Int) < 111 then ((len - k * 111 : Nat) : Int) else 111) = (m : Int) := by split <;> omega
      have hy0 := fun q => hY _ k (wr.drewN q) (hJd _ _ q hJs) (by rw [List.length_range]; omega)
      rw [hm] at hy0
      have hq1 : (k * 111 : Int) < len := by omega
      have hd : decide ((k : Int) * 111 < (len : Int)) = true := decide_eq_true (by omega)
      have hq2 : ¬ ((k * 111 : Nat) : Int) < 0 := by omega
      gi_wp2
      have hcs1 : ∀ q, (wr.drewN q).cell? ⟨Bs, 0, none⟩ = some (.slice (some ⟨b, 0, none⟩) len cap) := fun _ => hcs
      have hcm1 : ∀ q, (wr.drewN q).cell? ⟨Bm, 0, none⟩ = some (.int .i64 111) := fun _ => hcm
      gi_quiet (fail)
      obtain ⟨fn, tmps, assign, body, hy, hR⟩ := hy0 nq
      have hs1 : ((k : Int) * 111 + (m : Int)).toNat - k * 111 = m := by omega
      have hcs2 := hcs1 nq
      have hcm2 := hcm1 nq
      clear hcs1 hcm1 hy0
      have hnx2 : Keep3 Bs Bm b W (wr.drewN nq) := hnx
      generalize wr.drewN nq = w2 at hcs2 hcm2 hy hR hnx2 ⊢
      gi_wp2
      refine hR.mono ?_
      rintro e W3 (⟨rfl, hJ3, hk3⟩ | ⟨rfl, hJx3⟩)
      · have hcm3 : W3.cell? ⟨Bm, 0, none⟩ = some (.int .i64 111) := (blk_cell (((hk3 Bm (.inr (.inl rfl))).trans (hnx2 Bm (.inr (.inl rfl)))).trans hBm) 0).trans rfl
        clear hy hR hY hs1 hcs2 hcm2
        gi_wp2
        go_roundw
        case rel => exact ⟨k + 1, by omega, by congr 1; push_cast; omega, by rw [List.range_succ]; exact hJ3, fun q hq => (hk3 q hq).trans (hnx2 q hq)⟩
        case measure => simp [intOf]; omega
      · gi_wp2
        refine bodyPost_ret (results_none rfl _ _ _) rfl ?_
        exact ⟨⟨_, rfl⟩, .inr ⟨List.range (k + 1), ⟨k + 1, by omega, rfl⟩, by rw [List.range_succ]; exact hJx3⟩⟩
    · have hd : decide ((k : Int) * 111 < (len : Int)) = false := decide_eq_false (by omega)
      gi_wp2
      go_end0
      have hkk : k = (len + 110) / 111 := by omega
      exact ⟨⟨_, rfl⟩, .inl ⟨_, by rw [hkk], hJs⟩⟩
set_option maxHeartbeats 1000000 in
theorem chunk_in (n : Nat) (len cap b : Nat) (w : World) :
    CallsIn Fence.wide n Try.prog 26 #[.slice (some ⟨b, 0, none⟩) len cap, .int .i64 111] w fun e w' => e = .returned (.func (.func 28) #[] #[.pointer (some ⟨w.heap.size, 0, none⟩), .pointer (some ⟨w.heap.size + 1, 0, none⟩)]) ∧ w' = (w.alloc (.cells #[.slice (some ⟨b, 0, none⟩) len cap] 45)).alloc (.cells #[.int .i64 111] 3) := by
  refine callsIn_of_wp Try.func26 rfl trivial ?_ rfl
  simp only [Try.ntmps26, List.size_toArray, List.length_cons, List.length_nil, Nat.reduceAdd, Nat.reduceSub, Array.replicate_succ, Array.replicate_zero, List.push_toArray, List.append_toArray, List.nil_append, List.cons_append]
  gi_wp2
  go_ret
  exact ⟨rfl, rfl⟩
theorem chunk_stops (n : Nat) (hn : 1 ≤ n) (Bs Bm b len cap : Nat) (hlen : len ≤ 14208) (hcap : len ≤ cap) (hcm : cap ≤ maxLen) (w : World)
    (hBs : w.heap[Bs]? = some (.cells #[.slice (some ⟨b, 0, none⟩) len cap] 45 (0, 0))) (hBm : w.heap[Bm]? = some (.cells #[.int .i64 111] 3 (0, 0))) :
    SeqStopsK Fence.wide n Try.prog 28 #[.pointer (some ⟨Bs, 0, none⟩), .pointer (some ⟨Bm, 0, none⟩)] (fun x : Nat => #[.slice (some ⟨b, x * 111, none⟩) (min 111 (len - x * 111)) (min 111 (len - x * 111))]) (Keep3 Bs Bm b) (fun ys => ys = List.range ((len + 110) / 111)) (fun pre => ∃ k, k ≤ (len + 110) / 111 ∧ pre = List.range k) 129 w :=
  fun l J Jx W hW hJ _ hY h0 => chunk1_in n hn l Bs Bm b len cap J Jx hlen hcap hcm hY (fun pre W q h => hJ _ _ _ none h ⟨rfl, rfl, rfl, Nat.le_refl _, fun _ _ _ => rfl⟩ (fun _ e => by cases e)) W (blk_below hBs hW) (blk_below hBm hW) h0
def piece (s : ByteArray) (x : Nat) : ByteArray := s.extract (x * 111) (x * 111 + min 111 (s.size - x * 111))
/-- The pages of the pieces that came. -/
def outs (a0 : Int) (a1 : ByteArray) (pre : List Nat) : List ByteArray := (List.range pre.length).map fun (i : Nat) => strOfNums (page_bytes (a0 + i) (piece a1 (pre.getD i 0)))
theorem outs_length (a0 : Int) (a1 : ByteArray) (pre : List Nat) : (outs a0 a1 pre).length = pre.length := by simp [outs]
theorem outs_range (a0 : Int) (a1 : ByteArray) (n : Nat) : outs a0 a1 (List.range n) = (List.range n).map (fun (i : Nat) => strOfNums (page_bytes (a0 + i) (piece a1 i))) := by
  unfold outs
  rw [List.length_range]
  apply List.map_congr_left
  intro i hi
  have : i < n := by simpa using hi
  simp [List.getD_eq_getElem?_getD, this]
theorem outs_snoc (a0 : Int) (a1 : ByteArray) (pre : List Nat) (x : Nat) : outs a0 a1 (pre ++ [x]) = outs a0 a1 pre ++ [strOfNums (page_bytes (a0 + pre.length) (piece a1 x))] := by
  unfold outs
  rw [List.length_append, List.length_singleton, List.range_succ, List.map_append]
  congr 1
  · apply List.map_congr_left
    intro i hi
    have : i < pre.length := by simpa using hi
    simp [List.getD_eq_getElem?_getD, List.getElem?_append_left this]
  · simp [List.getD_eq_getElem?_getD]
theorem kept_blk {W W' : World} {row : Option Nat} {N B t : Nat} {cs : Array Value} {fr : Nat × Nat} (h : W.heap[B]? = some (.cells cs t fr)) (hg : W.grownBy W' row) (hr : ∀ r, row = some r → N ≤ r ∧ ∃ o : Obj, W.heap[r]? = some o ∧ o.isCells = false) : W'.heap[B]? = some (.cells cs t fr) :=
  (hg.block B (blk_lt h) (fun e => by
    obtain ⟨_, o, ho, hc⟩ := hr B e.symm
    rw [h] at ho
    cases ho
    cases hc)).trans h
theorem kept_row {W W' : World} {row : Option Nat} {N base e n : Nat} {v : Value} {xs : List Value} (h : W.ownsRow base e 1 v n xs) (hg : W.grownBy W' row) (hr : ∀ r, row = some r → N ≤ r ∧ ∃ o : Obj, W.heap[r]? = some o ∧ o.isCells = false) : W'.ownsRow base e 1 v n xs := by
  refine h.kept hg ?_
  rcases h.2 with ⟨rfl, _⟩ | ⟨g, cap, cur, rfl, _, hgb, _⟩
  · exact .inl rfl
  · refine .inr fun e' => ?_
    obtain ⟨_, o, ho, hc⟩ := hr g (by simpa [Value.ownBlock] using e'.symm)
    rw [hgb] at ho; cases ho; cases hc
theorem blk_not_row {W : World} {B t e base size k : Nat} {cs : Array Value} {fr : Nat × Nat} (h : W.heap[B]? = some (.cells cs t fr)) (hte : t ≠ e) {v : Value} {xs : List Value} (hr : W.ownsRow base e size v k xs) : some B ≠ v.ownBlock := by
  rcases hr.2 with ⟨rfl, _⟩ | ⟨g, cap, cur, rfl, _, hgb, _⟩
  · simp [Value.ownBlock]
  · intro e'
    obtain rfl : B = g := by simpa [Value.ownBlock] using e'
    have := h.symm.trans hgb
    simp at this
    exact hte this.2.1
theorem info9s : (Try.prog.info? 9).map (fun i => (i.zero, i.size, i.bytes)) = some (some (.string ⟨#[]⟩), 1, 16) := by kernel_rfl
theorem split_fin (a0 : Int) (v2 : Int) (w : World) : (((w.alloc (.cells #[.int .u64 a0] 22)).alloc (.cells #[.slice none 0 0] 31)).alloc (.cells #[.int .i64 v2] 23)).cell? ⟨w.heap.size + 1, 0, none⟩ = some (.slice none 0 0) ∧
    (((w.alloc (.cells #[.int .u64 a0] 22)).alloc (.cells #[.slice none 0 0] 31)).alloc (.cells #[.int .i64 v2] 23)).cell? ⟨w.heap.size + 1 + 1, 0, none⟩ = some (.int .i64 v2) ∧
    Below w.heap.size w (((w.alloc (.cells #[.int .u64 a0] 22)).alloc (.cells #[.slice none 0 0] 31)).alloc (.cells #[.int .i64 v2] 23)) := by
  refine ⟨?_, ?_, below_alloc (below_alloc (below_alloc (Below.refl _ w) _) _) _⟩
  · have := Boxed.new (w.alloc (.cells #[.int .u64 a0] 22)) 31 (.slice none 0 0)
    rw [World.size_alloc] at this
    exact (this.alloc _).cell
  · have := Boxed.new ((w.alloc (.cells #[.int .u64 a0] 22)).alloc (.cells #[.slice none 0 0] 31)) 23 (.int .i64 v2)
    rw [World.size_alloc, World.size_alloc] at this
    exact this.cell
theorem str_bytes (s : ByteArray) : strOfNums (bytesOf s) = s := by
  apply ByteArray.ext
  apply Array.toList_inj.mp
  rw [strOfNums_data, bytesOf, List.map_map]
  have : ((fun n : Int => UInt8.ofNat n.toNat) ∘ fun b : UInt8 => (b.toNat : Int)) = id := by
    funext b
    simp
  rw [this, List.map_id]
theorem piece_at (s : ByteArray) (x m i : Nat) (hm : min 111 (s.size - x * 111) = m) (hi : i < m) : ((s.data.toList.getD (x * 111 + i) 0).toNat : Int) = (bytesOf (piece s x)).getD i 0 := by
  have hl : (piece s x).size = m := by simp [piece]; omega
  have h1 : x * 111 + i < s.data.size := by show _ < s.size; omega
  have h2 : i < (piece s x).data.toList.length := by rw [data_length]; omega
  simp only [bytesOf, List.getD_eq_getElem?_getD, List.getElem?_map]
  rw [List.getElem?_eq_getElem h2, List.getElem?_eq_getElem (by simpa using h1)]
  simp [piece, ByteArray.data_extract]
theorem res_split (tmps : Array Value) (w : World) (g g' : Nat) (v v' : Value) (hp : tmps.getD 4 undef = .pointer (some ⟨g, 0, none⟩)) (hp' : tmps.getD 5 undef = .pointer (some ⟨g', 0, none⟩))
    (hc : w.cell? ⟨g, 0, none⟩ = some v) (hc' : w.cell? ⟨g', 0, none⟩ = some v') : (results Try.f15 tmps).run Try.prog w = .ok (.tuple #[v, v']) w := by
  have h : Try.f15.results = #[.cell 4 31, .cell 5 23] := rfl
  have h1 : tmps[4]?.getD undef = .pointer (some ⟨g, 0, none⟩) := by simpa using hp
  have h2 : tmps[5]?.getD undef = .pointer (some ⟨g', 0, none⟩) := by simpa using hp'
  simp [results, h, h1, h2, asAddr, loadVar, isAgg, run_underlying Try.underlying31, run_underlying Try.underlying23, hc, hc', Result.andThen]
def page_Split.f (a0 : Int) (a1 : ByteArray) : Option (List ByteArray × Int) :=
  if a0 = 0 then some ([], 1) else if a0 > 4611686018427387904 then some ([], 1) else if (a1.size : Int) > 14208 then some ([], 11) else if 0 ≤ a0 then some ((List.range ((a1.size + 110) / 111)).map (fun (i : Nat) => strOfNums (page_bytes (a0 + i) (piece a1 i))), 0) else none
set_option maxRecDepth 100000 in
set_option maxHeartbeats 4000000 in
theorem page_Split.walk (a0 : Int) (a1 : ByteArray) (w : World) (r1 : List ByteArray) (r2 : Int) (h : page_Split.f a0 a1 = some (r1, r2)) :
    Calls Try.prog 15 #[.int .u64 a0, .string a1] w fun e w' => ∃ v0_ : Value, e = .returned (.tuple #[v0_, .int .i64 r2]) ∧ w'.ownsRow w.heap.size 9 1 v0_ r1.length (encs Value.string r1) ∧ Below w.heap.size w w' := by
  refine (callsIn_wide (n := 4)).1 ?_
  unfold page_Split.f at h
  by_cases c1 : a0 = 0
  · rw [if_pos c1] at h
    simp only [Option.some.injEq, Prod.mk.injEq] at h
    obtain ⟨rfl, rfl⟩ := h
    subst c1
    refine callsIn_of_wp_marks Try.func15 rfl trivial ?_ rfl
    simp only [Try.ntmps15, List.size_toArray, List.length_cons, List.length_nil, Nat.reduceAdd, Nat.reduceSub, Array.replicate_succ, Array.replicate_zero, List.push_toArray, List.append_toArray, List.nil_append, List.cons_append]
    gi_wp2
    exact ⟨_, res_split _ _ (w.heap.size + 1) (w.heap.size + 1 + 1) (.slice none 0 0) (.int .i64 1) rfl rfl (split_fin _ _ w).1 (split_fin _ _ w).2.1, _, rfl, World.ownsRow_nil _ _ _ _, (split_fin _ _ w).2.2⟩
  · rw [if_neg c1] at h
    have c1b : (a0 == 0) = false := by simpa using c1
    by_cases c2 : a0 > 4611686018427387904
    · rw [if_pos c2] at h
      simp only [Option.some.injEq, Prod.mk.injEq] at h
      obtain ⟨rfl, rfl⟩ := h
      have c2b : decide (4611686018427387904 < a0) = true := decide_eq_true c2
      refine callsIn_of_wp_marks Try.func15 rfl trivial ?_ rfl
      simp only [Try.ntmps15, List.size_toArray, List.length_cons, List.length_nil, Nat.reduceAdd, Nat.reduceSub, Array.replicate_succ, Array.replicate_zero, List.push_toArray, List.append_toArray, List.nil_append, List.cons_append]
      gi_wp2
      exact ⟨_, res_split _ _ (w.heap.size + 1) (w.heap.size + 1 + 1) (.slice none 0 0) (.int .i64 1) rfl rfl (split_fin _ _ w).1 (split_fin _ _ w).2.1, _, rfl, World.ownsRow_nil _ _ _ _, (split_fin _ _ w).2.2⟩
    · rw [if_neg c2] at h
      have c2b : decide (4611686018427387904 < a0) = false := decide_eq_false c2
      by_cases c3 : (a1.size : Int) > 14208
      · rw [if_pos c3] at h
        simp only [Option.some.injEq, Prod.mk.injEq] at h
        obtain ⟨rfl, rfl⟩ := h
        have c3b : decide (14208 < (a1.size : Int)) = true := decide_eq_true c3
        refine callsIn_of_wp_marks Try.func15 rfl trivial ?_ rfl
        simp only [Try.ntmps15, List.size_toArray, List.length_cons, List.length_nil, Nat.reduceAdd, Nat.reduceSub, Array.replicate_succ, Array.replicate_zero, List.push_toArray, List.append_toArray, List.nil_append, List.cons_append]
        gi_wp2
        exact ⟨_, res_split _ _ (w.heap.size + 1) (w.heap.size + 1 + 1) (.slice none 0 0) (.int .i64 11) rfl rfl (split_fin _ _ w).1 (split_fin _ _ w).2.1, _, rfl, World.ownsRow_nil _ _ _ _, (split_fin _ _ w).2.2⟩
      · rw [if_neg c3] at h
        by_cases c4 : 0 ≤ a0
        · rw [if_pos c4] at h
          simp only [Option.some.injEq, Prod.mk.injEq] at h
          obtain ⟨hr, rfl⟩ := h
          refine callsIn_of_wp_marks Try.func15 rfl trivial ?_ rfl
          simp only [Try.ntmps15, List.size_toArray, List.length_cons, List.length_nil, Nat.reduceAdd, Nat.reduceSub, Array.replicate_succ, Array.replicate_zero, List.push_toArray, List.append_toArray, List.nil_append, List.cons_append]
          have hconv : ∀ W, (Go.convert 9 45 (.string a1)).run Try.prog W = .ok (.slice (some ⟨W.heap.size, 0, none⟩) a1.size (grownCap W a1.size 0 5)) (Lib.bytesWorld W 5 a1) := fun W => Go.Lib.run_convert_string_bytes W 9 45 5 a1 Try.underlying9 Try.underlying45 Try.underlying5
          gi_wp2
          refine ⟨trivial, ?_⟩
          have t0 : Boxed ((((w.alloc (.cells #[.int .u64 a0] 22)).alloc (.cells #[.slice none 0 0] 31)).alloc (.cells #[.int .i64 0] 23)).alloc (.cells #[.slice none 0 0] 31)) w.heap.size 22 (.int .u64 a0) := (((Boxed.new w 22 (.int .u64 a0)).alloc _).alloc _).alloc _
          have r10 : Boxed ((((w.alloc (.cells #[.int .u64 a0] 22)).alloc (.cells #[.slice none 0 0] 31)).alloc (.cells #[.int .i64 0] 23)).alloc (.cells #[.slice none 0 0] 31)) (w.heap.size + 1) 31 (.slice none 0 0) := by
            have := Boxed.new (w.alloc (.cells #[.int .u64 a0] 22)) 31 (.slice none 0 0)
            rw [World.size_alloc] at this
            exact (this.alloc _).alloc _
          have r20 : Boxed ((((w.alloc (.cells #[.int .u64 a0] 22)).alloc (.cells #[.slice none 0 0] 31)).alloc (.cells #[.int .i64 0] 23)).alloc (.cells #[.slice none 0 0] 31)) (w.heap.size + 1 + 1) 23 (.int .i64 0) := by
            have := Boxed.new ((w.alloc (.cells #[.int .u64 a0] 22)).alloc (.cells #[.slice none 0 0] 31)) 23 (.int .i64 0)
            rw [World.size_alloc, World.size_alloc] at this
            exact this.alloc _
          have o0 : Boxed ((((w.alloc (.cells #[.int .u64 a0] 22)).alloc (.cells #[.slice none 0 0] 31)).alloc (.cells #[.int .i64 0] 23)).alloc (.cells #[.slice none 0 0] 31)) (w.heap.size + 1 + 1 + 1) 31 (.slice none 0 0) := by
            have := Boxed.new (((w.alloc (.cells #[.int .u64 a0] 22)).alloc (.cells #[.slice none 0 0] 31)).alloc (.cells #[.int .i64 0] 23)) 31 (.slice none 0 0)
            rw [World.size_alloc, World.size_alloc, World.size_alloc] at this
            exact this
          have hsz : ((((w.alloc (.cells #[.int .u64 a0] 22)).alloc (.cells #[.slice none 0 0] 31)).alloc (.cells #[.int .i64 0] 23)).alloc (.cells #[.slice none 0 0] 31)).heap.size = w.heap.size + 1 + 1 + 1 + 1 := by simp
          have hb4 : Below w.heap.size w ((((w.alloc (.cells #[.int .u64 a0] 22)).alloc (.cells #[.slice none 0 0] 31)).alloc (.cells #[.int .i64 0] 23)).alloc (.cells #[.slice none 0 0] 31)) := below_alloc (below_alloc (below_alloc (below_alloc (Below.refl _ w) _) _) _) _
          generalize ((((w.alloc (.cells #[.int .u64 a0] 22)).alloc (.cells #[.slice none 0 0] 31)).alloc (.cells #[.int .i64 0] 23)).alloc (.cells #[.slice none 0 0] 31)) = W4 at t0 r10 r20 o0 hsz hb4 ⊢
          rw [← hsz]
          refine (chunk_in _ _ _ _ _).mono ?_
          rintro e w' ⟨rfl, rfl⟩
          have hbs5 : (Lib.bytesWorld W4 5 a1).heap.size = W4.heap.size + 1 := Lib.bytesWorld_size _ _ _
          have hbw : Below W4.heap.size W4 (Lib.bytesWorld W4 5 a1) := ⟨rfl, rfl, rfl, by omega, fun k hk => Lib.bytesWorld_at_old W4 5 a1 k hk⟩
          have t1 := blk_below t0 hbw
          have r11 := blk_below r10 hbw
          have r21 := blk_below r20 hbw
          have o1 := blk_below o0 hbw
          have d1 := Lib.bytesWorld_at_new W4 5 a1
          have dc : ∀ j, j < a1.size → (Lib.bytesCells W4 5 a1)[j]? = some (.int .u8 (a1.data.toList.getD j 0).toNat) := fun j hj => by
            rw [← Lib.bytesWorld_cell W4 5 a1 j hj]
            exact (cell_of_row _ _ _ _ _ _ d1).symm
          have hb5 := below_step hb4 hbw
          have hcap := grownCap_ge W4 a1.size 0 5
          have hcm := grownCap_le_maxLen W4 a1.size 0 5 (by unfold maxLen; omega)
          generalize grownCap W4 a1.size 0 5 = cap at hcap hcm ⊢
          generalize Lib.bytesWorld W4 5 a1 = W5 at t1 r11 r21 o1 d1 hbs5 hb5 ⊢
          generalize Lib.bytesCells W4 5 a1 = dcs at d1 dc
          have HSZ := Aside0.mk hsz
          have HBS := Aside0.mk hbs5
          clear hsz hbs5
          gi_wp2
          have bs2 : ((W5.alloc (.cells #[.slice (some ⟨W4.heap.size, 0, none⟩) a1.size cap] 45)).alloc (.cells #[.int .i64 111] 3)).heap[W5.heap.size]? = some (.cells #[.slice (some ⟨W4.heap.size, 0, none⟩) a1.size cap] 45 (0, 0)) := blk_alloc (heap_alloc_new W5 _) _
          have bm2 : ((W5.alloc (.cells #[.slice (some ⟨W4.heap.size, 0, none⟩) a1.size cap] 45)).alloc (.cells #[.int .i64 111] 3)).heap[W5.heap.size + 1]? = some (.cells #[.int .i64 111] 3 (0, 0)) := by
            have := heap_alloc_new (W5.alloc (.cells #[.slice (some ⟨W4.heap.size, 0, none⟩) a1.size cap] 45)) (.cells #[.int .i64 111] 3)
            rw [World.size_alloc] at this
            exact this
          have t2 := blk_alloc (blk_alloc t1 (.cells #[.slice (some ⟨W4.heap.size, 0, none⟩) a1.size cap] 45)) (.cells #[.int .i64 111] 3)
          have r12 := blk_alloc (blk_alloc r11 (.cells #[.slice (some ⟨W4.heap.size, 0, none⟩) a1.size cap] 45)) (.cells #[.int .i64 111] 3)
          have r22 := blk_alloc (blk_alloc r21 (.cells #[.slice (some ⟨W4.heap.size, 0, none⟩) a1.size cap] 45)) (.cells #[.int .i64 111] 3)
          have o2 := blk_alloc (blk_alloc o1 (.cells #[.slice (some ⟨W4.heap.size, 0, none⟩) a1.size cap] 45)) (.cells #[.int .i64 111] 3)
          have d2 := blk_alloc (blk_alloc d1 (.cells #[.slice (some ⟨W4.heap.size, 0, none⟩) a1.size cap] 45)) (.cells #[.int .i64 111] 3)
          have hsz6 : ((W5.alloc (.cells #[.slice (some ⟨W4.heap.size, 0, none⟩) a1.size cap] 45)).alloc (.cells #[.int .i64 111] 3)).heap.size = W5.heap.size + 1 + 1 := by simp
          have hb6 : Below w.heap.size w ((W5.alloc (.cells #[.slice (some ⟨W4.heap.size, 0, none⟩) a1.size cap] 45)).alloc (.cells #[.int .i64 111] 3)) := below_alloc (below_alloc hb5 _) _
          generalize ((W5.alloc (.cells #[.slice (some ⟨W4.heap.size, 0, none⟩) a1.size cap] 45)).alloc (.cells #[.int .i64 111] 3)) = W6 at t2 r12 r22 o2 d2 bs2 bm2 hsz6 hb6 ⊢
          clear t0 r10 r20 o0 hb4 t1 r11 r21 o1 d1 hb5 hconv hbw
          have hsz := HSZ.out
          have hbs5 := HBS.out
          clear HSZ HBS
          generalize W4.heap.size = bD at *
          generalize W5.heap.size = bS at *
          generalize ((dcs.size, dcs.size + 1) : Nat × Nat) = fr at d2
          have HSZ := Aside0.mk hsz
          have HBS := Aside0.mk hbs5
          have H66 := Aside0.mk hsz6
          clear hsz hbs5 hsz6
          obtain ⟨i0, hi, hz0, hz1, hz2⟩ := info_parts info9s
          refine wpIn_rangeFunc_ownF rfl (by omega) (gf := 28) (lb := #[.pointer (some ⟨bS, 0, none⟩), .pointer (some ⟨bS + 1, 0, none⟩)]) rfl trivial (enters_of Try.func28 (by kernel_rfl) rfl)
            (chunk_stops 3 (by omega) bS (bS + 1) bD a1.size cap (by omega) hcap hcm W6 bs2 bm2) (fun h k q hq => (k q hq).trans (h q hq)) (fun W l o o' hl h1 h2 h3 q hq => World.putObj_heap_other (by have := HSZ.out; have := HBS.out; have := H66.out; omega)) (Below.refl _ _) (fun _ => rfl)
            (fun pre W => (∃ v, Boxed W (w.heap.size + 1 + 1 + 1) 31 v ∧ W.ownsRow w.heap.size 9 1 v pre.length (encs Value.string (outs a0 a1 pre))) ∧ Boxed W w.heap.size 22 (.int .u64 (a0 + pre.length)) ∧ Boxed W (w.heap.size + 1) 31 (.slice none 0 0) ∧ Boxed W (w.heap.size + 1 + 1) 23 (.int .i64 0) ∧ W.heap[bS]? = some (.cells #[.slice (some ⟨bD, 0, none⟩) a1.size cap] 45 (0, 0)) ∧ W.heap[bS + 1]? = some (.cells #[.int .i64 111] 3 (0, 0)) ∧ W.heap[bD]? = some (.cells dcs 5 fr) ∧ Below w.heap.size w W)
            (fun _ _ _ => False)
            (fun s A B row ⟨⟨v, h1, h2⟩, h3, h4, h5, h6, h7, h8, h9⟩ hg hr => ⟨⟨v, kept_blk h1 hg hr, kept_row h2 hg hr⟩, kept_blk h3 hg hr, kept_blk h4 hg hr, kept_blk h5 hg hr, kept_blk h6 hg hr, kept_blk h7 hg hr, kept_blk h8 hg hr, h9.grown hg h9.size (fun k e => by have := (hr k e).1; have := HSZ.out; have := HBS.out; have := H66.out; omega)⟩)
            (fun _ _ _ _ _ hs _ _ => hs)
            ⟨⟨_, o2, World.ownsRow_nil _ _ _ _⟩, by simpa [Boxed] using t2, r12, r22, bs2, bm2, d2, hb6⟩
            (fun x => { tmps := #[.int .u64 a0, .string a1, .pointer (some ⟨w.heap.size, 0, none⟩), undef, .pointer (some ⟨w.heap.size + 1, 0, none⟩), .pointer (some ⟨w.heap.size + 1 + 1, 0, none⟩), .pointer (some ⟨w.heap.size + 1 + 1 + 1, 0, none⟩), .slice (some ⟨bD, x * 111, none⟩) (min 111 (a1.size - x * 111)) (min 111 (a1.size - x * 111)), undef, undef, .bool false, .int .u64 a0, .bool false, .bool false, .int .u64 a0, .bool false, .bool false, .bool false, .string a1, .int .i64 a1.size, .bool false, .string a1, .slice (some ⟨bD, 0, none⟩) a1.size cap, .func (.func 28) #[] #[.pointer (some ⟨bS, 0, none⟩), .pointer (some ⟨bS + 1, 0, none⟩)], .slice (some ⟨bD, x * 111, none⟩) (min 111 (a1.size - x * 111)) (min 111 (a1.size - x * 111)), undef, undef, undef, undef, undef, undef, undef, undef, undef, undef, undef, undef, undef, undef, undef, undef, undef], defers := [] }) ?assign ?body ?done ?stop
          case assign =>
            intro l x W K hK
            gi_wp2
            exact hK
          case body =>
            rintro l pre x W ⟨⟨v, hv, hrow⟩, ht, h4, h5, h6, h7, h8, h9⟩ hlt
            obtain ⟨m, hm⟩ : ∃ m : Nat, min 111 (a1.size - x * 111) = m := ⟨_, rfl⟩
            rw [hm]
            have hc := hv.cell
            have htc := ht.cell
            have htf := ht.frozen
            have hps : (piece a1 x).size = m := by simp [piece]; omega
            have hcv := run_convert_bytes_arg (P := Try.prog) W 45 5 Try.underlying45 Try.underlying5 bD (x * 111) m m (bytesOf (piece a1 x)) (by rw [bytesOf_length, hps]) (fun i hi => by
              rw [cell_of_row _ _ _ _ _ _ h8, dc _ (by omega), piece_at a1 x m i hm hi]) 9 Try.underlying9
            have hput : page_Put.f (a0 + pre.length) (piece a1 x) = some (strOfNums (page_bytes (a0 + pre.length) (piece a1 x)), 0) := by
              unfold page_Put.f
              rw [if_neg (by omega), if_neg (by omega), if_pos (by omega)]
            obtain ⟨page, hpg⟩ : ∃ page, strOfNums (page_bytes (a0 + pre.length) (piece a1 x)) = page := ⟨_, rfl⟩
            rw [hpg] at hput
            have HPG := Aside0.mk hpg
            clear hpg
            have hsb : strOfNums (bytesOf (piece a1 x)) = piece a1 x := str_bytes _
            rw [hsb] at hcv
            gi_wp2
            refine ⟨trivial, ?_⟩
            refine (CallsIn.inRound l (callsIn_wide.2 (page_Put.calls _ _ _ _ W hput))).mono ?_
            rintro e W7 ⟨rfl, hb7⟩
            have hv7 : Boxed W7 (w.heap.size + 1 + 1 + 1) 31 v := blk_below hv hb7
            have hrow7 : W7.ownsRow w.heap.size 9 1 v pre.length (encs Value.string (outs a0 a1 pre)) := pw_own_below hrow hb7
            have ht7 : Boxed W7 w.heap.size 22 (.int .u64 (a0 + pre.length)) := blk_below ht hb7
            have HB7 := Aside0.mk hb7
            have hsz7 : w.heap.size ≤ W7.heap.size := Nat.le_trans h9.size hb7.size
            have hsz70 := ht7.lt
            clear hb7 hc htc htf hcv hput
            have hc := hv7.cell
            gi_wp2_with (gi_at_builtin; refine wpListIn_append_own _ rfl _ _ 31 rfl w.heap.size 9 i0 (.string ⟨#[]⟩) 1 16 Try.underlying31 hi hz0 hz1 hz2 rfl (by decide) _ _ _ rfl (hrow7.alloc _) ⟨W7.heap.size, 0, none⟩ 1 1 [.string page] rfl rfl (cell_one_new _ _ _) (by simp [Value.oneCell']) (by unfold maxLen; omega) (by omega) (by simp; omega) ?_; intro v' w1 hown' hgrow _; obtain ⟨g', cap', rfl⟩ := ownsRow_succ hown'; obtain ⟨hv1, hv2, hr2, hk2, hb2⟩ := hv7.appended (by decide) hrow7 hsz7 (by omega) hown' hgrow; have hc1 := hv1.cell; have hf1 := hv1.frozen; have ht1 : Boxed w1 w.heap.size 22 (.int .u64 (a0 + pre.length)) := (ht7.alloc _).kept hgrow (ht7.not_row (by decide) hrow7); have htc := ht1.cell; have htf := ht1.frozen)
            have kp : ∀ {k t : Nat} {cs : Array Value} {fr : Nat × Nat}, W.heap[k]? = some (.cells cs t fr) → t ≠ 9 → k ≠ w.heap.size + 1 + 1 + 1 → k ≠ w.heap.size → ((w1.setCell ⟨w.heap.size + 1 + 1 + 1, 0, none⟩ (.slice (some ⟨g', 0, none⟩) (pre.length + 1) cap')).setCell ⟨w.heap.size, 0, none⟩ (.int .u64 (a0 + (pre.length : Int) + 1))).heap[k]? = some (.cells cs t fr) := by
              intro k t cs fr hk h9' hn1 hn2
              have hk7 := blk_below hk HB7.out
              refine (Below.heap_setCell _ _ _ k hn2).trans ((Below.heap_setCell _ _ _ k hn1).trans ?_)
              exact (hgrow.block k (by rw [World.size_alloc]; have := blk_lt hk7; omega) (blk_not_row hk7 h9' hrow7)).trans (blk_alloc hk7 _)
            have e1 : encs Value.string (outs a0 a1 (pre ++ [x])) = encs Value.string (outs a0 a1 pre) ++ [.string page] := by
              rw [outs_snoc, HPG.out]
              simp [encs]
            have hko : KeepsOthers W W7 := KeepsOthers.of_grownBy (row := none) ⟨HB7.out.os, HB7.out.tape, HB7.out.output, HB7.out.size, fun k hk _ => HB7.out.block k hk⟩ (fun j o e _ => by cases e)
            have hs5 := HBS.out
            have hs4 := HSZ.out
            refine ⟨(hko.trans hk2).trans (KeepsOthers.setCell _ _ _), fun q hq => ?_, ⟨.slice (some ⟨g', 0, none⟩) (pre.length + 1) cap', ?_, ?_⟩, ?_, kp h4 (by decide) (by omega) (by omega), kp h5 (by decide) (by omega) (by omega), kp h6 (by decide) (by omega) (by omega), kp h7 (by decide) (by omega) (by omega), kp h8 (by decide) (by omega) (by omega), ?_⟩
            · rcases hq with rfl | rfl | rfl
              · exact (kp h6 (by decide) (by omega) (by omega)).trans h6.symm
              · exact (kp h7 (by decide) (by omega) (by omega)).trans h7.symm
              · exact (kp h8 (by decide) (by omega) (by omega)).trans h8.symm
            · exact blk_far hv2 (p := ⟨w.heap.size, 0, none⟩) (by simp; omega) _
            · rw [e1, List.length_append, List.length_singleton]
              exact hr2.kept (grownBy_setCell' _ _ _) (.inr (fun e => blk_not_row (blk_far ht1 (p := ⟨w.heap.size + 1 + 1 + 1, 0, none⟩) (by simp; omega) _) (by decide) hr2 e.symm))
            · have e2 : a0 + (pre.length : Int) + 1 = a0 + ((pre ++ [x]).length : Int) := by simp; omega
              rw [← e2]
              exact Boxed.set _ (blk_far ht1 (p := ⟨w.heap.size + 1 + 1 + 1, 0, none⟩) (by simp; omega) _)
            · exact ((below_step h9 HB7.out).trans hb2).setCell (p := ⟨w.heap.size, 0, none⟩) (Nat.le_refl _) _
          case done =>
            rintro D ys W hD rfl ⟨⟨v, hv, hrow⟩, ht, h4, h5, h6, h7, h8, h9⟩ hK
            obtain ⟨vA, vn, vc, rfl⟩ : ∃ A n c, v = .slice A n c := by
              rcases hrow.2 with ⟨rfl, _⟩ | ⟨g, cap, cur, rfl, _⟩
              · exact ⟨_, _, _, rfl⟩
              · exact ⟨_, _, _, rfl⟩
            have hc := hv.cell
            have hc4 := h4.cell
            have hf4 := h4.frozen
            have hc5 := h5.cell
            have hf5 := h5.frozen
            gi_wp2
            refine ⟨by simp, .inl ⟨_, _, rfl, run_takeDeferred (((KeepsOthers.setCell _ _ _).trans (KeepsOthers.setCell _ _ _)).same D _ hK rfl), ?_⟩⟩
            have hDn : w.heap.size + 1 + 1 < D := by have := HSZ.out; have := HBS.out; have := H66.out; omega
            have hr2 : Boxed ((W.setCell ⟨w.heap.size + 1, 0, none⟩ (.slice vA vn vc)).setCell ⟨w.heap.size + 1 + 1, 0, none⟩ (.int .i64 0)) (w.heap.size + 1 + 1) 23 (.int .i64 0) := Boxed.set _ (blk_far h5 (p := ⟨w.heap.size + 1, 0, none⟩) (by simp) _)
            have hr1 : Boxed ((W.setCell ⟨w.heap.size + 1, 0, none⟩ (.slice vA vn vc)).setCell ⟨w.heap.size + 1 + 1, 0, none⟩ (.int .i64 0)) (w.heap.size + 1) 31 (.slice vA vn vc) := blk_far (Boxed.set _ h4) (p := ⟨w.heap.size + 1 + 1, 0, none⟩) (by simp) _
            have hKD := ((KeepsOthers.setCell W ⟨w.heap.size + 1, 0, none⟩ (.slice vA vn vc)).trans (KeepsOthers.setCell _ ⟨w.heap.size + 1 + 1, 0, none⟩ (.int .i64 0))).same D _ hK rfl
            have hbW := (h9.setCell (p := ⟨w.heap.size + 1, 0, none⟩) (Nat.le_succ _) (.slice vA vn vc)).setCell (p := ⟨w.heap.size + 1 + 1, 0, none⟩) (by simp; omega) (.int .i64 0)
            have hrow2 := (hrow.kept (grownBy_setCell' W (w.heap.size + 1) (.slice vA vn vc)) (.inr (fun e => blk_not_row h4 (by decide) hrow e.symm)))
            have hrow3 := hrow2.kept (grownBy_setCell' _ (w.heap.size + 1 + 1) (.int .i64 0)) (.inr (fun e => blk_not_row (blk_far h5 (p := ⟨w.heap.size + 1, 0, none⟩) (by simp) _) (by decide) hrow2 e.symm))
            refine ⟨_, res_split _ _ (w.heap.size + 1) (w.heap.size + 1 + 1) (.slice vA vn vc) (.int .i64 0) rfl rfl ?_ ?_, _, rfl, ?_, ?_⟩
            · exact (blk_cell ((World.putObj_heap_other (by omega)).trans hr1) 0).trans rfl
            · exact (blk_cell ((World.putObj_heap_other (by omega)).trans hr2) 0).trans rfl
            · have e := ownsRow_putObj hrow3 (.deferred none) hKD rfl
              rw [outs_range, hr] at e
              have hl : r1.length = (List.range ((a1.size + 110) / 111)).length := by rw [← hr, List.length_map]
              rw [hl]
              exact e
            · exact hbW.trans (belowK_b (w := w) (Nat.le_refl _) _ D _ _ (by omega) hKD rfl rfl)
          case stop =>
            rintro D c pre W _ _ h _
            exact h.elim
        · rw [if_neg c4] at h
          cases h
theorem page_Split.calls (a0 : Int) (a1 : ByteArray) (r1 : List ByteArray) (r2 : Int) (w : World) (h : page_Split.f a0 a1 = some (r1, r2)) :
    Calls Try.prog 15 #[.int .u64 a0, .string a1] w fun e w' => ∃ v0_ : Value, e = .returned (.tuple #[v0_, .int .i64 r2]) ∧ Kd.R Kd.string 9 w' w.heap.size (fun _ => True) v0_ r1 ∧ Below w.heap.size w w' := by
  refine (page_Split.walk a0 a1 w r1 r2 h).mono ?_
  rintro e w' ⟨v, he, ho, hb⟩
  exact ⟨v, he, Kd.R_of_own (enc := Value.string) (h1 := fun _ => rfl) ho (fun _ _ => trivial), hb⟩


end Go.Proofs.Ytdnffphknigipaa.Q
