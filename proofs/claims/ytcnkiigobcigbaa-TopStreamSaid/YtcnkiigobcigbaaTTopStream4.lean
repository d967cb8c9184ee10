-- Merged and trimmed by this session's program wip/tools/trim.py.
import Derived.Test.YtcnkiigobcigbaaTTopStream3
section
namespace Go.Proofs.Ytcnkiigobcigbaa.Q
open Go.RowKit Go.Proofs.YtcnkiigobcigbaaW.PrintWords Go.Proofs.YtcnkiigobcigbaaW.PrintLast Go.Proofs.YtcnkiigobcigbaaW.PrintMore
attribute [local go_sem] max2_int min2_int max_two min_two max_three min_three max_four min_four   -- for this text's walks alone
set_option linter.unusedVariables false
set_option linter.unusedSimpArgs false
def wd (s : ByteArray) (o : Nat) : Nat → Int
  | 0 => 0
  | i + 1 => wd s o i + bt s ((o + i : Nat) : Int) * 2 ^ (56 - 8 * i)
set_option maxRecDepth 100000 in
theorem wd_mul (s : ByteArray) (o : Nat) : ∀ i : Nat, i ≤ 8 → ∃ m : Nat, wd s o i = ((2 ^ (64 - 8 * i) * m : Nat) : Int) ∧ m < 2 ^ (8 * i)
  | 0, _ => ⟨0, by simp [wd]⟩
  | i + 1, h => by
    obtain ⟨m, e, hm⟩ := wd_mul s o i (by omega)
    have hb := bt_range s ((o + i : Nat) : Int)
    have e1 : 2 ^ (64 - 8 * i) = 256 * 2 ^ (56 - 8 * i) := by rw [show 64 - 8 * i = 8 + (56 - 8 * i) by omega, Nat.pow_add]
    have e2 : 2 ^ (8 * (i + 1)) = 256 * 2 ^ (8 * i) := by rw [show 8 * (i + 1) = 8 + 8 * i by omega, Nat.pow_add]
    refine ⟨256 * m + (bt s ((o + i : Nat) : Int)).toNat, ?_, by omega⟩
    obtain ⟨n, hn⟩ : ∃ n : Nat, bt s ((o + i : Nat) : Int) = n := ⟨(bt s ((o + i : Nat) : Int)).toNat, by omega⟩
    rw [wd, e, e1, hn, show 64 - 8 * (i + 1) = 56 - 8 * i by omega, Nat.mul_add, show (2 : Int) ^ (56 - 8 * i) = ((2 ^ (56 - 8 * i) : Nat) : Int) from (Int.natCast_pow 2 _).symm]
    generalize 2 ^ (56 - 8 * i) = E
    push_cast
    congr 1
    · rw [Int.mul_assoc, Int.mul_left_comm]
    · rw [Int.toNat_natCast, Int.mul_comm]
theorem wd_range (s : ByteArray) (o : Nat) (i : Nat) (h : i ≤ 8) : 0 ≤ wd s o i ∧ wd s o i ≤ 18446744073709551615 := by
  obtain ⟨m, e, hm⟩ := wd_mul s o i h
  have h1 : 2 ^ (64 - 8 * i) * m < 2 ^ (64 - 8 * i) * 2 ^ (8 * i) := Nat.mul_lt_mul_of_pos_left hm (Nat.two_pow_pos _)
  rw [← Nat.pow_add, show 64 - 8 * i + 8 * i = 64 by omega] at h1
  rw [e]
  omega
theorem wd_or (s : ByteArray) (o i : Nat) (c : Int) (b : Int) (h : i ≤ 7) (hc : c = 2 ^ (56 - 8 * i)) (hb : b = bt s ((o + i : Nat) : Int)) : bits .or .u64 (wd s o i) (b * c) = wd s o (i + 1) := by
  obtain ⟨m, e, hm⟩ := wd_mul s o i (by omega)
  have hr := wd_range s o i (by omega)
  have hr2 := wd_range s o (i + 1) (by omega)
  have hbr := bt_range s ((o + i : Nat) : Int)
  obtain ⟨n, hn⟩ : ∃ n : Nat, b = n := ⟨b.toNat, by omega⟩
  rw [wd, ← hb, ← hc] at hr2 ⊢
  rw [e] at hr hr2 ⊢
  have e1 : 2 ^ (64 - 8 * i) = 256 * 2 ^ (56 - 8 * i) := by rw [show 64 - 8 * i = 8 + (56 - 8 * i) by omega, Nat.pow_add]
  have hcn : b * c = ((n * 2 ^ (56 - 8 * i) : Nat) : Int) := by rw [hn, hc]; push_cast; rfl
  have hlt : n * 2 ^ (56 - 8 * i) < 2 ^ (64 - 8 * i) := by rw [e1]; exact Nat.mul_lt_mul_of_pos_right (by omega) (Nat.two_pow_pos _)
  have hlt2 : n * 2 ^ (56 - 8 * i) < 18446744073709551616 := Nat.lt_of_lt_of_le hlt (by rw [show 18446744073709551616 = 2 ^ 64 from rfl]; exact Nat.pow_le_pow_right (by omega) (by omega))
  rw [hcn, u64_or_nat _ _ (by omega) hlt2, ← Nat.two_pow_add_eq_or_of_lt hlt]
  push_cast
  rfl
theorem wd_or7 (s : ByteArray) (o : Nat) (b : Int) (hb : b = bt s ((o + 7 : Nat) : Int)) : bits .or .u64 (wd s o 7) b = wd s o (7 + 1) := by
  have := wd_or s o 7 1 b (by omega) rfl hb
  rwa [Int.mul_one] at this
def pfx_none : Option (Bool × Int × Int × Int × ByteArray × Int) := some (false, 0, 0, 0, (⟨#[]⟩ : ByteArray), 7)
def pfx_of (k : Nat) (six : Bool) (hi lo ln : Int) (rest : ByteArray) : Option (Bool × Int × Int × Int × ByteArray × Int) :=
  (addr_Check.f k six hi lo ln).bind fun c => (if c = 0 then some (six, hi, lo, ln, rest, 0) else pfx_none)
def msg_GetPrefix.f (k : Nat) (a0 : ByteArray) : Option (Bool × Int × Int × Int × ByteArray × Int) :=
  if a0.size < 2 then pfx_none
  else if bt a0 0 = 4 then
    (if ((a0.extract 2 a0.size).size : Int) < (bt a0 1 + 7) / 8 then pfx_none else if bt a0 1 > 32 then pfx_none
     else pfx_of k false 0 (wd (a0.extract 2 a0.size) 0 (((bt a0 1).toNat + 7) / 8) / 4294967296) (bt a0 1) ((a0.extract 2 a0.size).extract (((bt a0 1).toNat + 7) / 8) (a0.extract 2 a0.size).size))
  else if bt a0 0 = 6 then
    (if ((a0.extract 2 a0.size).size : Int) < (bt a0 1 + 7) / 8 then pfx_none else if bt a0 1 > 128 then pfx_none
     else pfx_of k true (wd (a0.extract 2 a0.size) 0 (min 8 (((bt a0 1).toNat + 7) / 8))) (wd (a0.extract 2 a0.size) 8 (((bt a0 1).toNat + 7) / 8 - 8)) (bt a0 1) ((a0.extract 2 a0.size).extract (((bt a0 1).toNat + 7) / 8) (a0.extract 2 a0.size).size))
  else pfx_none
set_option maxHeartbeats 8000000 in
set_option maxRecDepth 100000 in
theorem msg_GetPrefix.calls (k : Nat) (a0 : ByteArray) (r1 : Bool) (r2 : Int) (r3 : Int) (r4 : Int) (r5 : ByteArray) (r6 : Int) (w : World) (h : msg_GetPrefix.f k a0 = some (r1, r2, r3, r4, r5, r6)) :
    Calls Try.prog 24 #[.string a0] w fun e w' => e = .returned (.tuple #[.agg #[.bool r1, .int .u64 r2, .int .u64 r3, .int .i64 r4], .string r5, .int .i64 r6]) ∧ Below w.heap.size w w' := by
  unfold msg_GetPrefix.f at h
  by_cases c1 : a0.size < 2
  · rw [if_pos c1] at h
    simp only [pfx_none, Option.some.injEq, Prod.mk.injEq] at h
    obtain ⟨rfl, rfl, rfl, rfl, rfl, rfl⟩ := h
    have c1b : decide ((a0.size : Int) < 2) = true := decide_eq_true (by omega)
    go_enter Try.func24, Try.ntmps24
    go_wp2
    refine bodyPost_ret (results_ctt rfl _ _ w.heap.size 30 #[.bool false, .int .u64 0, .int .u64 0, .int .i64 0] (0, 0) _ rfl (heap_alloc_new _ _) Try.underlying30 rfl (by kernel_rfl)) rfl ?_
    exact ⟨rfl, below_alloc (Below.refl _ _) _⟩
  · rw [if_neg c1] at h
    have c1b : decide ((a0.size : Int) < 2) = false := decide_eq_false (by omega)
    have hx0 : ∀ h : 0 < a0.size, ((a0[0]'h).toNat : Int) = bt a0 0 := bt_at a0 0
    have hx1 : ∀ h : 1 < a0.size, ((a0[1]'h).toNat : Int) = bt a0 1 := bt_at a0 1
    have s0 : 0 < a0.size := by omega
    have s1 : 1 < a0.size := by omega
    have q0 : (0 < (a0.size : Int)) = True := eq_true (by omega)
    have q1 : (1 < (a0.size : Int)) = True := eq_true (by omega)
    have q2 : (2 ≤ (a0.size : Int)) = True := eq_true (by omega)
    have hb1 := bt_range a0 1
    obtain ⟨ln, hln⟩ : ∃ ln : Nat, bt a0 1 = ln := ⟨(bt a0 1).toNat, by omega⟩
    rw [hln] at h hx1 hb1
    clear hln
    by_cases c2 : bt a0 0 = 4
    · rw [if_pos c2] at h
      have c2b : (bt a0 0 != 4) = false := bne_eq_false_iff_eq.mpr c2
      have c2c : (bt a0 0 == 6) = false := by rw [c2]; decide
      go_enter Try.func24, Try.ntmps24
      go_wp2
      have br1 : (w.alloc (.cells #[.bool false, .int .u64 0, .int .u64 0, .int .i64 0] 30)).heap[w.heap.size]? = some (.cells #[.bool false, .int .u64 0, .int .u64 0, .int .i64 0] 30 (0, 0)) := heap_alloc_new _ _
      have hb1' : Below w.heap.size w (w.alloc (.cells #[.bool false, .int .u64 0, .int .u64 0, .int .i64 0] 30)) := below_alloc (Below.refl _ _) _
      have HS1 : Aside0 ((w.alloc (.cells #[.bool false, .int .u64 0, .int .u64 0, .int .i64 0] 30)).heap.size = w.heap.size + 1) := ⟨by simp⟩
      generalize (w.alloc (.cells #[.bool false, .int .u64 0, .int .u64 0, .int .i64 0] 30)) = w1 at br1 hb1' HS1 ⊢
      obtain ⟨gr, hgr⟩ : ∃ gr, w.heap.size = gr := ⟨_, rfl⟩
      have HGR := Aside0.mk hgr
      rw [hgr] at br1 HS1 ⊢
      have BR1 := Aside0.mk br1
      have HB1 := Aside0.mk hb1'
      clear br1 hb1' hgr
      go_region
      have br2 : (w1.alloc (.cells #[.bool false, .int .u64 0, .int .u64 0, .int .i64 ln] 30)).drew.heap[gr]? = some (.cells #[.bool false, .int .u64 0, .int .u64 0, .int .i64 0] 30 (0, 0)) := blk_drew (blk_alloc BR1.out _)
      have bp2 : (w1.alloc (.cells #[.bool false, .int .u64 0, .int .u64 0, .int .i64 ln] 30)).drew.heap[w1.heap.size]? = some (.cells #[.bool false, .int .u64 0, .int .u64 0, .int .i64 ln] 30 (0, 0)) := blk_drew (heap_alloc_new _ _)
      have hb2 : Below w.heap.size w (w1.alloc (.cells #[.bool false, .int .u64 0, .int .u64 0, .int .i64 ln] 30)).drew := below_drew1 (below_alloc HB1.out _)
      have HGP : Aside0 (w1.heap.size = gr + 1) := HS1
      generalize (w1.alloc (.cells #[.bool false, .int .u64 0, .int .u64 0, .int .i64 ln] 30)).drew = w2 at br2 bp2 hb2 ⊢
      obtain ⟨gp, hgp⟩ : ∃ gp, w1.heap.size = gp := ⟨_, rfl⟩
      rw [hgp] at bp2 HGP ⊢
      have HB2 := Aside0.mk hb2
      have BR2 := Aside0.mk br2
      have BP2 := Aside0.mk bp2
      clear hgp hb2 br2 bp2 HS1 BR1 HB1
      have hp0 : w2.cell? ⟨gp, 0, none⟩ = some (.bool false) := (blk_cell BP2.out 0).trans rfl
      have hp3 : w2.cell? ⟨gp, 3, none⟩ = some (.int .i64 ln) := (blk_cell BP2.out 3).trans rfl
      go_wp2
      have hrs : (a0.extract 2 a0.size).size = a0.size - 2 := by simp
      generalize a0.extract 2 a0.size = rest at h hrs ⊢
      have hp0d : ∀ q, (w2.drewN q).cell? ⟨gp, 0, none⟩ = some (.bool false) := fun _ => hp0
      have hp3d : ∀ q, (w2.drewN q).cell? ⟨gp, 3, none⟩ = some (.int .i64 ln) := fun _ => hp3
      by_cases c3 : (rest.size : Int) < ((ln : Int) + 7) / 8
      · rw [if_pos c3] at h
        simp only [pfx_none, Option.some.injEq, Prod.mk.injEq] at h
        obtain ⟨rfl, rfl, rfl, rfl, rfl, rfl⟩ := h
        have hd : decide (((a0.size - 2 : Nat) : Int) < ((ln : Int) + 8 - 1) / 8) = true := decide_eq_true (by omega)
        go_quiet (fail)
        have br3 := blk_drewN BR2.out nq
        have hb3 := pw_below_drewN HB2.out nq
        generalize w2.drewN nq = w3 at br3 hb3 ⊢
        have BR3 := Aside0.mk br3
        have HB3 := Aside0.mk hb3
        clear br3 hb3
        have hr0 := (blk_cell BR3.out 0).trans rfl
        have hr1 := (blk_cell BR3.out 1).trans rfl
        have hr2 := (blk_cell BR3.out 2).trans rfl
        have hr3 := (blk_cell BR3.out 3).trans rfl
        have hf0 := blk_frozen BR3.out 0
        have hf1 := blk_frozen BR3.out 1
        have hf2 := blk_frozen BR3.out 2
        have hf3 := blk_frozen BR3.out 3
        go_wp2
        have hge : w.heap.size ≤ gr := by have := HGR.out; omega
        refine bodyPost_ret (results_ctt rfl _ _ gr 30 #[.bool false, .int .u64 0, .int .u64 0, .int .i64 0] (0, 0) _ rfl (blk_put (blk_put (blk_put (blk_put BR3.out 0 (.bool false) rfl) 1 (.int .u64 0) rfl) 2 (.int .u64 0) rfl) 3 (.int .i64 0) rfl) Try.underlying30 rfl (by kernel_rfl)) rfl ?_
        exact ⟨rfl, (((HB3.out.setCell (p := ⟨gr, 0, none⟩) hge _).setCell (p := ⟨gr, 1, none⟩) hge _).setCell (p := ⟨gr, 2, none⟩) hge _).setCell (p := ⟨gr, 3, none⟩) hge _⟩
      · rw [if_neg c3] at h
        have hd : decide (((a0.size - 2 : Nat) : Int) < ((ln : Int) + 8 - 1) / 8) = false := decide_eq_false (by omega)
        by_cases c4 : (ln : Int) > 32
        · rw [if_pos c4] at h
          simp only [pfx_none, Option.some.injEq, Prod.mk.injEq] at h
          obtain ⟨rfl, rfl, rfl, rfl, rfl, rfl⟩ := h
          have hd2 : decide (32 < (ln : Int)) = true := decide_eq_true c4
          go_big_quiet (first | (go_at_call 35; exact Calls.quiet_of ((addr_Wide.calls false 32 _ rfl).mono (fun e w' h => ⟨h.1, h.2.out⟩))))
          have br3 := blk_drewN BR2.out nq
          have hb3 := pw_below_drewN HB2.out nq
          generalize w2.drewN nq = w3 at br3 hb3 ⊢
          have BR3 := Aside0.mk br3
          have HB3 := Aside0.mk hb3
          clear br3 hb3
          have hr0 := (blk_cell BR3.out 0).trans rfl
          have hr1 := (blk_cell BR3.out 1).trans rfl
          have hr2 := (blk_cell BR3.out 2).trans rfl
          have hr3 := (blk_cell BR3.out 3).trans rfl
          have hf0 := blk_frozen BR3.out 0
          have hf1 := blk_frozen BR3.out 1
          have hf2 := blk_frozen BR3.out 2
          have hf3 := blk_frozen BR3.out 3
          go_wp2
          have hge : w.heap.size ≤ gr := by have := HGR.out; omega
          refine bodyPost_ret (results_ctt rfl _ _ gr 30 #[.bool false, .int .u64 0, .int .u64 0, .int .i64 0] (0, 0) _ rfl (blk_put (blk_put (blk_put (blk_put BR3.out 0 (.bool false) rfl) 1 (.int .u64 0) rfl) 2 (.int .u64 0) rfl) 3 (.int .i64 0) rfl) Try.underlying30 rfl (by kernel_rfl)) rfl ?_
          exact ⟨rfl, (((HB3.out.setCell (p := ⟨gr, 0, none⟩) hge _).setCell (p := ⟨gr, 1, none⟩) hge _).setCell (p := ⟨gr, 2, none⟩) hge _).setCell (p := ⟨gr, 3, none⟩) hge _⟩
        · rw [if_neg c4] at h
          have hd2 : decide (32 < (ln : Int)) = false := decide_eq_false c4
          have hc4 : Aside0 (ln ≤ 32) := ⟨by omega⟩
          have hlt0 : Aside0 ((ln + 7) / 8 ≤ rest.size) := ⟨by omega⟩
          unfold pfx_of at h
          obtain ⟨c, hC, h⟩ := Option.bind_eq_some_iff.mp h
          have C := Aside0.mk hC
          have H := Aside0.mk h
          clear h hC
          go_big_quiet (first | (go_at_call 35; exact Calls.quiet_of ((addr_Wide.calls false 32 _ rfl).mono (fun e w' h => ⟨h.1, h.2.out⟩))))
          clear hrs
          have br3 := blk_drewN BR2.out nq
          have bp3 := blk_drewN BP2.out nq
          have hb3 := pw_below_drewN HB2.out nq
          clear hp0 hp3 hp0d hp3d
          generalize w2.drewN nq = w3 at br3 bp3 hb3 ⊢
          have BR3 := Aside0.mk br3
          have BP3 := Aside0.mk bp3
          have HB3 := Aside0.mk hb3
          clear br3 hb3 bp3
          go_wp2
          have hbw : w3.heap.size ≠ gr ∧ w3.heap.size ≠ gp ∧ w.heap.size ≤ w3.heap.size := ⟨fun e => by have := blk_lt BR3.out; omega, fun e => by have := blk_lt BP3.out; omega, HB3.out.size⟩
          have br4 := blk_alloc BR3.out (.cells #[.int .u64 0, .int .u64 0] 81)
          have bp4 := blk_alloc BP3.out (.cells #[.int .u64 0, .int .u64 0] 81)
          have bw4 := heap_alloc_new w3 (.cells #[.int .u64 0, .int .u64 0] 81)
          have hb4 := below_alloc HB3.out (.cells #[.int .u64 0, .int .u64 0] 81)
          generalize w3.alloc (.cells #[.int .u64 0, .int .u64 0] 81) = w4 at br4 bp4 bw4 hb4 ⊢
          generalize w3.heap.size = gw at bw4 hbw ⊢
          have HGW := Aside0.mk hbw
          have BR4 := Aside0.mk br4
          have BP4 := Aside0.mk bp4
          have BW4 := Aside0.mk bw4
          have HB4 := Aside0.mk hb4
          clear hbw br4 bp4 bw4 hb4
          go_loopg [51] 17 (fun kq v51 w' => ∃ (i : Nat), i ≤ (ln + 7) / 8 ∧ kq = 17 - i ∧ v51 = .int .i64 (i : Int) ∧ Aside0 (Below w.heap.size w w') ∧ Aside0 (w'.heap[gr]? = some (.cells #[.bool false, .int .u64 0, .int .u64 0, .int .i64 0] 30 (0, 0))) ∧ Aside0 (w'.heap[gp]? = some (.cells #[.bool false, .int .u64 0, .int .u64 0, .int .i64 ln] 30 (0, 0))) ∧ Aside0 (w'.heap[gw]? = some (.cells #[.int .u64 (wd rest 0 (min 8 i)), .int .u64 (wd rest 8 (i - 8))] 81 (0, 0))))
          case atStart => exact ⟨0, by omega, rfl, rfl, HB4, BR4, BP4, BW4⟩
          case round =>
            obtain ⟨i, hi, rfl, rfl, HB5, BR5, BP5, BW5⟩ := hrel
            by_cases hlt : i < (ln + 7) / 8
            · match i, hi, hlt, BW5 with
              | 0, _, hlt, BW5 =>
                have hd : decide ((0 : Int) < ((ln : Int) + 8 - 1) / 8) = true := decide_eq_true (by omega)
                have hq : (0 < (rest.size : Int)) = True := eq_true (by have := hlt0.out; omega)
                have hq' : 0 < rest.size := by have := hlt0.out; omega
                have hz : ∀ h : 0 < rest.size, ((rest[0]'h).toNat : Int) = bt rest 0 := bt_at rest 0
                have hc := (blk_cell BW5.out 0).trans (rfl : _ = some (Value.int .u64 (wd rest 0 0)))
                have hf := blk_frozen BW5.out 0
                have hwr := wd_range rest 0 0 (by omega)
                have hrb := bt_range rest 0
                go_wp2
                go_region
                clear hc hf hwr hrb hz hd
                rw [wd_or rest 0 0 72057594037927936 (bt rest 0) (by omega) rfl rfl]
                have bw6 := blk_drew (blk_put BW5.out 0 (.int .u64 (wd rest 0 1)) rfl)
                have br6 := blk_drew (blk_far BR5.out (p := ⟨gw, 0, none⟩) (by simpa using fun e => HGW.out.1 e.symm) (.int .u64 (wd rest 0 1)))
                have bp6 := blk_drew (blk_far BP5.out (p := ⟨gw, 0, none⟩) (by simpa using fun e => HGW.out.2.1 e.symm) (.int .u64 (wd rest 0 1)))
                have hb6 := below_drew1 (HB5.out.setCell (p := ⟨gw, 0, none⟩) HGW.out.2.2 (.int .u64 (wd rest 0 1)))
                generalize (World.setCell _ ⟨gw, 0, none⟩ (.int .u64 (wd rest 0 1))).drew = w6 at bw6 br6 bp6 hb6 ⊢
                have BW6 := Aside0.mk bw6
                have BR6 := Aside0.mk br6
                have BP6 := Aside0.mk bp6
                have HB6 := Aside0.mk hb6
                clear bw6 br6 bp6 hb6
                go_wp2
                go_roundg (17 - (0 + 1))
                case measure => omega
                case rel => exact ⟨0 + 1, by omega, rfl, rfl, HB6, BR6, BP6, BW6⟩
              | 1, _, hlt, BW5 =>
                have hd : decide ((1 : Int) < ((ln : Int) + 8 - 1) / 8) = true := decide_eq_true (by omega)
                have hq : (1 < (rest.size : Int)) = True := eq_true (by have := hlt0.out; omega)
                have hq' : 1 < rest.size := by have := hlt0.out; omega
                have hz : ∀ h : 1 < rest.size, ((rest[1]'h).toNat : Int) = bt rest 1 := bt_at rest 1
                have hc := (blk_cell BW5.out 0).trans (rfl : _ = some (Value.int .u64 (wd rest 0 1)))
                have hf := blk_frozen BW5.out 0
                have hwr := wd_range rest 0 1 (by omega)
                have hrb := bt_range rest 1
                go_wp2
                go_region
                clear hc hf hwr hrb hz hd
                rw [wd_or rest 0 1 281474976710656 (bt rest 1) (by omega) rfl rfl]
                have bw6 := blk_drew (blk_put BW5.out 0 (.int .u64 (wd rest 0 2)) rfl)
                have br6 := blk_drew (blk_far BR5.out (p := ⟨gw, 0, none⟩) (by simpa using fun e => HGW.out.1 e.symm) (.int .u64 (wd rest 0 2)))
                have bp6 := blk_drew (blk_far BP5.out (p := ⟨gw, 0, none⟩) (by simpa using fun e => HGW.out.2.1 e.symm) (.int .u64 (wd rest 0 2)))
                have hb6 := below_drew1 (HB5.out.setCell (p := ⟨gw, 0, none⟩) HGW.out.2.2 (.int .u64 (wd rest 0 2)))
                generalize (World.setCell _ ⟨gw, 0, none⟩ (.int .u64 (wd rest 0 2))).drew = w6 at bw6 br6 bp6 hb6 ⊢
                have BW6 := Aside0.mk bw6
                have BR6 := Aside0.mk br6
                have BP6 := Aside0.mk bp6
                have HB6 := Aside0.mk hb6
                clear bw6 br6 bp6 hb6
                go_wp2
                go_roundg (17 - (1 + 1))
                case measure => omega
                case rel => exact ⟨1 + 1, by omega, rfl, rfl, HB6, BR6, BP6, BW6⟩
              | 2, _, hlt, BW5 =>
                have hd : decide ((2 : Int) < ((ln : Int) + 8 - 1) / 8) = true := decide_eq_true (by omega)
                have hq : (2 < (rest.size : Int)) = True := eq_true (by have := hlt0.out; omega)
                have hq' : 2 < rest.size := by have := hlt0.out; omega
                have hz : ∀ h : 2 < rest.size, ((rest[2]'h).toNat : Int) = bt rest 2 := bt_at rest 2
                have hc := (blk_cell BW5.out 0).trans (rfl : _ = some (Value.int .u64 (wd rest 0 2)))
                have hf := blk_frozen BW5.out 0
                have hwr := wd_range rest 0 2 (by omega)
                have hrb := bt_range rest 2
                go_wp2
                go_region
                clear hc hf hwr hrb hz hd
                rw [wd_or rest 0 2 1099511627776 (bt rest 2) (by omega) rfl rfl]
                have bw6 := blk_drew (blk_put BW5.out 0 (.int .u64 (wd rest 0 3)) rfl)
                have br6 := blk_drew (blk_far BR5.out (p := ⟨gw, 0, none⟩) (by simpa using fun e => HGW.out.1 e.symm) (.int .u64 (wd rest 0 3)))
                have bp6 := blk_drew (blk_far BP5.out (p := ⟨gw, 0, none⟩) (by simpa using fun e => HGW.out.2.1 e.symm) (.int .u64 (wd rest 0 3)))
                have hb6 := below_drew1 (HB5.out.setCell (p := ⟨gw, 0, none⟩) HGW.out.2.2 (.int .u64 (wd rest 0 3)))
                generalize (World.setCell _ ⟨gw, 0, none⟩ (.int .u64 (wd rest 0 3))).drew = w6 at bw6 br6 bp6 hb6 ⊢
                have BW6 := Aside0.mk bw6
                have BR6 := Aside0.mk br6
                have BP6 := Aside0.mk bp6
                have HB6 := Aside0.mk hb6
                clear bw6 br6 bp6 hb6
                go_wp2
                go_roundg (17 - (2 + 1))
                case measure => omega
                case rel => exact ⟨2 + 1, by omega, rfl, rfl, HB6, BR6, BP6, BW6⟩
              | 3, _, hlt, BW5 =>
                have hd : decide ((3 : Int) < ((ln : Int) + 8 - 1) / 8) = true := decide_eq_true (by omega)
                have hq : (3 < (rest.size : Int)) = True := eq_true (by have := hlt0.out; omega)
                have hq' : 3 < rest.size := by have := hlt0.out; omega
                have hz : ∀ h : 3 < rest.size, ((rest[3]'h).toNat : Int) = bt rest 3 := bt_at rest 3
                have hc := (blk_cell BW5.out 0).trans (rfl : _ = some (Value.int .u64 (wd rest 0 3)))
                have hf := blk_frozen BW5.out 0
                have hwr := wd_range rest 0 3 (by omega)
                have hrb := bt_range rest 3
                go_wp2
                go_region
                clear hc hf hwr hrb hz hd
                rw [wd_or rest 0 3 4294967296 (bt rest 3) (by omega) rfl rfl]
                have bw6 := blk_drew (blk_put BW5.out 0 (.int .u64 (wd rest 0 4)) rfl)
                have br6 := blk_drew (blk_far BR5.out (p := ⟨gw, 0, none⟩) (by simpa using fun e => HGW.out.1 e.symm) (.int .u64 (wd rest 0 4)))
                have bp6 := blk_drew (blk_far BP5.out (p := ⟨gw, 0, none⟩) (by simpa using fun e => HGW.out.2.1 e.symm) (.int .u64 (wd rest 0 4)))
                have hb6 := below_drew1 (HB5.out.setCell (p := ⟨gw, 0, none⟩) HGW.out.2.2 (.int .u64 (wd rest 0 4)))
                generalize (World.setCell _ ⟨gw, 0, none⟩ (.int .u64 (wd rest 0 4))).drew = w6 at bw6 br6 bp6 hb6 ⊢
                have BW6 := Aside0.mk bw6
                have BR6 := Aside0.mk br6
                have BP6 := Aside0.mk bp6
                have HB6 := Aside0.mk hb6
                clear bw6 br6 bp6 hb6
                go_wp2
                go_roundg (17 - (3 + 1))
                case measure => omega
                case rel => exact ⟨3 + 1, by omega, rfl, rfl, HB6, BR6, BP6, BW6⟩
              | n + 4, _, hlt, _ => exact absurd hlt (by have := hc4.out; omega)
            · have hd : decide ((i : Int) < ((ln : Int) + 8 - 1) / 8) = false := decide_eq_false (by omega)
              obtain rfl : i = (ln + 7) / 8 := by omega
              have bw6 := BW5.out
              have em : min 8 ((ln + 7) / 8) = (ln + 7) / 8 := by have := hc4.out; omega
              rw [em] at bw6
              have hw0 := (blk_cell bw6 0).trans (rfl : _ = some (Value.int .u64 (wd rest 0 ((ln + 7) / 8))))
              have hw1 := (blk_cell bw6 1).trans (rfl : _ = some (Value.int .u64 (wd rest 8 ((ln + 7) / 8 - 8))))
              have hp0 := (blk_cell BP5.out 0).trans (rfl : _ = some (Value.bool false))
              have hp1 := (blk_cell BP5.out 1).trans (rfl : _ = some (Value.int .u64 0))
              have hp2 := (blk_cell BP5.out 2).trans (rfl : _ = some (Value.int .u64 0))
              have hp3 := (blk_cell BP5.out 3).trans (rfl : _ = some (Value.int .i64 ln))
              have hf0 := blk_frozen BP5.out 0
              have hf1 := blk_frozen BP5.out 1
              have hf2 := blk_frozen BP5.out 2
              have hf3 := blk_frozen BP5.out 3
              skip
              have bp7 : ((((World.setCell wr ⟨gp, 1, none⟩ (.int .u64 (wd rest 0 ((ln + 7) / 8)))).setCell ⟨gp, 2, none⟩ (.int .u64 (wd rest 8 ((ln + 7) / 8 - 8)))).setCell ⟨gp, 1, none⟩ (.int .u64 0)).setCell ⟨gp, 2, none⟩ (.int .u64 (wd rest 0 ((ln + 7) / 8) / 4294967296))).heap[gp]? = some (.cells #[.bool false, .int .u64 0, .int .u64 (wd rest 0 ((ln + 7) / 8) / 4294967296), .int .i64 ln] 30 (0, 0)) := blk_put (blk_put (blk_put (blk_put BP5.out 1 (.int .u64 (wd rest 0 ((ln + 7) / 8))) rfl) 2 (.int .u64 (wd rest 8 ((ln + 7) / 8 - 8))) rfl) 1 (.int .u64 0) rfl) 2 (.int .u64 (wd rest 0 ((ln + 7) / 8) / 4294967296)) rfl
              have hgg : w.heap.size ≤ gp := by have := HGP.out; have := HGR.out; omega
              have br7 : ((((World.setCell wr ⟨gp, 1, none⟩ (.int .u64 (wd rest 0 ((ln + 7) / 8)))).setCell ⟨gp, 2, none⟩ (.int .u64 (wd rest 8 ((ln + 7) / 8 - 8)))).setCell ⟨gp, 1, none⟩ (.int .u64 0)).setCell ⟨gp, 2, none⟩ (.int .u64 (wd rest 0 ((ln + 7) / 8) / 4294967296))).heap[gr]? = some (.cells #[.bool false, .int .u64 0, .int .u64 0, .int .i64 0] 30 (0, 0)) := blk_far (blk_far (blk_far (blk_far BR5.out (p := ⟨gp, 1, none⟩) (by have := HGP.out; simp; omega) (.int .u64 (wd rest 0 ((ln + 7) / 8)))) (p := ⟨gp, 2, none⟩) (by have := HGP.out; simp; omega) (.int .u64 (wd rest 8 ((ln + 7) / 8 - 8)))) (p := ⟨gp, 1, none⟩) (by have := HGP.out; simp; omega) (.int .u64 0)) (p := ⟨gp, 2, none⟩) (by have := HGP.out; simp; omega) (.int .u64 (wd rest 0 ((ln + 7) / 8) / 4294967296))
              have hb7 : Below w.heap.size w ((((World.setCell wr ⟨gp, 1, none⟩ (.int .u64 (wd rest 0 ((ln + 7) / 8)))).setCell ⟨gp, 2, none⟩ (.int .u64 (wd rest 8 ((ln + 7) / 8 - 8)))).setCell ⟨gp, 1, none⟩ (.int .u64 0)).setCell ⟨gp, 2, none⟩ (.int .u64 (wd rest 0 ((ln + 7) / 8) / 4294967296))) := (((HB5.out.setCell (p := ⟨gp, 1, none⟩) hgg (.int .u64 (wd rest 0 ((ln + 7) / 8)))).setCell (p := ⟨gp, 2, none⟩) hgg (.int .u64 (wd rest 8 ((ln + 7) / 8 - 8)))).setCell (p := ⟨gp, 1, none⟩) hgg (.int .u64 0)).setCell (p := ⟨gp, 2, none⟩) hgg (.int .u64 (wd rest 0 ((ln + 7) / 8) / 4294967296))
              have BP7 := Aside0.mk bp7
              have BR7 := Aside0.mk br7
              have HB7 := Aside0.mk hb7
              clear bp7 br7 hb7
              have hq0 := (blk_cell BP7.out 0).trans (rfl : _ = some (Value.bool false))
              have hq1 := (blk_cell BP7.out 1).trans (rfl : _ = some (Value.int .u64 0))
              have hq2 := (blk_cell BP7.out 2).trans (rfl : _ = some (Value.int .u64 (wd rest 0 ((ln + 7) / 8) / 4294967296)))
              have hq3 := (blk_cell BP7.out 3).trans (rfl : _ = some (Value.int .i64 ln))
              go_wp2_with (fail)
              refine (addr_Check.calls k false 0 (wd rest 0 ((ln + 7) / 8) / 4294967296) ln c _ (by simpa using C.out)).mono ?_
              rintro e w8 ⟨rfl, hb⟩
              have BP8 := Aside0.mk (blk_below BP7.out hb)
              have BR8 := Aside0.mk (blk_below BR7.out hb)
              have HB8 := Aside0.mk (below_step HB7.out hb)
              clear hb hq0 hq1 hq2 hq3 hw0 hw1 hp0 hp1 hp2 hp3 hf0 hf1 hf2 hf3
              have hr0 := (blk_cell BR8.out 0).trans rfl
              have hr1 := (blk_cell BR8.out 1).trans rfl
              have hr2 := (blk_cell BR8.out 2).trans rfl
              have hr3 := (blk_cell BR8.out 3).trans rfl
              have hf0 := blk_frozen BR8.out 0
              have hf1 := blk_frozen BR8.out 1
              have hf2 := blk_frozen BR8.out 2
              have hf3 := blk_frozen BR8.out 3
              have hge : w.heap.size ≤ gr := by have := HGR.out; omega
              by_cases hc : c = 0
              · subst hc
                have h := H.out
                rw [if_pos rfl] at h
                simp only [Option.some.injEq, Prod.mk.injEq] at h
                obtain ⟨rfl, rfl, rfl, rfl, rfl, rfl⟩ := h
                have hp0 := (blk_cell BP8.out 0).trans (rfl : _ = some (Value.bool false))
                have hp1 := (blk_cell BP8.out 1).trans (rfl : _ = some (Value.int .u64 0))
                have hp2 := (blk_cell BP8.out 2).trans (rfl : _ = some (Value.int .u64 (wd rest 0 ((ln + 7) / 8) / 4294967296)))
                have hp3 := (blk_cell BP8.out 3).trans (rfl : _ = some (Value.int .i64 ln))
                obtain ⟨n, hn7⟩ : ∃ n : Nat, (((ln : Int) + 8 - 1) / 8) = (n : Int) := ⟨(ln + 7) / 8, by omega⟩
                have HN : Aside0 (n = (ln + 7) / 8) := ⟨by omega⟩
                have hn8 : n ≤ rest.size := by have := hlt0.out; have := HN.out; omega
                have hn9 : (0 ≤ (n : Int)) = True := eq_true (by omega)
                rw [hn7]
                clear hn7
                go_wp2
                go_region
                go_wp2
                obtain rfl := HN.out
                refine bodyPost_ret (results_ctt rfl _ _ gr 30 #[.bool false, .int .u64 0, .int .u64 (wd rest 0 ((ln + 7) / 8) / 4294967296), .int .i64 ln] (0, 0) _ rfl (blk_put (blk_put (blk_put (blk_put BR8.out 0 (.bool false) rfl) 1 (.int .u64 0) rfl) 2 (.int .u64 (wd rest 0 ((ln + 7) / 8) / 4294967296)) rfl) 3 (.int .i64 ln) rfl) Try.underlying30 rfl (by kernel_rfl)) rfl ?_
                exact ⟨rfl, below_drew1 ((((HB8.out.setCell (p := ⟨gr, 0, none⟩) hge _).setCell (p := ⟨gr, 1, none⟩) hge _).setCell (p := ⟨gr, 2, none⟩) hge _).setCell (p := ⟨gr, 3, none⟩) hge _)⟩
              · have h := H.out
                rw [if_neg hc] at h
                have hcb : (c != 0) = true := bne_iff_ne.mpr hc
                simp only [pfx_none, Option.some.injEq, Prod.mk.injEq] at h
                obtain ⟨rfl, rfl, rfl, rfl, rfl, rfl⟩ := h
                go_wp2
                refine bodyPost_ret (results_ctt rfl _ _ gr 30 #[.bool false, .int .u64 0, .int .u64 0, .int .i64 0] (0, 0) _ rfl (blk_put (blk_put (blk_put (blk_put BR8.out 0 (.bool false) rfl) 1 (.int .u64 0) rfl) 2 (.int .u64 0) rfl) 3 (.int .i64 0) rfl) Try.underlying30 rfl (by kernel_rfl)) rfl ?_
                exact ⟨rfl, (((HB8.out.setCell (p := ⟨gr, 0, none⟩) hge _).setCell (p := ⟨gr, 1, none⟩) hge _).setCell (p := ⟨gr, 2, none⟩) hge _).setCell (p := ⟨gr, 3, none⟩) hge _⟩
    · rw [if_neg c2] at h
      by_cases c2' : bt a0 0 = 6
      · rw [if_pos c2'] at h
        have c2b : (bt a0 0 != 4) = true := bne_iff_ne.mpr c2
        have c2d : (bt a0 0 != 6) = false := bne_eq_false_iff_eq.mpr c2'
        have c2c : (bt a0 0 == 6) = true := beq_iff_eq.mpr c2'
        go_enter Try.func24, Try.ntmps24
        go_wp2
        have br1 : (w.alloc (.cells #[.bool false, .int .u64 0, .int .u64 0, .int .i64 0] 30)).heap[w.heap.size]? = some (.cells #[.bool false, .int .u64 0, .int .u64 0, .int .i64 0] 30 (0, 0)) := heap_alloc_new _ _
        have hb1' : Below w.heap.size w (w.alloc (.cells #[.bool false, .int .u64 0, .int .u64 0, .int .i64 0] 30)) := below_alloc (Below.refl _ _) _
        have HS1 : Aside0 ((w.alloc (.cells #[.bool false, .int .u64 0, .int .u64 0, .int .i64 0] 30)).heap.size = w.heap.size + 1) := ⟨by simp⟩
        generalize (w.alloc (.cells #[.bool false, .int .u64 0, .int .u64 0, .int .i64 0] 30)) = w1 at br1 hb1' HS1 ⊢
        obtain ⟨gr, hgr⟩ : ∃ gr, w.heap.size = gr := ⟨_, rfl⟩
        have HGR := Aside0.mk hgr
        rw [hgr] at br1 HS1 ⊢
        have BR1 := Aside0.mk br1
        have HB1 := Aside0.mk hb1'
        clear br1 hb1' hgr
        go_region
        have br2 : (w1.alloc (.cells #[.bool true, .int .u64 0, .int .u64 0, .int .i64 ln] 30)).drew.heap[gr]? = some (.cells #[.bool false, .int .u64 0, .int .u64 0, .int .i64 0] 30 (0, 0)) := blk_drew (blk_alloc BR1.out _)
        have bp2 : (w1.alloc (.cells #[.bool true, .int .u64 0, .int .u64 0, .int .i64 ln] 30)).drew.heap[w1.heap.size]? = some (.cells #[.bool true, .int .u64 0, .int .u64 0, .int .i64 ln] 30 (0, 0)) := blk_drew (heap_alloc_new _ _)
        have hb2 : Below w.heap.size w (w1.alloc (.cells #[.bool true, .int .u64 0, .int .u64 0, .int .i64 ln] 30)).drew := below_drew1 (below_alloc HB1.out _)
        have HGP : Aside0 (w1.heap.size = gr + 1) := HS1
        generalize (w1.alloc (.cells #[.bool true, .int .u64 0, .int .u64 0, .int .i64 ln] 30)).drew = w2 at br2 bp2 hb2 ⊢
        obtain ⟨gp, hgp⟩ : ∃ gp, w1.heap.size = gp := ⟨_, rfl⟩
        rw [hgp] at bp2 HGP ⊢
        have HB2 := Aside0.mk hb2
        have BR2 := Aside0.mk br2
        have BP2 := Aside0.mk bp2
        clear hgp hb2 br2 bp2 HS1 BR1 HB1
        have hp0 : w2.cell? ⟨gp, 0, none⟩ = some (.bool true) := (blk_cell BP2.out 0).trans rfl
        have hp3 : w2.cell? ⟨gp, 3, none⟩ = some (.int .i64 ln) := (blk_cell BP2.out 3).trans rfl
        go_wp2
        have hrs : (a0.extract 2 a0.size).size = a0.size - 2 := by simp
        generalize a0.extract 2 a0.size = rest at h hrs ⊢
        have hp0d : ∀ q, (w2.drewN q).cell? ⟨gp, 0, none⟩ = some (.bool true) := fun _ => hp0
        have hp3d : ∀ q, (w2.drewN q).cell? ⟨gp, 3, none⟩ = some (.int .i64 ln) := fun _ => hp3
        by_cases c3 : (rest.size : Int) < ((ln : Int) + 7) / 8
        · rw [if_pos c3] at h
          simp only [pfx_none, Option.some.injEq, Prod.mk.injEq] at h
          obtain ⟨rfl, rfl, rfl, rfl, rfl, rfl⟩ := h
          have hd : decide (((a0.size - 2 : Nat) : Int) < ((ln : Int) + 8 - 1) / 8) = true := decide_eq_true (by omega)
          go_quiet (fail)
          have br3 := blk_drewN BR2.out nq
          have hb3 := pw_below_drewN HB2.out nq
          generalize w2.drewN nq = w3 at br3 hb3 ⊢
          have BR3 := Aside0.mk br3
          have HB3 := Aside0.mk hb3
          clear br3 hb3
          have hr0 := (blk_cell BR3.out 0).trans rfl
          have hr1 := (blk_cell BR3.out 1).trans rfl
          have hr2 := (blk_cell BR3.out 2).trans rfl
          have hr3 := (blk_cell BR3.out 3).trans rfl
          have hf0 := blk_frozen BR3.out 0
          have hf1 := blk_frozen BR3.out 1
          have hf2 := blk_frozen BR3.out 2
          have hf3 := blk_frozen BR3.out 3
          go_wp2
          have hge : w.heap.size ≤ gr := by have := HGR.out; omega
          refine bodyPost_ret (results_ctt rfl _ _ gr 30 #[.bool false, .int .u64 0, .int .u64 0, .int .i64 0] (0, 0) _ rfl (blk_put (blk_put (blk_put (blk_put BR3.out 0 (.bool false) rfl) 1 (.int .u64 0) rfl) 2 (.int .u64 0) rfl) 3 (.int .i64 0) rfl) Try.underlying30 rfl (by kernel_rfl)) rfl ?_
          exact ⟨rfl, (((HB3.out.setCell (p := ⟨gr, 0, none⟩) hge _).setCell (p := ⟨gr, 1, none⟩) hge _).setCell (p := ⟨gr, 2, none⟩) hge _).setCell (p := ⟨gr, 3, none⟩) hge _⟩
        · rw [if_neg c3] at h
          have hd : decide (((a0.size - 2 : Nat) : Int) < ((ln : Int) + 8 - 1) / 8) = false := decide_eq_false (by omega)
          by_cases c4 : (ln : Int) > 128
          · rw [if_pos c4] at h
            simp only [pfx_none, Option.some.injEq, Prod.mk.injEq] at h
            obtain ⟨rfl, rfl, rfl, rfl, rfl, rfl⟩ := h
            have hd2 : decide (128 < (ln : Int)) = true := decide_eq_true c4
            go_big_quiet (first | (go_at_call 35; exact Calls.quiet_of ((addr_Wide.calls true 128 _ rfl).mono (fun e w' h => ⟨h.1, h.2.out⟩))))
            have br3 := blk_drewN BR2.out nq
            have hb3 := pw_below_drewN HB2.out nq
            generalize w2.drewN nq = w3 at br3 hb3 ⊢
            have BR3 := Aside0.mk br3
            have HB3 := Aside0.mk hb3
            clear br3 hb3
            have hr0 := (blk_cell BR3.out 0).trans rfl
            have hr1 := (blk_cell BR3.out 1).trans rfl
            have hr2 := (blk_cell BR3.out 2).trans rfl
            have hr3 := (blk_cell BR3.out 3).trans rfl
            have hf0 := blk_frozen BR3.out 0
            have hf1 := blk_frozen BR3.out 1
            have hf2 := blk_frozen BR3.out 2
            have hf3 := blk_frozen BR3.out 3
            go_wp2
            have hge : w.heap.size ≤ gr := by have := HGR.out; omega
            refine bodyPost_ret (results_ctt rfl _ _ gr 30 #[.bool false, .int .u64 0, .int .u64 0, .int .i64 0] (0, 0) _ rfl (blk_put (blk_put (blk_put (blk_put BR3.out 0 (.bool false) rfl) 1 (.int .u64 0) rfl) 2 (.int .u64 0) rfl) 3 (.int .i64 0) rfl) Try.underlying30 rfl (by kernel_rfl)) rfl ?_
            exact ⟨rfl, (((HB3.out.setCell (p := ⟨gr, 0, none⟩) hge _).setCell (p := ⟨gr, 1, none⟩) hge _).setCell (p := ⟨gr, 2, none⟩) hge _).setCell (p := ⟨gr, 3, none⟩) hge _⟩
          · rw [if_neg c4] at h
            have hd2 : decide (128 < (ln : Int)) = false := decide_eq_false c4
            have hc4 : Aside0 (ln ≤ 128) := ⟨by omega⟩
            have hlt0 : Aside0 ((ln + 7) / 8 ≤ rest.size) := ⟨by omega⟩
            unfold pfx_of at h
            obtain ⟨c, hC, h⟩ := Option.bind_eq_some_iff.mp h
            have C := Aside0.mk hC
            have H := Aside0.mk h
            clear h hC
            go_big_quiet (first | (go_at_call 35; exact Calls.quiet_of ((addr_Wide.calls true 128 _ rfl).mono (fun e w' h => ⟨h.1, h.2.out⟩))))
            clear hrs
            have br3 := blk_drewN BR2.out nq
            have bp3 := blk_drewN BP2.out nq
            have hb3 := pw_below_drewN HB2.out nq
            clear hp0 hp3 hp0d hp3d
            generalize w2.drewN nq = w3 at br3 bp3 hb3 ⊢
            have BR3 := Aside0.mk br3
            have BP3 := Aside0.mk bp3
            have HB3 := Aside0.mk hb3
            clear br3 hb3 bp3
            go_wp2
            have hbw : w3.heap.size ≠ gr ∧ w3.heap.size ≠ gp ∧ w.heap.size ≤ w3.heap.size := ⟨fun e => by have := blk_lt BR3.out; omega, fun e => by have := blk_lt BP3.out; omega, HB3.out.size⟩
            have br4 := blk_alloc BR3.out (.cells #[.int .u64 0, .int .u64 0] 81)
            have bp4 := blk_alloc BP3.out (.cells #[.int .u64 0, .int .u64 0] 81)
            have bw4 := heap_alloc_new w3 (.cells #[.int .u64 0, .int .u64 0] 81)
            have hb4 := below_alloc HB3.out (.cells #[.int .u64 0, .int .u64 0] 81)
            generalize w3.alloc (.cells #[.int .u64 0, .int .u64 0] 81) = w4 at br4 bp4 bw4 hb4 ⊢
            generalize w3.heap.size = gw at bw4 hbw ⊢
            have HGW := Aside0.mk hbw
            have BR4 := Aside0.mk br4
            have BP4 := Aside0.mk bp4
            have BW4 := Aside0.mk bw4
            have HB4 := Aside0.mk hb4
            clear hbw br4 bp4 bw4 hb4
            go_loopg [51] 17 (fun kq v51 w' => ∃ (i : Nat), i ≤ (ln + 7) / 8 ∧ kq = 17 - i ∧ v51 = .int .i64 (i : Int) ∧ Aside0 (Below w.heap.size w w') ∧ Aside0 (w'.heap[gr]? = some (.cells #[.bool false, .int .u64 0, .int .u64 0, .int .i64 0] 30 (0, 0))) ∧ Aside0 (w'.heap[gp]? = some (.cells #[.bool true, .int .u64 0, .int .u64 0, .int .i64 ln] 30 (0, 0))) ∧ Aside0 (w'.heap[gw]? = some (.cells #[.int .u64 (wd rest 0 (min 8 i)), .int .u64 (wd rest 8 (i - 8))] 81 (0, 0))))
            case atStart => exact ⟨0, by omega, rfl, rfl, HB4, BR4, BP4, BW4⟩
            case round =>
              obtain ⟨i, hi, rfl, rfl, HB5, BR5, BP5, BW5⟩ := hrel
              by_cases hlt : i < (ln + 7) / 8
              · match i, hi, hlt, BW5 with
                | 0, _, hlt, BW5 =>
                  have hd : decide ((0 : Int) < ((ln : Int) + 8 - 1) / 8) = true := decide_eq_true (by omega)
                  have hq : (0 < (rest.size : Int)) = True := eq_true (by have := hlt0.out; omega)
                  have hq' : 0 < rest.size := by have := hlt0.out; omega
                  have hz : ∀ h : 0 < rest.size, ((rest[0]'h).toNat : Int) = bt rest 0 := bt_at rest 0
                  have hc := (blk_cell BW5.out 0).trans (rfl : _ = some (Value.int .u64 (wd rest 0 0)))
                  have hf := blk_frozen BW5.out 0
                  have hwr := wd_range rest 0 0 (by omega)
                  have hrb := bt_range rest 0
                  go_wp2
                  go_region
                  clear hc hf hwr hrb hz hd
                  rw [wd_or rest 0 0 72057594037927936 (bt rest 0) (by omega) rfl rfl]
                  have bw6 := blk_drew (blk_put BW5.out 0 (.int .u64 (wd rest 0 1)) rfl)
                  have br6 := blk_drew (blk_far BR5.out (p := ⟨gw, 0, none⟩) (by simpa using fun e => HGW.out.1 e.symm) (.int .u64 (wd rest 0 1)))
                  have bp6 := blk_drew (blk_far BP5.out (p := ⟨gw, 0, none⟩) (by simpa using fun e => HGW.out.2.1 e.symm) (.int .u64 (wd rest 0 1)))
                  have hb6 := below_drew1 (HB5.out.setCell (p := ⟨gw, 0, none⟩) HGW.out.2.2 (.int .u64 (wd rest 0 1)))
                  generalize (World.setCell _ ⟨gw, 0, none⟩ (.int .u64 (wd rest 0 1))).drew = w6 at bw6 br6 bp6 hb6 ⊢
                  have BW6 := Aside0.mk bw6
                  have BR6 := Aside0.mk br6
                  have BP6 := Aside0.mk bp6
                  have HB6 := Aside0.mk hb6
                  clear bw6 br6 bp6 hb6
                  go_wp2
                  go_roundg (17 - (0 + 1))
                  case measure => omega
                  case rel => exact ⟨0 + 1, by omega, rfl, rfl, HB6, BR6, BP6, BW6⟩
                | 1, _, hlt, BW5 =>
                  have hd : decide ((1 : Int) < ((ln : Int) + 8 - 1) / 8) = true := decide_eq_true (by omega)
                  have hq : (1 < (rest.size : Int)) = True := eq_true (by have := hlt0.out; omega)
                  have hq' : 1 < rest.size := by have := hlt0.out; omega
                  have hz : ∀ h : 1 < rest.size, ((rest[1]'h).toNat : Int) = bt rest 1 := bt_at rest 1
                  have hc := (blk_cell BW5.out 0).trans (rfl : _ = some (Value.int .u64 (wd rest 0 1)))
                  have hf := blk_frozen BW5.out 0
                  have hwr := wd_range rest 0 1 (by omega)
                  have hrb := bt_range rest 1
                  go_wp2
                  go_region
                  clear hc hf hwr hrb hz hd
                  rw [wd_or rest 0 1 281474976710656 (bt rest 1) (by omega) rfl rfl]
                  have bw6 := blk_drew (blk_put BW5.out 0 (.int .u64 (wd rest 0 2)) rfl)
                  have br6 := blk_drew (blk_far BR5.out (p := ⟨gw, 0, none⟩) (by simpa using fun e => HGW.out.1 e.symm) (.int .u64 (wd rest 0 2)))
                  have bp6 := blk_drew (blk_far BP5.out (p := ⟨gw, 0, none⟩) (by simpa using fun e => HGW.out.2.1 e.symm) (.int .u64 (wd rest 0 2)))
                  have hb6 := below_drew1 (HB5.out.setCell (p := ⟨gw, 0, none⟩) HGW.out.2.2 (.int .u64 (wd rest 0 2)))
                  generalize (World.setCell _ ⟨gw, 0, none⟩ (.int .u64 (wd rest 0 2))).drew = w6 at bw6 br6 bp6 hb6 ⊢
                  have BW6 := Aside0.mk bw6
                  have BR6 := Aside0.mk br6
                  have BP6 := Aside0.mk bp6
                  have HB6 := Aside0.mk hb6
                  clear bw6 br6 bp6 hb6
                  go_wp2
                  go_roundg (17 - (1 + 1))
                  case measure => omega
                  case rel => exact ⟨1 + 1, by omega, rfl, rfl, HB6, BR6, BP6, BW6⟩
                | 2, _, hlt, BW5 =>
                  have hd : decide ((2 : Int) < ((ln : Int) + 8 - 1) / 8) = true := decide_eq_true (by omega)
                  have hq : (2 < (rest.size : Int)) = True := eq_true (by have := hlt0.out; omega)
                  have hq' : 2 < rest.size := by have := hlt0.out; omega
                  have hz : ∀ h : 2 < rest.size, ((rest[2]'h).toNat : Int) = bt rest 2 := bt_at rest 2
                  have hc := (blk_cell BW5.out 0).trans (rfl : _ = some (Value.int .u64 (wd rest 0 2)))
                  have hf := blk_frozen BW5.out 0
                  have hwr := wd_range rest 0 2 (by omega)
                  have hrb := bt_range rest 2
                  go_wp2
                  go_region
                  clear hc hf hwr hrb hz hd
                  rw [wd_or rest 0 2 1099511627776 (bt rest 2) (by omega) rfl rfl]
                  have bw6 := blk_drew (blk_put BW5.out 0 (.int .u64 (wd rest 0 3)) rfl)
                  have br6 := blk_drew (blk_far BR5.out (p := ⟨gw, 0, none⟩) (by simpa using fun e => HGW.out.1 e.symm) (.int .u64 (wd rest 0 3)))
                  have bp6 := blk_drew (blk_far BP5.out (p := ⟨gw, 0, none⟩) (by simpa using fun e => HGW.out.2.1 e.symm) (.int .u64 (wd rest 0 3)))
                  have hb6 := below_drew1 (HB5.out.setCell (p := ⟨gw, 0, none⟩) HGW.out.2.2 (.int .u64 (wd rest 0 3)))
                  generalize (World.setCell _ ⟨gw, 0, none⟩ (.int .u64 (wd rest 0 3))).drew = w6 at bw6 br6 bp6 hb6 ⊢
                  have BW6 := Aside0.mk bw6
                  have BR6 := Aside0.mk br6
                  have BP6 := Aside0.mk bp6
                  have HB6 := Aside0.mk hb6
                  clear bw6 br6 bp6 hb6
                  go_wp2
                  go_roundg (17 - (2 + 1))
                  case measure => omega
                  case rel => exact ⟨2 + 1, by omega, rfl, rfl, HB6, BR6, BP6, BW6⟩
                | 3, _, hlt, BW5 =>
                  have hd : decide ((3 : Int) < ((ln : Int) + 8 - 1) / 8) = true := decide_eq_true (by omega)
                  have hq : (3 < (rest.size : Int)) = True := eq_true (by have := hlt0.out; omega)
                  have hq' : 3 < rest.size := by have := hlt0.out; omega
                  have hz : ∀ h : 3 < rest.size, ((rest[3]'h).toNat : Int) = bt rest 3 := bt_at rest 3
                  have hc := (blk_cell BW5.out 0).trans (rfl : _ = some (Value.int .u64 (wd rest 0 3)))
                  have hf := blk_frozen BW5.out 0
                  have hwr := wd_range rest 0 3 (by omega)
                  have hrb := bt_range rest 3
                  go_wp2
                  go_region
                  clear hc hf hwr hrb hz hd
                  rw [wd_or rest 0 3 4294967296 (bt rest 3) (by omega) rfl rfl]
                  have bw6 := blk_drew (blk_put BW5.out 0 (.int .u64 (wd rest 0 4)) rfl)
                  have br6 := blk_drew (blk_far BR5.out (p := ⟨gw, 0, none⟩) (by simpa using fun e => HGW.out.1 e.symm) (.int .u64 (wd rest 0 4)))
                  have bp6 := blk_drew (blk_far BP5.out (p := ⟨gw, 0, none⟩) (by simpa using fun e => HGW.out.2.1 e.symm) (.int .u64 (wd rest 0 4)))
                  have hb6 := below_drew1 (HB5.out.setCell (p := ⟨gw, 0, none⟩) HGW.out.2.2 (.int .u64 (wd rest 0 4)))
                  generalize (World.setCell _ ⟨gw, 0, none⟩ (.int .u64 (wd rest 0 4))).drew = w6 at bw6 br6 bp6 hb6 ⊢
                  have BW6 := Aside0.mk bw6
                  have BR6 := Aside0.mk br6
                  have BP6 := Aside0.mk bp6
                  have HB6 := Aside0.mk hb6
                  clear bw6 br6 bp6 hb6
                  go_wp2
                  go_roundg (17 - (3 + 1))
                  case measure => omega
                  case rel => exact ⟨3 + 1, by omega, rfl, rfl, HB6, BR6, BP6, BW6⟩
                | 4, _, hlt, BW5 =>
                  have hd : decide ((4 : Int) < ((ln : Int) + 8 - 1) / 8) = true := decide_eq_true (by omega)
                  have hq : (4 < (rest.size : Int)) = True := eq_true (by have := hlt0.out; omega)
                  have hq' : 4 < rest.size := by have := hlt0.out; omega
                  have hz : ∀ h : 4 < rest.size, ((rest[4]'h).toNat : Int) = bt rest 4 := bt_at rest 4
                  have hc := (blk_cell BW5.out 0).trans (rfl : _ = some (Value.int .u64 (wd rest 0 4)))
                  have hf := blk_frozen BW5.out 0
                  have hwr := wd_range rest 0 4 (by omega)
                  have hrb := bt_range rest 4
                  go_wp2
                  go_region
                  clear hc hf hwr hrb hz hd
                  rw [wd_or rest 0 4 16777216 (bt rest 4) (by omega) rfl rfl]
                  have bw6 := blk_drew (blk_put BW5.out 0 (.int .u64 (wd rest 0 5)) rfl)
                  have br6 := blk_drew (blk_far BR5.out (p := ⟨gw, 0, none⟩) (by simpa using fun e => HGW.out.1 e.symm) (.int .u64 (wd rest 0 5)))
                  have bp6 := blk_drew (blk_far BP5.out (p := ⟨gw, 0, none⟩) (by simpa using fun e => HGW.out.2.1 e.symm) (.int .u64 (wd rest 0 5)))
                  have hb6 := below_drew1 (HB5.out.setCell (p := ⟨gw, 0, none⟩) HGW.out.2.2 (.int .u64 (wd rest 0 5)))
                  generalize (World.setCell _ ⟨gw, 0, none⟩ (.int .u64 (wd rest 0 5))).drew = w6 at bw6 br6 bp6 hb6 ⊢
                  have BW6 := Aside0.mk bw6
                  have BR6 := Aside0.mk br6
                  have BP6 := Aside0.mk bp6
                  have HB6 := Aside0.mk hb6
                  clear bw6 br6 bp6 hb6
                  go_wp2
                  go_roundg (17 - (4 + 1))
                  case measure => omega
                  case rel => exact ⟨4 + 1, by omega, rfl, rfl, HB6, BR6, BP6, BW6⟩
                | 5, _, hlt, BW5 =>
                  have hd : decide ((5 : Int) < ((ln : Int) + 8 - 1) / 8) = true := decide_eq_true (by omega)
                  have hq : (5 < (rest.size : Int)) = True := eq_true (by have := hlt0.out; omega)
                  have hq' : 5 < rest.size := by have := hlt0.out; omega
                  have hz : ∀ h : 5 < rest.size, ((rest[5]'h).toNat : Int) = bt rest 5 := bt_at rest 5
                  have hc := (blk_cell BW5.out 0).trans (rfl : _ = some (Value.int .u64 (wd rest 0 5)))
                  have hf := blk_frozen BW5.out 0
                  have hwr := wd_range rest 0 5 (by omega)
                  have hrb := bt_range rest 5
                  go_wp2
                  go_region
                  clear hc hf hwr hrb hz hd
                  rw [wd_or rest 0 5 65536 (bt rest 5) (by omega) rfl rfl]
                  have bw6 := blk_drew (blk_put BW5.out 0 (.int .u64 (wd rest 0 6)) rfl)
                  have br6 := blk_drew (blk_far BR5.out (p := ⟨gw, 0, none⟩) (by simpa using fun e => HGW.out.1 e.symm) (.int .u64 (wd rest 0 6)))
                  have bp6 := blk_drew (blk_far BP5.out (p := ⟨gw, 0, none⟩) (by simpa using fun e => HGW.out.2.1 e.symm) (.int .u64 (wd rest 0 6)))
                  have hb6 := below_drew1 (HB5.out.setCell (p := ⟨gw, 0, none⟩) HGW.out.2.2 (.int .u64 (wd rest 0 6)))
                  generalize (World.setCell _ ⟨gw, 0, none⟩ (.int .u64 (wd rest 0 6))).drew = w6 at bw6 br6 bp6 hb6 ⊢
                  have BW6 := Aside0.mk bw6
                  have BR6 := Aside0.mk br6
                  have BP6 := Aside0.mk bp6
                  have HB6 := Aside0.mk hb6
                  clear bw6 br6 bp6 hb6
                  go_wp2
                  go_roundg (17 - (5 + 1))
                  case measure => omega
                  case rel => exact ⟨5 + 1, by omega, rfl, rfl, HB6, BR6, BP6, BW6⟩
                | 6, _, hlt, BW5 =>
                  have hd : decide ((6 : Int) < ((ln : Int) + 8 - 1) / 8) = true := decide_eq_true (by omega)
                  have hq : (6 < (rest.size : Int)) = True := eq_true (by have := hlt0.out; omega)
                  have hq' : 6 < rest.size := by have := hlt0.out; omega
                  have hz : ∀ h : 6 < rest.size, ((rest[6]'h).toNat : Int) = bt rest 6 := bt_at rest 6
                  have hc := (blk_cell BW5.out 0).trans (rfl : _ = some (Value.int .u64 (wd rest 0 6)))
                  have hf := blk_frozen BW5.out 0
                  have hwr := wd_range rest 0 6 (by omega)
                  have hrb := bt_range rest 6
                  go_wp2
                  go_region
                  clear hc hf hwr hrb hz hd
                  rw [wd_or rest 0 6 256 (bt rest 6) (by omega) rfl rfl]
                  have bw6 := blk_drew (blk_put BW5.out 0 (.int .u64 (wd rest 0 7)) rfl)
                  have br6 := blk_drew (blk_far BR5.out (p := ⟨gw, 0, none⟩) (by simpa using fun e => HGW.out.1 e.symm) (.int .u64 (wd rest 0 7)))
                  have bp6 := blk_drew (blk_far BP5.out (p := ⟨gw, 0, none⟩) (by simpa using fun e => HGW.out.2.1 e.symm) (.int .u64 (wd rest 0 7)))
                  have hb6 := below_drew1 (HB5.out.setCell (p := ⟨gw, 0, none⟩) HGW.out.2.2 (.int .u64 (wd rest 0 7)))
                  generalize (World.setCell _ ⟨gw, 0, none⟩ (.int .u64 (wd rest 0 7))).drew = w6 at bw6 br6 bp6 hb6 ⊢
                  have BW6 := Aside0.mk bw6
                  have BR6 := Aside0.mk br6
                  have BP6 := Aside0.mk bp6
                  have HB6 := Aside0.mk hb6
                  clear bw6 br6 bp6 hb6
                  go_wp2
                  go_roundg (17 - (6 + 1))
                  case measure => omega
                  case rel => exact ⟨6 + 1, by omega, rfl, rfl, HB6, BR6, BP6, BW6⟩
                | 7, _, hlt, BW5 =>
                  have hd : decide ((7 : Int) < ((ln : Int) + 8 - 1) / 8) = true := decide_eq_true (by omega)
                  have hq : (7 < (rest.size : Int)) = True := eq_true (by have := hlt0.out; omega)
                  have hq' : 7 < rest.size := by have := hlt0.out; omega
                  have hz : ∀ h : 7 < rest.size, ((rest[7]'h).toNat : Int) = bt rest 7 := bt_at rest 7
                  have hc := (blk_cell BW5.out 0).trans (rfl : _ = some (Value.int .u64 (wd rest 0 7)))
                  have hf := blk_frozen BW5.out 0
                  have hwr := wd_range rest 0 7 (by omega)
                  have hrb := bt_range rest 7
                  go_wp2
                  go_region
                  clear hc hf hwr hrb hz hd
                  rw [wd_or7 rest 0 (bt rest 7) rfl]
                  have bw6 := blk_drew (blk_put BW5.out 0 (.int .u64 (wd rest 0 8)) rfl)
                  have br6 := blk_drew (blk_far BR5.out (p := ⟨gw, 0, none⟩) (by simpa using fun e => HGW.out.1 e.symm) (.int .u64 (wd rest 0 8)))
                  have bp6 := blk_drew (blk_far BP5.out (p := ⟨gw, 0, none⟩) (by simpa using fun e => HGW.out.2.1 e.symm) (.int .u64 (wd rest 0 8)))
                  have hb6 := below_drew1 (HB5.out.setCell (p := ⟨gw, 0, none⟩) HGW.out.2.2 (.int .u64 (wd rest 0 8)))
                  generalize (World.setCell _ ⟨gw, 0, none⟩ (.int .u64 (wd rest 0 8))).drew = w6 at bw6 br6 bp6 hb6 ⊢
                  have BW6 := Aside0.mk bw6
                  have BR6 := Aside0.mk br6
                  have BP6 := Aside0.mk bp6
                  have HB6 := Aside0.mk hb6
                  clear bw6 br6 bp6 hb6
                  go_wp2
                  go_roundg (17 - (7 + 1))
                  case measure => omega
                  case rel => exact ⟨7 + 1, by omega, rfl, rfl, HB6, BR6, BP6, BW6⟩
                | 8, _, hlt, BW5 =>
                  have hd : decide ((8 : Int) < ((ln : Int) + 8 - 1) / 8) = true := decide_eq_true (by omega)
                  have hq : (8 < (rest.size : Int)) = True := eq_true (by have := hlt0.out; omega)
                  have hq' : 8 < rest.size := by have := hlt0.out; omega
                  have hz : ∀ h : 8 < rest.size, ((rest[8]'h).toNat : Int) = bt rest 8 := bt_at rest 8
                  have hc := (blk_cell BW5.out 1).trans (rfl : _ = some (Value.int .u64 (wd rest 8 0)))
                  have hf := blk_frozen BW5.out 1
                  have hwr := wd_range rest 8 0 (by omega)
                  have hrb := bt_range rest 8
                  go_wp2
                  go_region
                  clear hc hf hwr hrb hz hd
                  rw [wd_or rest 8 0 72057594037927936 (bt rest 8) (by omega) rfl rfl]
                  have bw6 := blk_drew (blk_put BW5.out 1 (.int .u64 (wd rest 8 1)) rfl)
                  have br6 := blk_drew (blk_far BR5.out (p := ⟨gw, 1, none⟩) (by simpa using fun e => HGW.out.1 e.symm) (.int .u64 (wd rest 8 1)))
                  have bp6 := blk_drew (blk_far BP5.out (p := ⟨gw, 1, none⟩) (by simpa using fun e => HGW.out.2.1 e.symm) (.int .u64 (wd rest 8 1)))
                  have hb6 := below_drew1 (HB5.out.setCell (p := ⟨gw, 1, none⟩) HGW.out.2.2 (.int .u64 (wd rest 8 1)))
                  generalize (World.setCell _ ⟨gw, 1, none⟩ (.int .u64 (wd rest 8 1))).drew = w6 at bw6 br6 bp6 hb6 ⊢
                  have BW6 := Aside0.mk bw6
                  have BR6 := Aside0.mk br6
                  have BP6 := Aside0.mk bp6
                  have HB6 := Aside0.mk hb6
                  clear bw6 br6 bp6 hb6
                  go_wp2
                  go_roundg (17 - (8 + 1))
                  case measure => omega
                  case rel => exact ⟨8 + 1, by omega, rfl, rfl, HB6, BR6, BP6, BW6⟩
                | 9, _, hlt, BW5 =>
                  have hd : decide ((9 : Int) < ((ln : Int) + 8 - 1) / 8) = true := decide_eq_true (by omega)
                  have hq : (9 < (rest.size : Int)) = True := eq_true (by have := hlt0.out; omega)
                  have hq' : 9 < rest.size := by have := hlt0.out; omega
                  have hz : ∀ h : 9 < rest.size, ((rest[9]'h).toNat : Int) = bt rest 9 := bt_at rest 9
                  have hc := (blk_cell BW5.out 1).trans (rfl : _ = some (Value.int .u64 (wd rest 8 1)))
                  have hf := blk_frozen BW5.out 1
                  have hwr := wd_range rest 8 1 (by omega)
                  have hrb := bt_range rest 9
                  go_wp2
                  go_region
                  clear hc hf hwr hrb hz hd
                  rw [wd_or rest 8 1 281474976710656 (bt rest 9) (by omega) rfl rfl]
                  have bw6 := blk_drew (blk_put BW5.out 1 (.int .u64 (wd rest 8 2)) rfl)
                  have br6 := blk_drew (blk_far BR5.out (p := ⟨gw, 1, none⟩) (by simpa using fun e => HGW.out.1 e.symm) (.int .u64 (wd rest 8 2)))
                  have bp6 := blk_drew (blk_far BP5.out (p := ⟨gw, 1, none⟩) (by simpa using fun e => HGW.out.2.1 e.symm) (.int .u64 (wd rest 8 2)))
                  have hb6 := below_drew1 (HB5.out.setCell (p := ⟨gw, 1, none⟩) HGW.out.2.2 (.int .u64 (wd rest 8 2)))
                  generalize (World.setCell _ ⟨gw, 1, none⟩ (.int .u64 (wd rest 8 2))).drew = w6 at bw6 br6 bp6 hb6 ⊢
                  have BW6 := Aside0.mk bw6
                  have BR6 := Aside0.mk br6
                  have BP6 := Aside0.mk bp6
                  have HB6 := Aside0.mk hb6
                  clear bw6 br6 bp6 hb6
                  go_wp2
                  go_roundg (17 - (9 + 1))
                  case measure => omega
                  case rel => exact ⟨9 + 1, by omega, rfl, rfl, HB6, BR6, BP6, BW6⟩
                | 10, _, hlt, BW5 =>
                  have hd : decide ((10 : Int) < ((ln : Int) + 8 - 1) / 8) = true := decide_eq_true (by omega)
                  have hq : (10 < (rest.size : Int)) = True := eq_true (by have := hlt0.out; omega)
                  have hq' : 10 < rest.size := by have := hlt0.out; omega
                  have hz : ∀ h : 10 < rest.size, ((rest[10]'h).toNat : Int) = bt rest 10 := bt_at rest 10
                  have hc := (blk_cell BW5.out 1).trans (rfl : _ = some (Value.int .u64 (wd rest 8 2)))
                  have hf := blk_frozen BW5.out 1
                  have hwr := wd_range rest 8 2 (by omega)
                  have hrb := bt_range rest 10
                  go_wp2
                  go_region
                  clear hc hf hwr hrb hz hd
                  rw [wd_or rest 8 2 1099511627776 (bt rest 10) (by omega) rfl rfl]
                  have bw6 := blk_drew (blk_put BW5.out 1 (.int .u64 (wd rest 8 3)) rfl)
                  have br6 := blk_drew (blk_far BR5.out (p := ⟨gw, 1, none⟩) (by simpa using fun e => HGW.out.1 e.symm) (.int .u64 (wd rest 8 3)))
                  have bp6 := blk_drew (blk_far BP5.out (p := ⟨gw, 1, none⟩) (by simpa using fun e => HGW.out.2.1 e.symm) (.int .u64 (wd rest 8 3)))
                  have hb6 := below_drew1 (HB5.out.setCell (p := ⟨gw, 1, none⟩) HGW.out.2.2 (.int .u64 (wd rest 8 3)))
                  generalize (World.setCell _ ⟨gw, 1, none⟩ (.int .u64 (wd rest 8 3))).drew = w6 at bw6 br6 bp6 hb6 ⊢
                  have BW6 := Aside0.mk bw6
                  have BR6 := Aside0.mk br6
                  have BP6 := Aside0.mk bp6
                  have HB6 := Aside0.mk hb6
                  clear bw6 br6 bp6 hb6
                  go_wp2
                  go_roundg (17 - (10 + 1))
                  case measure => omega
                  case rel => exact ⟨10 + 1, by omega, rfl, rfl, HB6, BR6, BP6, BW6⟩
                | 11, _, hlt, BW5 =>
                  have hd : decide ((11 : Int) < ((ln : Int) + 8 - 1) / 8) = true := decide_eq_true (by omega)
                  have hq : (11 < (rest.size : Int)) = True := eq_true (by have := hlt0.out; omega)
                  have hq' : 11 < rest.size := by have := hlt0.out; omega
                  have hz : ∀ h : 11 < rest.size, ((rest[11]'h).toNat : Int) = bt rest 11 := bt_at rest 11
                  have hc := (blk_cell BW5.out 1).trans (rfl : _ = some (Value.int .u64 (wd rest 8 3)))
                  have hf := blk_frozen BW5.out 1
                  have hwr := wd_range rest 8 3 (by omega)
                  have hrb := bt_range rest 11
                  go_wp2
                  go_region
                  clear hc hf hwr hrb hz hd
                  rw [wd_or rest 8 3 4294967296 (bt rest 11) (by omega) rfl rfl]
                  have bw6 := blk_drew (blk_put BW5.out 1 (.int .u64 (wd rest 8 4)) rfl)
                  have br6 := blk_drew (blk_far BR5.out (p := ⟨gw, 1, none⟩) (by simpa using fun e => HGW.out.1 e.symm) (.int .u64 (wd rest 8 4)))
                  have bp6 := blk_drew (blk_far BP5.out (p := ⟨gw, 1, none⟩) (by simpa using fun e => HGW.out.2.1 e.symm) (.int .u64 (wd rest 8 4)))
                  have hb6 := below_drew1 (HB5.out.setCell (p := ⟨gw, 1, none⟩) HGW.out.2.2 (.int .u64 (wd rest 8 4)))
                  generalize (World.setCell _ ⟨gw, 1, none⟩ (.int .u64 (wd rest 8 4))).drew = w6 at bw6 br6 bp6 hb6 ⊢
                  have BW6 := Aside0.mk bw6
                  have BR6 := Aside0.mk br6
                  have BP6 := Aside0.mk bp6
                  have HB6 := Aside0.mk hb6
                  clear bw6 br6 bp6 hb6
                  go_wp2
                  go_roundg (17 - (11 + 1))
                  case measure => omega
                  case rel => exact ⟨11 + 1, by omega, rfl, rfl, HB6, BR6, BP6, BW6⟩
                | 12, _, hlt, BW5 =>
                  have hd : decide ((12 : Int) < ((ln : Int) + 8 - 1) / 8) = true := decide_eq_true (by omega)
                  have hq : (12 < (rest.size : Int)) = True := eq_true (by have := hlt0.out; omega)
                  have hq' : 12 < rest.size := by have := hlt0.out; omega
                  have hz : ∀ h : 12 < rest.size, ((rest[12]'h).toNat : Int) = bt rest 12 := bt_at rest 12
                  have hc := (blk_cell BW5.out 1).trans (rfl : _ = some (Value.int .u64 (wd rest 8 4)))
                  have hf := blk_frozen BW5.out 1
                  have hwr := wd_range rest 8 4 (by omega)
                  have hrb := bt_range rest 12
                  go_wp2
                  go_region
                  clear hc hf hwr hrb hz hd
                  rw [wd_or rest 8 4 16777216 (bt rest 12) (by omega) rfl rfl]
                  have bw6 := blk_drew (blk_put BW5.out 1 (.int .u64 (wd rest 8 5)) rfl)
                  have br6 := blk_drew (blk_far BR5.out (p := ⟨gw, 1, none⟩) (by simpa using fun e => HGW.out.1 e.symm) (.int .u64 (wd rest 8 5)))
                  have bp6 := blk_drew (blk_far BP5.out (p := ⟨gw, 1, none⟩) (by simpa using fun e => HGW.out.2.1 e.symm) (.int .u64 (wd rest 8 5)))
                  have hb6 := below_drew1 (HB5.out.setCell (p := ⟨gw, 1, none⟩) HGW.out.2.2 (.int .u64 (wd rest 8 5)))
                  generalize (World.setCell _ ⟨gw, 1, none⟩ (.int .u64 (wd rest 8 5))).drew = w6 at bw6 br6 bp6 hb6 ⊢
                  have BW6 := Aside0.mk bw6
                  have BR6 := Aside0.mk br6
                  have BP6 := Aside0.mk bp6
                  have HB6 := Aside0.mk hb6
                  clear bw6 br6 bp6 hb6
                  go_wp2
                  go_roundg (17 - (12 + 1))
                  case measure => omega
                  case rel => exact ⟨12 + 1, by omega, rfl, rfl, HB6, BR6, BP6, BW6⟩
                | 13, _, hlt, BW5 =>
                  have hd : decide ((13 : Int) < ((ln : Int) + 8 - 1) / 8) = true := decide_eq_true (by omega)
                  have hq : (13 < (rest.size : Int)) = True := eq_true (by have := hlt0.out; omega)
                  have hq' : 13 < rest.size := by have := hlt0.out; omega
                  have hz : ∀ h : 13 < rest.size, ((rest[13]'h).toNat : Int) = bt rest 13 := bt_at rest 13
                  have hc := (blk_cell BW5.out 1).trans (rfl : _ = some (Value.int .u64 (wd rest 8 5)))
                  have hf := blk_frozen BW5.out 1
                  have hwr := wd_range rest 8 5 (by omega)
                  have hrb := bt_range rest 13
                  go_wp2
                  go_region
                  clear hc hf hwr hrb hz hd
                  rw [wd_or rest 8 5 65536 (bt rest 13) (by omega) rfl rfl]
                  have bw6 := blk_drew (blk_put BW5.out 1 (.int .u64 (wd rest 8 6)) rfl)
                  have br6 := blk_drew (blk_far BR5.out (p := ⟨gw, 1, none⟩) (by simpa using fun e => HGW.out.1 e.symm) (.int .u64 (wd rest 8 6)))
                  have bp6 := blk_drew (blk_far BP5.out (p := ⟨gw, 1, none⟩) (by simpa using fun e => HGW.out.2.1 e.symm) (.int .u64 (wd rest 8 6)))
                  have hb6 := below_drew1 (HB5.out.setCell (p := ⟨gw, 1, none⟩) HGW.out.2.2 (.int .u64 (wd rest 8 6)))
                  generalize (World.setCell _ ⟨gw, 1, none⟩ (.int .u64 (wd rest 8 6))).drew = w6 at bw6 br6 bp6 hb6 ⊢
                  have BW6 := Aside0.mk bw6
                  have BR6 := Aside0.mk br6
                  have BP6 := Aside0.mk bp6
                  have HB6 := Aside0.mk hb6
                  clear bw6 br6 bp6 hb6
                  go_wp2
                  go_roundg (17 - (13 + 1))
                  case measure => omega
                  case rel => exact ⟨13 + 1, by omega, rfl, rfl, HB6, BR6, BP6, BW6⟩
                | 14, _, hlt, BW5 =>
                  have hd : decide ((14 : Int) < ((ln : Int) + 8 - 1) / 8) = true := decide_eq_true (by omega)
                  have hq : (14 < (rest.size : Int)) = True := eq_true (by have := hlt0.out; omega)
                  have hq' : 14 < rest.size := by have := hlt0.out; omega
                  have hz : ∀ h : 14 < rest.size, ((rest[14]'h).toNat : Int) = bt rest 14 := bt_at rest 14
                  have hc := (blk_cell BW5.out 1).trans (rfl : _ = some (Value.int .u64 (wd rest 8 6)))
                  have hf := blk_frozen BW5.out 1
                  have hwr := wd_range rest 8 6 (by omega)
                  have hrb := bt_range rest 14
                  go_wp2
                  go_region
                  clear hc hf hwr hrb hz hd
                  rw [wd_or rest 8 6 256 (bt rest 14) (by omega) rfl rfl]
                  have bw6 := blk_drew (blk_put BW5.out 1 (.int .u64 (wd rest 8 7)) rfl)
                  have br6 := blk_drew (blk_far BR5.out (p := ⟨gw, 1, none⟩) (by simpa using fun e => HGW.out.1 e.symm) (.int .u64 (wd rest 8 7)))
                  have bp6 := blk_drew (blk_far BP5.out (p := ⟨gw, 1, none⟩) (by simpa using fun e => HGW.out.2.1 e.symm) (.int .u64 (wd rest 8 7)))
                  have hb6 := below_drew1 (HB5.out.setCell (p := ⟨gw, 1, none⟩) HGW.out.2.2 (.int .u64 (wd rest 8 7)))
                  generalize (World.setCell _ ⟨gw, 1, none⟩ (.int .u64 (wd rest 8 7))).drew = w6 at bw6 br6 bp6 hb6 ⊢
                  have BW6 := Aside0.mk bw6
                  have BR6 := Aside0.mk br6
                  have BP6 := Aside0.mk bp6
                  have HB6 := Aside0.mk hb6
                  clear bw6 br6 bp6 hb6
                  go_wp2
                  go_roundg (17 - (14 + 1))
                  case measure => omega
                  case rel => exact ⟨14 + 1, by omega, rfl, rfl, HB6, BR6, BP6, BW6⟩
                | 15, _, hlt, BW5 =>
                  have hd : decide ((15 : Int) < ((ln : Int) + 8 - 1) / 8) = true := decide_eq_true (by omega)
                  have hq : (15 < (rest.size : Int)) = True := eq_true (by have := hlt0.out; omega)
                  have hq' : 15 < rest.size := by have := hlt0.out; omega
                  have hz : ∀ h : 15 < rest.size, ((rest[15]'h).toNat : Int) = bt rest 15 := bt_at rest 15
                  have hc := (blk_cell BW5.out 1).trans (rfl : _ = some (Value.int .u64 (wd rest 8 7)))
                  have hf := blk_frozen BW5.out 1
                  have hwr := wd_range rest 8 7 (by omega)
                  have hrb := bt_range rest 15
                  go_wp2
                  go_region
                  clear hc hf hwr hrb hz hd
                  rw [wd_or7 rest 8 (bt rest 15) rfl]
                  have bw6 := blk_drew (blk_put BW5.out 1 (.int .u64 (wd rest 8 8)) rfl)
                  have br6 := blk_drew (blk_far BR5.out (p := ⟨gw, 1, none⟩) (by simpa using fun e => HGW.out.1 e.symm) (.int .u64 (wd rest 8 8)))
                  have bp6 := blk_drew (blk_far BP5.out (p := ⟨gw, 1, none⟩) (by simpa using fun e => HGW.out.2.1 e.symm) (.int .u64 (wd rest 8 8)))
                  have hb6 := below_drew1 (HB5.out.setCell (p := ⟨gw, 1, none⟩) HGW.out.2.2 (.int .u64 (wd rest 8 8)))
                  generalize (World.setCell _ ⟨gw, 1, none⟩ (.int .u64 (wd rest 8 8))).drew = w6 at bw6 br6 bp6 hb6 ⊢
                  have BW6 := Aside0.mk bw6
                  have BR6 := Aside0.mk br6
                  have BP6 := Aside0.mk bp6
                  have HB6 := Aside0.mk hb6
                  clear bw6 br6 bp6 hb6
                  go_wp2
                  go_roundg (17 - (15 + 1))
                  case measure => omega
                  case rel => exact ⟨15 + 1, by omega, rfl, rfl, HB6, BR6, BP6, BW6⟩
                | n + 16, _, hlt, _ => exact absurd hlt (by have := hc4.out; omega)
              · have hd : decide ((i : Int) < ((ln : Int) + 8 - 1) / 8) = false := decide_eq_false (by omega)
                obtain rfl : i = (ln + 7) / 8 := by omega
                have bw6 := BW5.out
                skip
                skip
                have hw0 := (blk_cell bw6 0).trans (rfl : _ = some (Value.int .u64 (wd rest 0 (min 8 ((ln + 7) / 8)))))
                have hw1 := (blk_cell bw6 1).trans (rfl : _ = some (Value.int .u64 (wd rest 8 ((ln + 7) / 8 - 8))))
                have hp0 := (blk_cell BP5.out 0).trans (rfl : _ = some (Value.bool true))
                have hp1 := (blk_cell BP5.out 1).trans (rfl : _ = some (Value.int .u64 0))
                have hp2 := (blk_cell BP5.out 2).trans (rfl : _ = some (Value.int .u64 0))
                have hp3 := (blk_cell BP5.out 3).trans (rfl : _ = some (Value.int .i64 ln))
                have hf0 := blk_frozen BP5.out 0
                have hf1 := blk_frozen BP5.out 1
                have hf2 := blk_frozen BP5.out 2
                have hf3 := blk_frozen BP5.out 3
                skip
                have bp7 : ((World.setCell wr ⟨gp, 1, none⟩ (.int .u64 (wd rest 0 (min 8 ((ln + 7) / 8))))).setCell ⟨gp, 2, none⟩ (.int .u64 (wd rest 8 ((ln + 7) / 8 - 8)))).heap[gp]? = some (.cells #[.bool true, .int .u64 (wd rest 0 (min 8 ((ln + 7) / 8))), .int .u64 (wd rest 8 ((ln + 7) / 8 - 8)), .int .i64 ln] 30 (0, 0)) := blk_put (blk_put BP5.out 1 (.int .u64 (wd rest 0 (min 8 ((ln + 7) / 8)))) rfl) 2 (.int .u64 (wd rest 8 ((ln + 7) / 8 - 8))) rfl
                have hgg : w.heap.size ≤ gp := by have := HGP.out; have := HGR.out; omega
                have br7 : ((World.setCell wr ⟨gp, 1, none⟩ (.int .u64 (wd rest 0 (min 8 ((ln + 7) / 8))))).setCell ⟨gp, 2, none⟩ (.int .u64 (wd rest 8 ((ln + 7) / 8 - 8)))).heap[gr]? = some (.cells #[.bool false, .int .u64 0, .int .u64 0, .int .i64 0] 30 (0, 0)) := blk_far (blk_far BR5.out (p := ⟨gp, 1, none⟩) (by have := HGP.out; simp; omega) (.int .u64 (wd rest 0 (min 8 ((ln + 7) / 8))))) (p := ⟨gp, 2, none⟩) (by have := HGP.out; simp; omega) (.int .u64 (wd rest 8 ((ln + 7) / 8 - 8)))
                have hb7 : Below w.heap.size w ((World.setCell wr ⟨gp, 1, none⟩ (.int .u64 (wd rest 0 (min 8 ((ln + 7) / 8))))).setCell ⟨gp, 2, none⟩ (.int .u64 (wd rest 8 ((ln + 7) / 8 - 8)))) := (HB5.out.setCell (p := ⟨gp, 1, none⟩) hgg (.int .u64 (wd rest 0 (min 8 ((ln + 7) / 8))))).setCell (p := ⟨gp, 2, none⟩) hgg (.int .u64 (wd rest 8 ((ln + 7) / 8 - 8)))
                have BP7 := Aside0.mk bp7
                have BR7 := Aside0.mk br7
                have HB7 := Aside0.mk hb7
                clear bp7 br7 hb7
                have hq0 := (blk_cell BP7.out 0).trans (rfl : _ = some (Value.bool true))
                have hq1 := (blk_cell BP7.out 1).trans (rfl : _ = some (Value.int .u64 (wd rest 0 (min 8 ((ln + 7) / 8)))))
                have hq2 := (blk_cell BP7.out 2).trans (rfl : _ = some (Value.int .u64 (wd rest 8 ((ln + 7) / 8 - 8))))
                have hq3 := (blk_cell BP7.out 3).trans (rfl : _ = some (Value.int .i64 ln))
                go_wp2_with (fail)
                refine (addr_Check.calls k true (wd rest 0 (min 8 ((ln + 7) / 8))) (wd rest 8 ((ln + 7) / 8 - 8)) ln c _ (by simpa using C.out)).mono ?_
                rintro e w8 ⟨rfl, hb⟩
                have BP8 := Aside0.mk (blk_below BP7.out hb)
                have BR8 := Aside0.mk (blk_below BR7.out hb)
                have HB8 := Aside0.mk (below_step HB7.out hb)
                clear hb hq0 hq1 hq2 hq3 hw0 hw1 hp0 hp1 hp2 hp3 hf0 hf1 hf2 hf3
                have hr0 := (blk_cell BR8.out 0).trans rfl
                have hr1 := (blk_cell BR8.out 1).trans rfl
                have hr2 := (blk_cell BR8.out 2).trans rfl
                have hr3 := (blk_cell BR8.out 3).trans rfl
                have hf0 := blk_frozen BR8.out 0
                have hf1 := blk_frozen BR8.out 1
                have hf2 := blk_frozen BR8.out 2
                have hf3 := blk_frozen BR8.out 3
                have hge : w.heap.size ≤ gr := by have := HGR.out; omega
                by_cases hc : c = 0
                · subst hc
                  have h := H.out
                  rw [if_pos rfl] at h
                  simp only [Option.some.injEq, Prod.mk.injEq] at h
                  obtain ⟨rfl, rfl, rfl, rfl, rfl, rfl⟩ := h
                  have hp0 := (blk_cell BP8.out 0).trans (rfl : _ = some (Value.bool true))
                  have hp1 := (blk_cell BP8.out 1).trans (rfl : _ = some (Value.int .u64 (wd rest 0 (min 8 ((ln + 7) / 8)))))
                  have hp2 := (blk_cell BP8.out 2).trans (rfl : _ = some (Value.int .u64 (wd rest 8 ((ln + 7) / 8 - 8))))
                  have hp3 := (blk_cell BP8.out 3).trans (rfl : _ = some (Value.int .i64 ln))
                  obtain ⟨n, hn7⟩ : ∃ n : Nat, (((ln : Int) + 8 - 1) / 8) = (n : Int) := ⟨(ln + 7) / 8, by omega⟩
                  have HN : Aside0 (n = (ln + 7) / 8) := ⟨by omega⟩
                  have hn8 : n ≤ rest.size := by have := hlt0.out; have := HN.out; omega
                  have hn9 : (0 ≤ (n : Int)) = True := eq_true (by omega)
                  rw [hn7]
                  clear hn7
                  go_wp2
                  go_region
                  go_wp2
                  obtain rfl := HN.out
                  refine bodyPost_ret (results_ctt rfl _ _ gr 30 #[.bool true, .int .u64 (wd rest 0 (min 8 ((ln + 7) / 8))), .int .u64 (wd rest 8 ((ln + 7) / 8 - 8)), .int .i64 ln] (0, 0) _ rfl (blk_put (blk_put (blk_put (blk_put BR8.out 0 (.bool true) rfl) 1 (.int .u64 (wd rest 0 (min 8 ((ln + 7) / 8)))) rfl) 2 (.int .u64 (wd rest 8 ((ln + 7) / 8 - 8))) rfl) 3 (.int .i64 ln) rfl) Try.underlying30 rfl (by kernel_rfl)) rfl ?_
                  exact ⟨rfl, below_drew1 ((((HB8.out.setCell (p := ⟨gr, 0, none⟩) hge _).setCell (p := ⟨gr, 1, none⟩) hge _).setCell (p := ⟨gr, 2, none⟩) hge _).setCell (p := ⟨gr, 3, none⟩) hge _)⟩
                · have h := H.out
                  rw [if_neg hc] at h
                  have hcb : (c != 0) = true := bne_iff_ne.mpr hc
                  simp only [pfx_none, Option.some.injEq, Prod.mk.injEq] at h
                  obtain ⟨rfl, rfl, rfl, rfl, rfl, rfl⟩ := h
                  go_wp2
                  refine bodyPost_ret (results_ctt rfl _ _ gr 30 #[.bool false, .int .u64 0, .int .u64 0, .int .i64 0] (0, 0) _ rfl (blk_put (blk_put (blk_put (blk_put BR8.out 0 (.bool false) rfl) 1 (.int .u64 0) rfl) 2 (.int .u64 0) rfl) 3 (.int .i64 0) rfl) Try.underlying30 rfl (by kernel_rfl)) rfl ?_
                  exact ⟨rfl, (((HB8.out.setCell (p := ⟨gr, 0, none⟩) hge _).setCell (p := ⟨gr, 1, none⟩) hge _).setCell (p := ⟨gr, 2, none⟩) hge _).setCell (p := ⟨gr, 3, none⟩) hge _⟩
      · rw [if_neg c2'] at h
        simp only [pfx_none, Option.some.injEq, Prod.mk.injEq] at h
        obtain ⟨rfl, rfl, rfl, rfl, rfl, rfl⟩ := h
        have c2b : (bt a0 0 != 4) = true := bne_iff_ne.mpr c2
        have c2d : (bt a0 0 != 6) = true := bne_iff_ne.mpr c2'
        go_enter Try.func24, Try.ntmps24
        go_wp2
        refine bodyPost_ret (results_ctt rfl _ _ w.heap.size 30 #[.bool false, .int .u64 0, .int .u64 0, .int .i64 0] (0, 0) _ rfl (heap_alloc_new _ _) Try.underlying30 rfl (by kernel_rfl)) rfl ?_
        exact ⟨rfl, below_alloc (Below.refl _ _) _⟩
def IsS69 (w0 W : World) (g : Nat) (f0 : ByteArray) (f1 : Int) : Prop := W.heap[g]? = some (.cells #[.string f0, .int .i64 f1] 69 (0, 0)) ∧ w0.heap.size ≤ g
theorem IsS69.grown {w0 W : World} {g : Nat} {f0 : ByteArray} {f1 : Int} {W1 : World} {row : Option Nat} (h : IsS69 w0 W g f0 f1) (hw : W.grownBy W1 row) (hne : some g ≠ row) : IsS69 w0 W1 g f0 f1 := by
  obtain ⟨hb, hg⟩ := h
  exact ⟨blk_grown hb hw hne, hg⟩
theorem IsS69.fresh {w0 W : World} {g : Nat} {f0 : ByteArray} {f1 : Int} (h : IsS69 w0 W g f0 f1) : ∀ k, W.heap.size ≤ k → k ≠ g := by
  obtain ⟨hb, hg⟩ := h
  exact Kd.freshB hb
theorem IsS69.kept {w0 W : World} {g : Nat} {f0 : ByteArray} {f1 : Int} {W1 : World} {S : Nat → Prop} (h : IsS69 w0 W g f0 f1) (hk : Kept W W1 S) (hne : ¬ S g) : IsS69 w0 W1 g f0 f1 := by
  obtain ⟨hb, hg⟩ := h
  exact ⟨blk_kept hb hk hne, hg⟩
theorem IsS69.below {w0 W : World} {g : Nat} {f0 : ByteArray} {f1 : Int} {W1 : World} (h : IsS69 w0 W g f0 f1) (hw : Below W.heap.size W W1) : IsS69 w0 W1 g f0 f1 := h.grown (grown_of_below hw none) (by simp)
theorem IsS69.alloc {w0 W : World} {g : Nat} {f0 : ByteArray} {f1 : Int} (h : IsS69 w0 W g f0 f1) (o : Obj) : IsS69 w0 (W.alloc o) g f0 f1 := h.below (below_alloc (Below.refl _ _) o)
theorem IsS69.drewN {w0 W : World} {g : Nat} {f0 : ByteArray} {f1 : Int} (h : IsS69 w0 W g f0 f1) (m : Nat) : IsS69 w0 (W.drewN m) g f0 f1 := h
theorem IsS69.drew {w0 W : World} {g : Nat} {f0 : ByteArray} {f1 : Int} (h : IsS69 w0 W g f0 f1) : IsS69 w0 W.drew g f0 f1 := h
theorem IsS69.at_ {w0 W : World} {g : Nat} {f0 : ByteArray} {f1 : Int} {w' : World} {m : Nat} (hq : W.drewN m = w') (h : IsS69 w0 W g f0 f1) : IsS69 w0 w' g f0 f1 := by subst hq; exact IsS69.drewN h m
theorem IsS69.apart {w0 W : World} {g : Nat} {f0 : ByteArray} {f1 : Int} {α : Type} {d : Kd α} {e : Nat} {base : Nat} {ok : Nat → Prop} {v : Value} {xs : List α} (h : IsS69 w0 W g f0 f1) (ho : d.R e W base ok v xs) (ht : ∀ q, q ∈ e :: d.E → q ≠ 69) : d.R e W base (fun k => ok k ∧ k ≠ g) v xs := by
  obtain ⟨hb, hg⟩ := h
  exact Kd.R_types ho hb ht
theorem IsS69.own_ne {w0 W : World} {g : Nat} {f0 : ByteArray} {f1 : Int} {α : Type} {d : Kd α} {e : Nat} {base : Nat} {ok : Nat → Prop} {v : Value} {xs : List α} (h : IsS69 w0 W g f0 f1) (ho : d.R e W base ok v xs) (ht : e ≠ 69) : some g ≠ v.ownBlock := by
  obtain ⟨hb, hg⟩ := h
  exact Kd.R_ne ho hb ht
theorem IsS69.lt {w0 W : World} {g : Nat} {f0 : ByteArray} {f1 : Int} (h : IsS69 w0 W g f0 f1) : g < W.heap.size := by
  obtain ⟨hb, hg⟩ := h
  exact blk_lt hb
theorem IsS69.ge {w0 W : World} {g : Nat} {f0 : ByteArray} {f1 : Int} (h : IsS69 w0 W g f0 f1) : w0.heap.size ≤ g := by
  obtain ⟨hb, hg⟩ := h
  exact hg
theorem IsS69.far {w0 W : World} {g : Nat} {f0 : ByteArray} {f1 : Int} {p : Addr} (h : IsS69 w0 W g f0 f1) (hne : g ≠ p.block) (u : Value) : IsS69 w0 (W.setCell p u) g f0 f1 := by
  obtain ⟨hb, hg⟩ := h
  exact ⟨blk_far hb hne u, hg⟩
theorem cellS69_0 {W : World} {g : Nat} {f0 : ByteArray} {f1 : Int} (h : W.heap[g]? = some (.cells #[.string f0, .int .i64 f1] 69 (0, 0))) : W.cell? ⟨g, 0, none⟩ = some (.string f0) := (blk_cell h 0).trans rfl
theorem IsS69.set_0 {w0 W : World} {g : Nat} {f0 : ByteArray} {f1 : Int} (h : IsS69 w0 W g f0 f1) (x : ByteArray) : IsS69 w0 (W.setCell ⟨g, 0, none⟩ (.string x)) g x f1 := by
  obtain ⟨hb, hg⟩ := h
  exact ⟨by simpa using blk_set hb 0 (.string x), hg⟩
theorem cellS69_1 {W : World} {g : Nat} {f0 : ByteArray} {f1 : Int} (h : W.heap[g]? = some (.cells #[.string f0, .int .i64 f1] 69 (0, 0))) : W.cell? ⟨g, 1, none⟩ = some (.int .i64 f1) := (blk_cell h 1).trans rfl
theorem IsS69.set_1 {w0 W : World} {g : Nat} {f0 : ByteArray} {f1 : Int} (h : IsS69 w0 W g f0 f1) (x : Int) : IsS69 w0 (W.setCell ⟨g, 1, none⟩ (.int .i64 x)) g f0 x := by
  obtain ⟨hb, hg⟩ := h
  exact ⟨by simpa using blk_set hb 1 (.int .i64 x), hg⟩
def api_Prefix.f (k : Nat) (s0_0 : ByteArray) (s0_1 : Int) : Option (Bool × Int × Int × Int × ByteArray × Int) := (msg_GetPrefix.f k s0_0).bind fun t => some (t.1, t.2.1, t.2.2.1, t.2.2.2.1, (if s0_1 = 0 then t.2.2.2.2.1 else s0_0), (if s0_1 = 0 then t.2.2.2.2.2 else s0_1))
set_option maxHeartbeats 8000000 in
set_option maxRecDepth 100000 in
theorem api_Prefix.calls0 (k g : Nat) (s : ByteArray) (y : Int) (r1 : Bool) (r2 : Int) (r3 : Int) (r4 : Int) (r5 : ByteArray) (r6 : Int) (w0 w : World) (hI : IsS69 w0 w g s y) (hB : Below w0.heap.size w0 w) (h : msg_GetPrefix.f k s = some (r1, r2, r3, r4, r5, r6)) :
    Calls Try.prog 23 #[.pointer (some ⟨g, 0, none⟩), .func (.func 24) #[] #[]] w fun e w' => e = .returned (.agg #[.bool r1, .int .u64 r2, .int .u64 r3, .int .i64 r4]) ∧ IsS69 w0 w' g (if y = 0 then r5 else s) (if y = 0 then r6 else y) ∧ Below w0.heap.size w0 w' ∧ KeepBut w w' g none := by
  have HI0 := Aside0.mk hI
  have HB0 := Aside0.mk hB
  have H := Aside0.mk h
  have hgz := hI.1
  have hc0 := cellS69_0 hgz
  have hca : (w.alloc (.cells #[.bool false, .int .u64 0, .int .u64 0, .int .i64 0] 30)).cell? ⟨g, 0, none⟩ = some (.string s) := (blk_cell (blk_alloc hgz _) 0).trans rfl
  have hlg := Aside0.mk (blk_lt hgz)
  clear h hI hB hgz
  go_enter Try.func23, Try.ntmps23
  go_wp2_with (fail)
  refine (msg_GetPrefix.calls k s r1 r2 r3 r4 r5 r6 _ H.out).mono ?_
  rintro e w5 ⟨rfl, hb⟩
  have BG5 := Aside0.mk (blk_below (blk_alloc HI0.out.1 (.cells #[.bool false, .int .u64 0, .int .u64 0, .int .i64 0] 30)) hb)
  have BR5 := Aside0.mk (blk_below (heap_alloc_new w (.cells #[.bool false, .int .u64 0, .int .u64 0, .int .i64 0] 30)) hb)
  have HB5 := Aside0.mk (below_step (below_alloc HB0.out (.cells #[.bool false, .int .u64 0, .int .u64 0, .int .i64 0] 30)) hb)
  have HK5 := Aside0.mk (KeepBut.of_below (below_step (below_alloc (Below.refl w.heap.size w) (.cells #[.bool false, .int .u64 0, .int .u64 0, .int .i64 0] 30)) hb) g none)
  have hL5 : Aside0 (w.heap.size < w5.heap.size) := ⟨Nat.lt_of_lt_of_le (blk_lt (heap_alloc_new w _)) hb.size⟩
  clear hb hc0 hca
  obtain ⟨gr, hgr⟩ : ∃ gr, w.heap.size = gr := ⟨_, rfl⟩
  have HGR := Aside0.mk hgr
  have BR5' := Aside0.mk (hgr ▸ BR5.out)
  rw [hgr]
  clear BR5 hgr
  have BP6 := Aside0.mk (heap_alloc_new w5 (.cells #[.bool r1, .int .u64 r2, .int .u64 r3, .int .i64 r4] 30))
  have BR6 := Aside0.mk (blk_alloc BR5'.out (.cells #[.bool r1, .int .u64 r2, .int .u64 r3, .int .i64 r4] 30))
  have BG6 := Aside0.mk (blk_alloc BG5.out (.cells #[.bool r1, .int .u64 r2, .int .u64 r3, .int .i64 r4] 30))
  have HB6 := Aside0.mk (below_alloc HB5.out (.cells #[.bool r1, .int .u64 r2, .int .u64 r3, .int .i64 r4] 30))
  have HK6 := Aside0.mk (keep_alloc HK5.out (.cells #[.bool r1, .int .u64 r2, .int .u64 r3, .int .i64 r4] 30))
  by_cases hy : y = 0
  · subst hy
    have ngr : g ≠ gr := by have := hlg.out; have := HGR.out; omega
    have ng5 : g ≠ w5.heap.size := fun e => by have := blk_lt BG5.out; omega
    have hg0 := (blk_cell BG6.out 0).trans rfl
    have hg1 := (blk_cell BG6.out 1).trans rfl
    have hgf0 := blk_frozen BG6.out 0
    have hgf1 := blk_frozen BG6.out 1
    have BG7 := Aside0.mk (blk_put (blk_put BG6.out 0 (.string r5) rfl) 1 (.int .i64 r6) rfl)
    have BP7 := Aside0.mk (blk_far (blk_far BP6.out (p := ⟨g, 0, none⟩) (by simpa using fun e => ng5 e.symm) (.string r5)) (p := ⟨g, 1, none⟩) (by simpa using fun e => ng5 e.symm) (.int .i64 r6))
    have BR7 := Aside0.mk (blk_far (blk_far BR6.out (p := ⟨g, 0, none⟩) (by simpa using fun e => ngr e.symm) (.string r5)) (p := ⟨g, 1, none⟩) (by simpa using fun e => ngr e.symm) (.int .i64 r6))
    have HB7 := Aside0.mk ((HB6.out.setCell (p := ⟨g, 0, none⟩) HI0.out.2 (.string r5)).setCell (p := ⟨g, 1, none⟩) HI0.out.2 (.int .i64 r6))
    have HK7 := Aside0.mk ((HK6.out.set_ 0 (.string r5)).set_ 1 (.int .i64 r6))
    have hp0 := (blk_cell BP7.out 0).trans (rfl : _ = some (Value.bool r1))
    have hp1 := (blk_cell BP7.out 1).trans (rfl : _ = some (Value.int .u64 r2))
    have hp2 := (blk_cell BP7.out 2).trans (rfl : _ = some (Value.int .u64 r3))
    have hp3 := (blk_cell BP7.out 3).trans (rfl : _ = some (Value.int .i64 r4))
    have hr0 := (blk_cell BR7.out 0).trans (rfl : _ = some (Value.bool false))
    have hr1 := (blk_cell BR7.out 1).trans (rfl : _ = some (Value.int .u64 0))
    have hr2 := (blk_cell BR7.out 2).trans (rfl : _ = some (Value.int .u64 0))
    have hr3 := (blk_cell BR7.out 3).trans (rfl : _ = some (Value.int .i64 0))
    have hf0 := blk_frozen BR7.out 0
    have hf1 := blk_frozen BR7.out 1
    have hf2 := blk_frozen BR7.out 2
    have hf3 := blk_frozen BR7.out 3
    go_wp2_with (fail)
    refine bodyPost_ret (results_cell_row rfl _ _ gr 30 #[.bool r1, .int .u64 r2, .int .u64 r3, .int .i64 r4] (0, 0) _ rfl (blk_put (blk_put (blk_put (blk_put (BR7.out) 0 (.bool r1) rfl) 1 (.int .u64 r2) rfl) 2 (.int .u64 r3) rfl) 3 (.int .i64 r4) rfl) Try.underlying30 rfl (by kernel_rfl)) rfl ?_
    have hgw : w0.heap.size ≤ gr := by have := HGR.out; have := HB0.out.size; omega
    refine ⟨rfl, ⟨?_, HI0.out.2⟩, ?_, ?_⟩
    · simpa using blk_far (blk_far (blk_far (blk_far (BG7.out) (p := ⟨gr, 0, none⟩) (by simpa using ngr) _) (p := ⟨gr, 1, none⟩) (by simpa using ngr) _) (p := ⟨gr, 2, none⟩) (by simpa using ngr) _) (p := ⟨gr, 3, none⟩) (by simpa using ngr) _
    · exact ((((HB7.out).setCell (p := ⟨gr, 0, none⟩) hgw _).setCell (p := ⟨gr, 1, none⟩) hgw _).setCell (p := ⟨gr, 2, none⟩) hgw _).setCell (p := ⟨gr, 3, none⟩) hgw _
    · exact keep_far (keep_far (keep_far (keep_far (HK7.out) (p := ⟨gr, 0, none⟩) (by have := HGR.out; simp; omega) _) (p := ⟨gr, 1, none⟩) (by have := HGR.out; simp; omega) _) (p := ⟨gr, 2, none⟩) (by have := HGR.out; simp; omega) _) (p := ⟨gr, 3, none⟩) (by have := HGR.out; simp; omega) _
  · skip
    have ngr : g ≠ gr := by have := hlg.out; have := HGR.out; omega
    have ng5 : g ≠ w5.heap.size := fun e => by have := blk_lt BG5.out; omega
    have BG7 := BG6
    have BP7 := BP6
    have BR7 := BR6
    have HB7 := HB6
    have HK7 := HK6
    have hg1 := (blk_cell BG6.out 1).trans rfl
    have hyb : (y == 0) = false := beq_eq_false_iff_ne.mpr hy
    have hp0 := (blk_cell BP7.out 0).trans (rfl : _ = some (Value.bool r1))
    have hp1 := (blk_cell BP7.out 1).trans (rfl : _ = some (Value.int .u64 r2))
    have hp2 := (blk_cell BP7.out 2).trans (rfl : _ = some (Value.int .u64 r3))
    have hp3 := (blk_cell BP7.out 3).trans (rfl : _ = some (Value.int .i64 r4))
    have hr0 := (blk_cell BR7.out 0).trans (rfl : _ = some (Value.bool false))
    have hr1 := (blk_cell BR7.out 1).trans (rfl : _ = some (Value.int .u64 0))
    have hr2 := (blk_cell BR7.out 2).trans (rfl : _ = some (Value.int .u64 0))
    have hr3 := (blk_cell BR7.out 3).trans (rfl : _ = some (Value.int .i64 0))
    have hf0 := blk_frozen BR7.out 0
    have hf1 := blk_frozen BR7.out 1
    have hf2 := blk_frozen BR7.out 2
    have hf3 := blk_frozen BR7.out 3
    go_wp2_with (fail)
    refine bodyPost_ret (results_cell_row rfl _ _ gr 30 #[.bool r1, .int .u64 r2, .int .u64 r3, .int .i64 r4] (0, 0) _ rfl (blk_put (blk_put (blk_put (blk_put (BR7.out) 0 (.bool r1) rfl) 1 (.int .u64 r2) rfl) 2 (.int .u64 r3) rfl) 3 (.int .i64 r4) rfl) Try.underlying30 rfl (by kernel_rfl)) rfl ?_
    have hgw : w0.heap.size ≤ gr := by have := HGR.out; have := HB0.out.size; omega
    refine ⟨rfl, ⟨?_, HI0.out.2⟩, ?_, ?_⟩
    · simpa [hy] using blk_far (blk_far (blk_far (blk_far (BG7.out) (p := ⟨gr, 0, none⟩) (by simpa using ngr) _) (p := ⟨gr, 1, none⟩) (by simpa using ngr) _) (p := ⟨gr, 2, none⟩) (by simpa using ngr) _) (p := ⟨gr, 3, none⟩) (by simpa using ngr) _
    · exact ((((HB7.out).setCell (p := ⟨gr, 0, none⟩) hgw _).setCell (p := ⟨gr, 1, none⟩) hgw _).setCell (p := ⟨gr, 2, none⟩) hgw _).setCell (p := ⟨gr, 3, none⟩) hgw _
    · exact keep_far (keep_far (keep_far (keep_far (HK7.out) (p := ⟨gr, 0, none⟩) (by have := HGR.out; simp; omega) _) (p := ⟨gr, 1, none⟩) (by have := HGR.out; simp; omega) _) (p := ⟨gr, 2, none⟩) (by have := HGR.out; simp; omega) _) (p := ⟨gr, 3, none⟩) (by have := HGR.out; simp; omega) _
theorem api_Prefix.calls (k : Nat) (g : Nat) (s0_0 : ByteArray) (s0_1 : Int) (r1 : Bool) (r2 : Int) (r3 : Int) (r4 : Int) (r5 : ByteArray) (r6 : Int) (w0 w : World) (hI : IsS69 w0 w g s0_0 s0_1) (hB : Below w0.heap.size w0 w) (h : api_Prefix.f k s0_0 s0_1 = some (r1, r2, r3, r4, r5, r6)) :
    Calls Try.prog 23 #[.pointer (some ⟨g, 0, none⟩), .func (.func 24) #[] #[]] w fun e w' => e = .returned (.agg #[.bool r1, .int .u64 r2, .int .u64 r3, .int .i64 r4]) ∧ IsS69 w0 w' g r5 r6 ∧ Below w0.heap.size w0 w' ∧ KeepBut w w' g none := by
  obtain ⟨⟨t1, t2, t3, t4, t5, t6⟩, ht, h⟩ := Option.bind_eq_some_iff.mp h
  simp only [Option.some.injEq, Prod.mk.injEq] at h
  obtain ⟨rfl, rfl, rfl, rfl, rfl, rfl⟩ := h
  exact api_Prefix.calls0 k g s0_0 s0_1 t1 t2 t3 t4 t5 t6 w0 w hI hB ht
def IsS67 (w0 W : World) (g : Nat) (f0 : ByteArray) (f1 : Int) : Prop := W.heap[g]? = some (.cells #[.string f0, .int .i64 f1] 67 (0, 0)) ∧ w0.heap.size ≤ g
theorem IsS67.grown {w0 W : World} {g : Nat} {f0 : ByteArray} {f1 : Int} {W1 : World} {row : Option Nat} (h : IsS67 w0 W g f0 f1) (hw : W.grownBy W1 row) (hne : some g ≠ row) : IsS67 w0 W1 g f0 f1 := by
 obtain ⟨hb, hg⟩ := h
 exact ⟨blk_grown hb hw hne, hg⟩
theorem IsS67.fresh {w0 W : World} {g : Nat} {f0 : ByteArray} {f1 : Int} (h : IsS67 w0 W g f0 f1) : ∀ k, W.heap.size ≤ k → k ≠ g := by
 obtain ⟨hb, hg⟩ := h
 exact Kd.freshB hb
theorem IsS67.kept {w0 W : World} {g : Nat} {f0 : ByteArray} {f1 : Int} {W1 : World} {S : Nat → Prop} (h : IsS67 w0 W g f0 f1) (hk : Kept W W1 S) (hne : ¬ S g) : IsS67 w0 W1 g f0 f1 := by
 obtain ⟨hb, hg⟩ := h
 exact ⟨blk_kept hb hk hne, hg⟩
theorem IsS67.below {w0 W : World} {g : Nat} {f0 : ByteArray} {f1 : Int} {W1 : World} (h : IsS67 w0 W g f0 f1) (hw : Below W.heap.size W W1) : IsS67 w0 W1 g f0 f1 := h.grown (grown_of_below hw none) (by simp)
theorem IsS67.alloc {w0 W : World} {g : Nat} {f0 : ByteArray} {f1 : Int} (h : IsS67 w0 W g f0 f1) (o : Obj) : IsS67 w0 (W.alloc o) g f0 f1 := h.below (below_alloc (Below.refl _ _) o)
theorem IsS67.drewN {w0 W : World} {g : Nat} {f0 : ByteArray} {f1 : Int} (h : IsS67 w0 W g f0 f1) (m : Nat) : IsS67 w0 (W.drewN m) g f0 f1 := h
theorem IsS67.drew {w0 W : World} {g : Nat} {f0 : ByteArray} {f1 : Int} (h : IsS67 w0 W g f0 f1) : IsS67 w0 W.drew g f0 f1 := h
theorem IsS67.at_ {w0 W : World} {g : Nat} {f0 : ByteArray} {f1 : Int} {w' : World} {m : Nat} (hq : W.drewN m = w') (h : IsS67 w0 W g f0 f1) : IsS67 w0 w' g f0 f1 := by subst hq; exact IsS67.drewN h m
theorem IsS67.apart {w0 W : World} {g : Nat} {f0 : ByteArray} {f1 : Int} {α : Type} {d : Kd α} {e : Nat} {base : Nat} {ok : Nat → Prop} {v : Value} {xs : List α} (h : IsS67 w0 W g f0 f1) (ho : d.R e W base ok v xs) (ht : ∀ q, q ∈ e :: d.E → q ≠ 67) : d.R e W base (fun k => ok k ∧ k ≠ g) v xs := by
 obtain ⟨hb, hg⟩ := h
 exact Kd.R_types ho hb ht
theorem IsS67.own_ne {w0 W : World} {g : Nat} {f0 : ByteArray} {f1 : Int} {α : Type} {d : Kd α} {e : Nat} {base : Nat} {ok : Nat → Prop} {v : Value} {xs : List α} (h : IsS67 w0 W g f0 f1) (ho : d.R e W base ok v xs) (ht : e ≠ 67) : some g ≠ v.ownBlock := by
 obtain ⟨hb, hg⟩ := h
 exact Kd.R_ne ho hb ht
theorem IsS67.lt {w0 W : World} {g : Nat} {f0 : ByteArray} {f1 : Int} (h : IsS67 w0 W g f0 f1) : g < W.heap.size := by
 obtain ⟨hb, hg⟩ := h
 exact blk_lt hb
theorem IsS67.ge {w0 W : World} {g : Nat} {f0 : ByteArray} {f1 : Int} (h : IsS67 w0 W g f0 f1) : w0.heap.size ≤ g := by
 obtain ⟨hb, hg⟩ := h
 exact hg
theorem IsS67.far {w0 W : World} {g : Nat} {f0 : ByteArray} {f1 : Int} {p : Addr} (h : IsS67 w0 W g f0 f1) (hne : g ≠ p.block) (u : Value) : IsS67 w0 (W.setCell p u) g f0 f1 := by
 obtain ⟨hb, hg⟩ := h
 exact ⟨blk_far hb hne u, hg⟩
theorem cellS67_0 {W : World} {g : Nat} {f0 : ByteArray} {f1 : Int} (h : W.heap[g]? = some (.cells #[.string f0, .int .i64 f1] 67 (0, 0))) : W.cell? ⟨g, 0, none⟩ = some (.string f0) := (blk_cell h 0).trans rfl
theorem IsS67.set_0 {w0 W : World} {g : Nat} {f0 : ByteArray} {f1 : Int} (h : IsS67 w0 W g f0 f1) (x : ByteArray) : IsS67 w0 (W.setCell ⟨g, 0, none⟩ (.string x)) g x f1 := by
 obtain ⟨hb, hg⟩ := h
 exact ⟨by simpa using blk_set hb 0 (.string x), hg⟩
theorem cellS67_1 {W : World} {g : Nat} {f0 : ByteArray} {f1 : Int} (h : W.heap[g]? = some (.cells #[.string f0, .int .i64 f1] 67 (0, 0))) : W.cell? ⟨g, 1, none⟩ = some (.int .i64 f1) := (blk_cell h 1).trans rfl
theorem IsS67.set_1 {w0 W : World} {g : Nat} {f0 : ByteArray} {f1 : Int} (h : IsS67 w0 W g f0 f1) (x : Int) : IsS67 w0 (W.setCell ⟨g, 1, none⟩ (.int .i64 x)) g f0 x := by
 obtain ⟨hb, hg⟩ := h
 exact ⟨by simpa using blk_set hb 1 (.int .i64 x), hg⟩
def num_Reader_Num.f (k : Nat) (s0_0 : ByteArray) (s0_1 : Int) : Option (Int × ByteArray × Int) := if s0_1 = 0 then ((num_Get.f k s0_0).bind fun bt198 => (some (bt198.1, bt198.2.1, bt198.2.2))) else (some (0, s0_0, s0_1))
set_option maxHeartbeats 8000000 in
set_option maxRecDepth 100000 in
theorem num_Reader_Num.calls (k : Nat) (g : Nat) (s0_0 : ByteArray) (s0_1 : Int) (r1 : Int) (r2 : ByteArray) (r3 : Int) (w0 w : World) (hI : IsS67 w0 w g s0_0 s0_1) (hB : Below w0.heap.size w0 w) (h : num_Reader_Num.f k s0_0 s0_1 = some (r1, r2, r3)) :
  Calls Try.prog 22 #[.pointer (some ⟨g, 0, none⟩)] w fun e w' => e = .returned (.int .u64 r1) ∧ IsS67 w0 w' g r2 r3 ∧ Below w0.heap.size w0 w' ∧ KeepBut w w' g none := by
 have HI0 := Ax hI
 have HK := Ax (KeepBut.refl w g none)
 have HL := Ax hB.size
 clear hI
 have HW0 := Ax hB.size
 have HB := Ax hB
 clear hB
 have H : (if s0_1 = 0 then ((num_Get.f k s0_0).bind fun bt198 => (some (bt198.1, bt198.2.1, bt198.2.2))) else (some (0, s0_0, s0_1))) = some (r1, r2, r3) := h
 clear h
 by_cases c2 : s0_1 = 0
 ·rw [if_pos c2] at H
  have c2b0 : (s0_1 == 0) = true := beq_iff_eq.mpr c2
  have c2b1 : (s0_1 != 0) = false := bne_eq_false_iff_eq.mpr c2
  clear c2
  replace H := Option.bind_eq_some_iff.mp H
  obtain ⟨⟨t198, t199, t200⟩, A30, H⟩ := H
  replace H : (some (t198, t199, t200)) = some (r1, r2, r3) := H
  have A3 := Ax A30
  clear A30
  simp only [Option.some.injEq, Prod.mk.injEq] at H
  obtain ⟨rfl, rfl, rfl⟩ := H
  obtain ⟨HGz4, hgz4⟩ := HI0.out
  have hcz4_0 := cellS67_0 HGz4
  have hcz4_1 := cellS67_1 HGz4
  have hfz4_0 := blk_frozen HGz4 0
  have hfz4_1 := blk_frozen HGz4 1
  clear HGz4 hgz4
  go_enter Try.func22, Try.ntmps22
  go_wp2_with (first | ((with_reducible refine gate_callee (f := 9) rfl ?_); refine goesL_ (some 16) rfl rfl Try.func9 (by kernel_rfl) rfl #[.string s0_0] rfl gS ?_; (with_reducible refine (num_Get.calls k s0_0 t198 t199 t200 _ A3.out).mono ?_); rintro e w5 ⟨rfl, hb⟩; refine ⟨_, rfl, ?_⟩; have n0_ := Ax (IsS67.below (by repeat (first | (with_reducible first | exact HI0.out | apply IsS67.alloc | apply IsS67.drewN | apply IsS67.drew | apply IsS67.set_0 | apply IsS67.set_1) | exact HI0.out)) hb); have n1_ := Ax (KeepBut.trans (by repeat (first | (with_reducible first | exact HK.out | apply KeepBut.set_ | apply keep_drewN | apply keep_drew | apply keep_alloc) | exact HK.out)) (KeepBut.of_below hb g none) (.inl rfl)); have n2_ := Bs1 HB hb (IsS67.ge HI0.out); clear HI0; clear HK; clear HB; have HI0 := n0_; have HK := n1_; have HB := n2_; clear n0_ n1_ n2_; (try clear hb); obtain ⟨HGz6, hgz6⟩ := HI0.out; have hcz6_0 := cellS67_0 HGz6; have hcz6_1 := cellS67_1 HGz6; have hfz6_0 := blk_frozen HGz6 0; have hfz6_1 := blk_frozen HGz6 1; clear HGz6 hgz6))
  go_ret
  exact ⟨eS, by repeat (first | (with_reducible first | exact HI0.out | apply IsS67.alloc | apply IsS67.drewN | apply IsS67.drew | apply IsS67.set_0 | apply IsS67.set_1) | exact HI0.out), bw1 HB.out (IsS67.ge HI0.out), by repeat (first | (with_reducible first | exact HK.out | apply KeepBut.set_ | apply keep_drewN | apply keep_drew | apply keep_alloc) | exact HK.out)⟩
 ·rw [if_neg c2] at H
  have c2b0 : (s0_1 == 0) = false := beq_eq_false_iff_ne.mpr c2
  have c2b1 : (s0_1 != 0) = true := bne_iff_ne.mpr c2
  simp only [Option.some.injEq, Prod.mk.injEq] at H
  obtain ⟨rfl, rfl, rfl⟩ := H
  obtain ⟨HGz7, hgz7⟩ := HI0.out
  have hcz7_0 := cellS67_0 HGz7
  have hcz7_1 := cellS67_1 HGz7
  have hfz7_0 := blk_frozen HGz7 0
  have hfz7_1 := blk_frozen HGz7 1
  clear HGz7 hgz7
  go_enter Try.func22, Try.ntmps22
  go_wp2
  go_ret
  exact ⟨eS, by repeat (first | (with_reducible first | exact HI0.out | apply IsS67.alloc | apply IsS67.drewN | apply IsS67.drew | apply IsS67.set_0 | apply IsS67.set_1) | exact HI0.out), bw1 HB.out (IsS67.ge HI0.out), by repeat (first | (with_reducible first | exact HK.out | apply KeepBut.set_ | apply keep_drewN | apply keep_drew | apply keep_alloc) | exact HK.out)⟩
set_option maxHeartbeats 8000000 in
set_option maxRecDepth 100000 in
theorem num_Reader_Num.calls69 (k : Nat) (g : Nat) (s0_0 : ByteArray) (s0_1 : Int) (r1 : Int) (r2 : ByteArray) (r3 : Int) (w0 w : World) (hI : IsS69 w0 w g s0_0 s0_1) (hB : Below w0.heap.size w0 w) (h : num_Reader_Num.f k s0_0 s0_1 = some (r1, r2, r3)) :
  Calls Try.prog 22 #[.pointer (some ⟨g, 0, none⟩)] w fun e w' => e = .returned (.int .u64 r1) ∧ IsS69 w0 w' g r2 r3 ∧ Below w0.heap.size w0 w' ∧ KeepBut w w' g none := by
 have HI0 := Ax hI
 have HK := Ax (KeepBut.refl w g none)
 have HL := Ax hB.size
 clear hI
 have HW0 := Ax hB.size
 have HB := Ax hB
 clear hB
 have H : (if s0_1 = 0 then ((num_Get.f k s0_0).bind fun bt198 => (some (bt198.1, bt198.2.1, bt198.2.2))) else (some (0, s0_0, s0_1))) = some (r1, r2, r3) := h
 clear h
 by_cases c2 : s0_1 = 0
 ·rw [if_pos c2] at H
  have c2b0 : (s0_1 == 0) = true := beq_iff_eq.mpr c2
  have c2b1 : (s0_1 != 0) = false := bne_eq_false_iff_eq.mpr c2
  clear c2
  replace H := Option.bind_eq_some_iff.mp H
  obtain ⟨⟨t198, t199, t200⟩, A30, H⟩ := H
  replace H : (some (t198, t199, t200)) = some (r1, r2, r3) := H
  have A3 := Ax A30
  clear A30
  simp only [Option.some.injEq, Prod.mk.injEq] at H
  obtain ⟨rfl, rfl, rfl⟩ := H
  obtain ⟨HGz4, hgz4⟩ := HI0.out
  have hcz4_0 := cellS69_0 HGz4
  have hcz4_1 := cellS69_1 HGz4
  have hfz4_0 := blk_frozen HGz4 0
  have hfz4_1 := blk_frozen HGz4 1
  clear HGz4 hgz4
  go_enter Try.func22, Try.ntmps22
  go_wp2_with (first | ((with_reducible refine gate_callee (f := 9) rfl ?_); refine goesL_ (some 16) rfl rfl Try.func9 (by kernel_rfl) rfl #[.string s0_0] rfl gS ?_; (with_reducible refine (num_Get.calls k s0_0 t198 t199 t200 _ A3.out).mono ?_); rintro e w5 ⟨rfl, hb⟩; refine ⟨_, rfl, ?_⟩; have n0_ := Ax (IsS69.below (by repeat (first | (with_reducible first | exact HI0.out | apply IsS69.alloc | apply IsS69.drewN | apply IsS69.drew | apply IsS69.set_0 | apply IsS69.set_1) | exact HI0.out)) hb); have n1_ := Ax (KeepBut.trans (by repeat (first | (with_reducible first | exact HK.out | apply KeepBut.set_ | apply keep_drewN | apply keep_drew | apply keep_alloc) | exact HK.out)) (KeepBut.of_below hb g none) (.inl rfl)); have n2_ := Bs1 HB hb (IsS69.ge HI0.out); clear HI0; clear HK; clear HB; have HI0 := n0_; have HK := n1_; have HB := n2_; clear n0_ n1_ n2_; (try clear hb); obtain ⟨HGz6, hgz6⟩ := HI0.out; have hcz6_0 := cellS69_0 HGz6; have hcz6_1 := cellS69_1 HGz6; have hfz6_0 := blk_frozen HGz6 0; have hfz6_1 := blk_frozen HGz6 1; clear HGz6 hgz6))
  go_ret
  exact ⟨eS, by repeat (first | (with_reducible first | exact HI0.out | apply IsS69.alloc | apply IsS69.drewN | apply IsS69.drew | apply IsS69.set_0 | apply IsS69.set_1) | exact HI0.out), bw1 HB.out (IsS69.ge HI0.out), by repeat (first | (with_reducible first | exact HK.out | apply KeepBut.set_ | apply keep_drewN | apply keep_drew | apply keep_alloc) | exact HK.out)⟩
 ·rw [if_neg c2] at H
  have c2b0 : (s0_1 == 0) = false := beq_eq_false_iff_ne.mpr c2
  have c2b1 : (s0_1 != 0) = true := bne_iff_ne.mpr c2
  simp only [Option.some.injEq, Prod.mk.injEq] at H
  obtain ⟨rfl, rfl, rfl⟩ := H
  obtain ⟨HGz7, hgz7⟩ := HI0.out
  have hcz7_0 := cellS69_0 HGz7
  have hcz7_1 := cellS69_1 HGz7
  have hfz7_0 := blk_frozen HGz7 0
  have hfz7_1 := blk_frozen HGz7 1
  clear HGz7 hgz7
  go_enter Try.func22, Try.ntmps22
  go_wp2
  go_ret
  exact ⟨eS, by repeat (first | (with_reducible first | exact HI0.out | apply IsS69.alloc | apply IsS69.drewN | apply IsS69.drew | apply IsS69.set_0 | apply IsS69.set_1) | exact HI0.out), bw1 HB.out (IsS69.ge HI0.out), by repeat (first | (with_reducible first | exact HK.out | apply KeepBut.set_ | apply keep_drewN | apply keep_drew | apply keep_alloc) | exact HK.out)⟩
def num_Reader_Many.f (k : Nat) (s0_0 : ByteArray) (s0_1 : Int) (a1 : Int) : Option (Int × ByteArray × Int) := (num_Reader_Num.f k s0_0 s0_1).bind fun bt201 => (if bt201.1 > (IntKind.u64.wrap (a1)) then (some (0, bt201.2.1, 7)) else (some (wrap64 (bt201.1), bt201.2.1, bt201.2.2)))
set_option maxHeartbeats 8000000 in
set_option maxRecDepth 100000 in
theorem num_Reader_Many.calls (k : Nat) (g : Nat) (s0_0 : ByteArray) (s0_1 : Int) (a1 : Int) (r1 : Int) (r2 : ByteArray) (r3 : Int) (w0 w : World) (hI : IsS67 w0 w g s0_0 s0_1) (hB : Below w0.heap.size w0 w) (h : num_Reader_Many.f k s0_0 s0_1 a1 = some (r1, r2, r3)) :
  Calls Try.prog 21 #[.pointer (some ⟨g, 0, none⟩), .int .i64 a1] w fun e w' => e = .returned (.int .i64 r1) ∧ IsS67 w0 w' g r2 r3 ∧ Below w0.heap.size w0 w' ∧ KeepBut w w' g none := by
 have HI0 := Ax hI
 have HK := Ax (KeepBut.refl w g none)
 have HL := Ax hB.size
 clear hI
 have HW0 := Ax hB.size
 have HB := Ax hB
 clear hB
 have H : ((num_Reader_Num.f k s0_0 s0_1).bind fun bt201 => (if bt201.1 > (IntKind.u64.wrap (a1)) then (some (0, bt201.2.1, 7)) else (some (wrap64 (bt201.1), bt201.2.1, bt201.2.2)))) = some (r1, r2, r3) := h
 clear h
 replace H := Option.bind_eq_some_iff.mp H
 obtain ⟨⟨t201, t202, t203⟩, A30, H⟩ := H
 replace H : (if t201 > (IntKind.u64.wrap (a1)) then (some (0, t202, 7)) else (some (wrap64 (t201), t202, t203))) = some (r1, r2, r3) := H
 have A3 := Ax A30
 clear A30
 by_cases c4 : t201 > (IntKind.u64.wrap (a1))
 ·rw [if_pos c4] at H
  have c4b0 : decide ((IntKind.u64.wrap (a1)) < t201) = true := decide_eq_true c4
  clear c4
  simp only [Option.some.injEq, Prod.mk.injEq] at H
  obtain ⟨rfl, rfl, rfl⟩ := H
  go_enter Try.func21, Try.ntmps21
  go_wp2_with (first | ((with_reducible refine gate_callee (f := 22) rfl ?_); refine goesL_ (some 7) rfl rfl Try.func22 (by kernel_rfl) rfl #[.pointer (some ⟨g, 0, none⟩)] rfl gS ?_; (with_reducible refine (num_Reader_Num.calls k g s0_0 s0_1 t201 t202 t203 w0 _ ?side1 ?side2 A3.out).mono ?_); (case side1 => repeat (first | (with_reducible first | exact HI0.out | apply IsS67.alloc | apply IsS67.drewN | apply IsS67.drew | apply IsS67.set_0 | apply IsS67.set_1) | exact HI0.out)); (case side2 => repeat (first | (with_reducible first | exact HB.out | apply below_alloc | apply pw_below_drewN | apply below_drew1 | refine below_set ?_ (IsS67.ge HI0.out)) | exact HB.out)); rintro e w5 ⟨rfl, hi, hb, hk⟩; refine ⟨_, rfl, ?_⟩; replace HK := Ax (KeepBut.trans (by repeat (first | (with_reducible first | exact HK.out | apply KeepBut.set_ | apply keep_drewN | apply keep_drew | apply keep_alloc) | exact HK.out)) hk (.inl rfl)); replace HB := Ax (hb); replace HI0 := Ax (hi); (try clear hb); (try clear hb2); (try clear hk); (try clear hi); obtain ⟨HGz6, hgz6⟩ := HI0.out; have hcz6_0 := cellS67_0 HGz6; have hcz6_1 := cellS67_1 HGz6; have hfz6_0 := blk_frozen HGz6 0; have hfz6_1 := blk_frozen HGz6 1; clear HGz6 hgz6))
  go_ret
  exact ⟨eS, by repeat (first | (with_reducible first | exact HI0.out | apply IsS67.alloc | apply IsS67.drewN | apply IsS67.drew | apply IsS67.set_0 | apply IsS67.set_1) | exact HI0.out), bw1 HB.out (IsS67.ge HI0.out), by repeat (first | (with_reducible first | exact HK.out | apply KeepBut.set_ | apply keep_drewN | apply keep_drew | apply keep_alloc) | exact HK.out)⟩
 ·rw [if_neg c4] at H
  have c4b0 : decide ((IntKind.u64.wrap (a1)) < t201) = false := decide_eq_false c4
  clear c4
  simp only [Option.some.injEq, Prod.mk.injEq] at H
  obtain ⟨rfl, rfl, rfl⟩ := H
  go_enter Try.func21, Try.ntmps21
  go_wp2_with (first | ((with_reducible refine gate_callee (f := 22) rfl ?_); refine goesL_ (some 7) rfl rfl Try.func22 (by kernel_rfl) rfl #[.pointer (some ⟨g, 0, none⟩)] rfl gS ?_; (with_reducible refine (num_Reader_Num.calls k g s0_0 s0_1 t201 t202 t203 w0 _ ?side1 ?side2 A3.out).mono ?_); (case side1 => repeat (first | (with_reducible first | exact HI0.out | apply IsS67.alloc | apply IsS67.drewN | apply IsS67.drew | apply IsS67.set_0 | apply IsS67.set_1) | exact HI0.out)); (case side2 => repeat (first | (with_reducible first | exact HB.out | apply below_alloc | apply pw_below_drewN | apply below_drew1 | refine below_set ?_ (IsS67.ge HI0.out)) | exact HB.out)); rintro e w7 ⟨rfl, hi, hb, hk⟩; refine ⟨_, rfl, ?_⟩; replace HK := Ax (KeepBut.trans (by repeat (first | (with_reducible first | exact HK.out | apply KeepBut.set_ | apply keep_drewN | apply keep_drew | apply keep_alloc) | exact HK.out)) hk (.inl rfl)); replace HB := Ax (hb); replace HI0 := Ax (hi); (try clear hb); (try clear hb2); (try clear hk); (try clear hi)))
  go_ret
  exact ⟨eS, by repeat (first | (with_reducible first | exact HI0.out | apply IsS67.alloc | apply IsS67.drewN | apply IsS67.drew | apply IsS67.set_0 | apply IsS67.set_1) | exact HI0.out), bw1 HB.out (IsS67.ge HI0.out), by repeat (first | (with_reducible first | exact HK.out | apply KeepBut.set_ | apply keep_drewN | apply keep_drew | apply keep_alloc) | exact HK.out)⟩
set_option maxHeartbeats 8000000 in
set_option maxRecDepth 100000 in
theorem num_Reader_Many.calls69 (k : Nat) (g : Nat) (s0_0 : ByteArray) (s0_1 : Int) (a1 : Int) (r1 : Int) (r2 : ByteArray) (r3 : Int) (w0 w : World) (hI : IsS69 w0 w g s0_0 s0_1) (hB : Below w0.heap.size w0 w) (h : num_Reader_Many.f k s0_0 s0_1 a1 = some (r1, r2, r3)) :
  Calls Try.prog 21 #[.pointer (some ⟨g, 0, none⟩), .int .i64 a1] w fun e w' => e = .returned (.int .i64 r1) ∧ IsS69 w0 w' g r2 r3 ∧ Below w0.heap.size w0 w' ∧ KeepBut w w' g none := by
 have HI0 := Ax hI
 have HK := Ax (KeepBut.refl w g none)
 have HL := Ax hB.size
 clear hI
 have HW0 := Ax hB.size
 have HB := Ax hB
 clear hB
 have H : ((num_Reader_Num.f k s0_0 s0_1).bind fun bt201 => (if bt201.1 > (IntKind.u64.wrap (a1)) then (some (0, bt201.2.1, 7)) else (some (wrap64 (bt201.1), bt201.2.1, bt201.2.2)))) = some (r1, r2, r3) := h
 clear h
 replace H := Option.bind_eq_some_iff.mp H
 obtain ⟨⟨t201, t202, t203⟩, A30, H⟩ := H
 replace H : (if t201 > (IntKind.u64.wrap (a1)) then (some (0, t202, 7)) else (some (wrap64 (t201), t202, t203))) = some (r1, r2, r3) := H
 have A3 := Ax A30
 clear A30
 by_cases c4 : t201 > (IntKind.u64.wrap (a1))
 ·rw [if_pos c4] at H
  have c4b0 : decide ((IntKind.u64.wrap (a1)) < t201) = true := decide_eq_true c4
  clear c4
  simp only [Option.some.injEq, Prod.mk.injEq] at H
  obtain ⟨rfl, rfl, rfl⟩ := H
  go_enter Try.func21, Try.ntmps21
  go_wp2_with (first | ((with_reducible refine gate_callee (f := 22) rfl ?_); refine goesL_ (some 7) rfl rfl Try.func22 (by kernel_rfl) rfl #[.pointer (some ⟨g, 0, none⟩)] rfl gS ?_; (with_reducible refine (num_Reader_Num.calls69 k g s0_0 s0_1 t201 t202 t203 w0 _ ?side1 ?side2 A3.out).mono ?_); (case side1 => repeat (first | (with_reducible first | exact HI0.out | apply IsS69.alloc | apply IsS69.drewN | apply IsS69.drew | apply IsS69.set_0 | apply IsS69.set_1) | exact HI0.out)); (case side2 => repeat (first | (with_reducible first | exact HB.out | apply below_alloc | apply pw_below_drewN | apply below_drew1 | refine below_set ?_ (IsS69.ge HI0.out)) | exact HB.out)); rintro e w5 ⟨rfl, hi, hb, hk⟩; refine ⟨_, rfl, ?_⟩; replace HK := Ax (KeepBut.trans (by repeat (first | (with_reducible first | exact HK.out | apply KeepBut.set_ | apply keep_drewN | apply keep_drew | apply keep_alloc) | exact HK.out)) hk (.inl rfl)); replace HB := Ax (hb); replace HI0 := Ax (hi); (try clear hb); (try clear hb2); (try clear hk); (try clear hi); obtain ⟨HGz6, hgz6⟩ := HI0.out; have hcz6_0 := cellS69_0 HGz6; have hcz6_1 := cellS69_1 HGz6; have hfz6_0 := blk_frozen HGz6 0; have hfz6_1 := blk_frozen HGz6 1; clear HGz6 hgz6))
  go_ret
  exact ⟨eS, by repeat (first | (with_reducible first | exact HI0.out | apply IsS69.alloc | apply IsS69.drewN | apply IsS69.drew | apply IsS69.set_0 | apply IsS69.set_1) | exact HI0.out), bw1 HB.out (IsS69.ge HI0.out), by repeat (first | (with_reducible first | exact HK.out | apply KeepBut.set_ | apply keep_drewN | apply keep_drew | apply keep_alloc) | exact HK.out)⟩
 ·rw [if_neg c4] at H
  have c4b0 : decide ((IntKind.u64.wrap (a1)) < t201) = false := decide_eq_false c4
  clear c4
  simp only [Option.some.injEq, Prod.mk.injEq] at H
  obtain ⟨rfl, rfl, rfl⟩ := H
  go_enter Try.func21, Try.ntmps21
  go_wp2_with (first | ((with_reducible refine gate_callee (f := 22) rfl ?_); refine goesL_ (some 7) rfl rfl Try.func22 (by kernel_rfl) rfl #[.pointer (some ⟨g, 0, none⟩)] rfl gS ?_; (with_reducible refine (num_Reader_Num.calls69 k g s0_0 s0_1 t201 t202 t203 w0 _ ?side1 ?side2 A3.out).mono ?_); (case side1 => repeat (first | (with_reducible first | exact HI0.out | apply IsS69.alloc | apply IsS69.drewN | apply IsS69.drew | apply IsS69.set_0 | apply IsS69.set_1) | exact HI0.out)); (case side2 => repeat (first | (with_reducible first | exact HB.out | apply below_alloc | apply pw_below_drewN | apply below_drew1 | refine below_set ?_ (IsS69.ge HI0.out)) | exact HB.out)); rintro e w7 ⟨rfl, hi, hb, hk⟩; refine ⟨_, rfl, ?_⟩; replace HK := Ax (KeepBut.trans (by repeat (first | (with_reducible first | exact HK.out | apply KeepBut.set_ | apply keep_drewN | apply keep_drew | apply keep_alloc) | exact HK.out)) hk (.inl rfl)); replace HB := Ax (hb); replace HI0 := Ax (hi); (try clear hb); (try clear hb2); (try clear hk); (try clear hi)))
  go_ret
  exact ⟨eS, by repeat (first | (with_reducible first | exact HI0.out | apply IsS69.alloc | apply IsS69.drewN | apply IsS69.drew | apply IsS69.set_0 | apply IsS69.set_1) | exact HI0.out), bw1 HB.out (IsS69.ge HI0.out), by repeat (first | (with_reducible first | exact HK.out | apply KeepBut.set_ | apply keep_drewN | apply keep_drew | apply keep_alloc) | exact HK.out)⟩
end Go.Proofs.Ytcnkiigobcigbaa.Q
end
section
namespace Go.Proofs.Ytcnkiigobcigbaa.Q
open Go.RowKit Go.Proofs.YtcnkiigobcigbaaW.PrintWords Go.Proofs.YtcnkiigobcigbaaW.PrintLast Go.Proofs.YtcnkiigobcigbaaW.PrintMore
attribute [local go_sem] max2_int min2_int max_two min_two max_three min_three max_four min_four   -- for this text's walks alone
set_option linter.unusedVariables false
set_option linter.unusedSimpArgs false
def msg_GetAction.f (k : Nat) (a0 : ByteArray) : Option (Int × Int × ByteArray × Int) := if a0.toList = ([] : List UInt8) then (some (0, 0, (⟨#[]⟩ : ByteArray), 7)) else (if 1 ≤ (a0.size : Int) then (if 0 < (a0.size : Int) then (if (bt a0 0) = 1 then ((num_Reader_Many.f k (a0.extract 1 a0.size) 0 65536).bind fun bt207 => (if bt207.2.2 = 0 then ((msg_acts.f (bt a0 0) bt207.1).bind fun t210 => (if t210 = true then (some (bt a0 0, bt207.1, bt207.2.1, 0)) else (some (0, 0, (⟨#[]⟩ : ByteArray), 7)))) else (some (0, 0, (⟨#[]⟩ : ByteArray), 7)))) else ((msg_acts.f (bt a0 0) 0).bind fun t211 => (if t211 = true then (some (bt a0 0, 0, a0.extract 1 a0.size, 0)) else (some (0, 0, (⟨#[]⟩ : ByteArray), 7))))) else (none)) else (none))
def msg_GetAction.T9 : Bool × List (List Nat × List Nat) := (true, [([], []), ([], []), ([1], [1]), ([2], [2]), ([3], [3]), ([0, 0], [0]), ([4, 5, 0, 1, 2, 3, 4, 5], [4]), ([6, 0, 1, 2, 3, 4, 5, 6], [])])
def msg_GetAction.B9 : List Nat := [0, 0, 2, 6, 14, 1, 63, 127]
theorem msg_GetAction.tab9 : rtab .any (opsOf Try.f26 9) = msg_GetAction.T9 := by kernel_rfl
theorem msg_GetAction.bits9 : waitsOk msg_GetAction.T9.2 msg_GetAction.B9 = true := by kernel_rfl
set_option maxHeartbeats 8000000 in
set_option maxRecDepth 100000 in
theorem msg_GetAction.calls (k : Nat) (a0 : ByteArray) (r1 : Int) (r2 : Int) (r3 : ByteArray) (r4 : Int) (w : World) (h : msg_GetAction.f k a0 = some (r1, r2, r3, r4)) :
  Calls Try.prog 26 #[.string a0] w fun e w' => e = .returned (.tuple #[.agg #[.int .u8 r1, .int .i64 r2], .string r3, .int .i64 r4]) ∧ Below w.heap.size w w' := by
 have hu33 := Try.underlying33
 have hu67 := Try.underlying67
 have HB := Ax (Below.refl w.heap.size w)
 have H : (if a0.toList = ([] : List UInt8) then (some (0, 0, (⟨#[]⟩ : ByteArray), 7)) else (if 1 ≤ (a0.size : Int) then (if 0 < (a0.size : Int) then (if (bt a0 0) = 1 then ((num_Reader_Many.f k (a0.extract 1 a0.size) 0 65536).bind fun bt207 => (if bt207.2.2 = 0 then ((msg_acts.f (bt a0 0) bt207.1).bind fun t210 => (if t210 = true then (some (bt a0 0, bt207.1, bt207.2.1, 0)) else (some (0, 0, (⟨#[]⟩ : ByteArray), 7)))) else (some (0, 0, (⟨#[]⟩ : ByteArray), 7)))) else ((msg_acts.f (bt a0 0) 0).bind fun t211 => (if t211 = true then (some (bt a0 0, 0, a0.extract 1 a0.size, 0)) else (some (0, 0, (⟨#[]⟩ : ByteArray), 7))))) else (none)) else (none))) = some (r1, r2, r3, r4) := h
 clear h
 by_cases c2 : a0.toList = ([] : List UInt8)
 ·rw [if_pos c2] at H
  have c2b0 : (a0.toList == ([] : List UInt8)) = true := beq_iff_eq.mpr c2
  have c2b1 : (a0.toList != ([] : List UInt8)) = false := bne_eq_false_iff_eq.mpr c2
  clear c2
  simp only [Option.some.injEq, Prod.mk.injEq] at H
  obtain ⟨rfl, rfl, rfl, rfl⟩ := H
  go_enter Try.func26, Try.ntmps26
  go_wp2_with (first | ((with_reducible refine gate_dst (N := 2) rfl ?_); refine box_event ?hg (N := 2) ?hd (cs := #[.int .u8 0, .int .i64 0]) (t := 33) ?hr ?_; (case hd => rfl); (case hg => rfl); (case hr => first | (go_simp; done) | (go_simp; rfl)); intro gb204 hg w3 hbox hb; have n0_ := Bs0 HB hb; have n1_ := Ax (hbox); have n2_ := Gw0 HB hg; have n3_ := Gw0 HB hg; clear HB; have HB := n0_; have BK204 := n1_; have GW204 := n2_; have GE204 := n3_; clear n0_ n1_ n2_ n3_; clear hb hbox hg; obtain ⟨hcz4_0, hcz4_1, hfz4_0, hfz4_1⟩ := cl2 BK204))
  refine bodyPost_ret (results_ctt rfl _ _ gb204 33 #[.int .u8 0, .int .i64 0] (0, 0) _ rfl (by (with_reducible repeat (first | refine blk_drewN ?_ _ | refine blk_drew ?_ | refine blk_alloc ?_ _)); refine blk_put (cs := #[.int .u8 0, .int .i64 0]) ?_ 1 _ rfl; (with_reducible repeat (first | refine blk_drewN ?_ _ | refine blk_drew ?_ | refine blk_alloc ?_ _)); refine blk_put (cs := #[.int .u8 0, .int .i64 0]) ?_ 0 _ rfl; (with_reducible repeat (first | refine blk_drewN ?_ _ | refine blk_drew ?_ | refine blk_alloc ?_ _)); exact BK204.out) Try.underlying33 rfl (by kernel_rfl)) rfl ?_
  exact ⟨eS, bw1 HB.out GE204.out⟩
 ·rw [if_neg c2] at H
  have c2b0 : (a0.toList == ([] : List UInt8)) = false := beq_eq_false_iff_ne.mpr c2
  have c2b1 : (a0.toList != ([] : List UInt8)) = true := bne_iff_ne.mpr c2
  by_cases c5 : 1 ≤ (a0.size : Int)
  ·rw [if_pos c5] at H
   have c5b0 := eq_true c5
   have c5b1 : decide (1 ≤ (a0.size : Int)) = true := decide_eq_true c5
   clear c5
   by_cases c6 : 0 < (a0.size : Int)
   ·rw [if_pos c6] at H
    have c6b0 : decide (0 < (a0.size : Int)) = true := decide_eq_true c6
    have c6b1 : decide (0 < a0.size) = true := decide_eq_true (by omega)
    clear c6
    by_cases c8 : (bt a0 0) = 1
    ·rw [if_pos c8] at H
     have c8b0 : ((bt a0 0) == 1) = true := beq_iff_eq.mpr c8
     have c8b1 : ((bt a0 0) != 1) = false := bne_eq_false_iff_eq.mpr c8
     clear c8
     replace H := Option.bind_eq_some_iff.mp H
     obtain ⟨⟨t207, t208, t209⟩, A90, H⟩ := H
     replace H : (if t209 = 0 then ((msg_acts.f (bt a0 0) t207).bind fun t210 => (if t210 = true then (some (bt a0 0, t207, t208, 0)) else (some (0, 0, (⟨#[]⟩ : ByteArray), 7)))) else (some (0, 0, (⟨#[]⟩ : ByteArray), 7))) = some (r1, r2, r3, r4) := H
     have A9 := Ax A90
     clear A90
     by_cases c10 : t209 = 0
     ·rw [if_pos c10] at H
      have c10b0 : (t209 == 0) = true := beq_iff_eq.mpr c10
      have c10b1 : (t209 != 0) = false := bne_eq_false_iff_eq.mpr c10
      clear c10
      replace H := Option.bind_eq_some_iff.mp H
      obtain ⟨t210, A110, H⟩ := H
      replace H : (if t210 = true then (some (bt a0 0, t207, t208, 0)) else (some (0, 0, (⟨#[]⟩ : ByteArray), 7))) = some (r1, r2, r3, r4) := H
      have A11 := Ax A110
      clear A110
      by_cases c12 : t210 = true
      ·subst c12
       have H1 : (some (bt a0 0, t207, t208, 0)) = some (r1, r2, r3, r4) := by rw [if_pos rfl] at H; exact H
       clear H
       have H := H1
       clear H1
       simp only [Option.some.injEq, Prod.mk.injEq] at H
       obtain ⟨rfl, rfl, rfl, rfl⟩ := H
       go_enter Try.func26, Try.ntmps26
       try go_wp2_with (first | ((with_reducible refine gate_dst (N := 2) rfl ?_); refine box_event ?hg (N := 2) ?hd (cs := #[.int .u8 0, .int .i64 0]) (t := 33) ?hr ?_; (case hd => rfl); (case hg => rfl); (case hr => first | (go_simp; done) | (go_simp; rfl)); intro gb204 hg w13 hbox hb; have n0_ := Bs0 HB hb; have n1_ := Ax (hbox); have n2_ := Gw0 HB hg; have n3_ := Gw0 HB hg; clear HB; have HB := n0_; have BK204 := n1_; have GW204 := n2_; have GE204 := n3_; clear n0_ n1_ n2_ n3_; clear hb hbox hg) | ((with_reducible refine gate_dst (N := 13) rfl ?_); refine box_event ?hg (N := 13) ?hd (cs := #[.string (a0.extract 1 a0.size), .int .i64 0]) (t := 67) ?hr ?_; (case hd => rfl); (case hg => rfl); (case hr => first | (go_simp; done) | (go_simp; rfl)); intro gb205 hg w14 hbox hb; have n0_ := Bx0 BK204 hb; have n1_ := Bs1 HB hb GE204.out; have n2_ := Ax (hbox); have n3_ := Gw1 HB hg GE204.out; have n4_ := Gw1 HB hg GE204.out; have n5_ := Nl0 BK204 hg; have n6_ := Nr0 BK204 hg; clear BK204; clear HB; have BK204 := n0_; have HB := n1_; have BK205 := n2_; have GW205 := n3_; have GE205 := n4_; have NB204_205 := n5_; have NB205_204 := n6_; clear n0_ n1_ n2_ n3_ n4_ n5_ n6_; clear hb hbox hg; have p7 : 0 ≤ (0 : Int) := (by omega); have q7 : 0 < a0.size := (by have : (0 : Int) < (a0.size : Int) := of_decide_eq_true (by first | (with_reducible assumption) | assumption); first | omega | (simp only [ByteArray.size_append]; omega)); have hx7 : ∀ h : 0 < a0.size, ((a0[0]'h).toNat : Int) = bt a0 0 := bt_at a0 0; clear p7; have qi7 : (0 < (a0.size : Int)) = True := eq_true (of_decide_eq_true (by first | (with_reducible assumption) | assumption)); replace q7 := eq_true q7) | ((with_reducible refine gate_dst (N := 6) rfl ?_); refine box_event ?hg (N := 6) ?hd (cs := #[.int .u8 0, .int .i64 0]) (t := 33) ?hr ?_; (case hd => rfl); (case hg => rfl); (case hr => first | (go_simp; done) | (go_simp; rfl)); intro gb206 hg w15 hbox hb; have n0_ := Bx0 BK204 hb; have n1_ := Bx0 BK205 hb; have n2_ := Bs2 HB hb GE204.out GE205.out; have n3_ := Ax (hbox); have n4_ := Gw2 HB hg GE204.out GE205.out; have n5_ := Gw2 HB hg GE204.out GE205.out; have n6_ := Nl0 BK204 hg; have n7_ := Nr0 BK204 hg; have n8_ := Nl0 BK205 hg; have n9_ := Nr0 BK205 hg; clear BK204; clear BK205; clear HB; have BK204 := n0_; have BK205 := n1_; have HB := n2_; have BK206 := n3_; have GW206 := n4_; have GE206 := n5_; have NB204_206 := n6_; have NB206_204 := n7_; have NB205_206 := n8_; have NB206_205 := n9_; clear n0_ n1_ n2_ n3_ n4_ n5_ n6_ n7_ n8_ n9_; clear hb hbox hg; have hnb16 := NB206_204.out; have hnc16 := NB204_206.out; have hnb17 := NB206_205.out; have hnc17 := NB205_206.out; obtain ⟨hcz18_0, hcz18_1, hfz18_0, hfz18_1⟩ := cl2 BK206; have HIB205 := Ax (show IsS67 w w15 gb205 (a0.extract 1 a0.size) 0 from ⟨by first | exact BK205.out | simpa using BK205.out, GE205.out⟩); clear BK205) | ((with_reducible refine gate_callee (f := 21) rfl ?_); refine goesL_ (some 21) rfl rfl Try.func21 (by kernel_rfl) rfl #[.pointer (some ⟨gb205, 0, none⟩), .int .i64 65536] rfl gS ?_; (with_reducible refine (num_Reader_Many.calls k gb205 (a0.extract 1 a0.size) 0 65536 t207 t208 t209 w _ ?side1 ?side2 A9.out).mono ?_); (case side1 => repeat (first | (with_reducible first | exact HIB205.out | apply IsS67.alloc | apply IsS67.drewN | apply IsS67.drew | apply IsS67.set_0 | apply IsS67.set_1 | refine IsS67.far ?_ NB205_204.out _ | refine IsS67.far ?_ NB205_206.out _) | exact HIB205.out)); (case side2 => repeat (first | (with_reducible first | exact HB.out | apply below_alloc | apply pw_below_drewN | apply below_drew1 | refine below_set ?_ (IsS67.ge HIB205.out) | refine below_set ?_ GE204.out | refine below_set ?_ GE206.out) | exact HB.out)); rintro e w19 ⟨rfl, hi, hb, hk⟩; refine ⟨_, rfl, ?_⟩; have n0_ := Ax (KeepBut.blk hk (g' := gb204) (o := .cells #[.int .u8 0, .int .i64 0] 33 (0, 0)) (bf2 BK204.out NB204_206.out NB204_206.out) NB204_205.out (by simp)); have n1_ := Ax (KeepBut.blk hk (g' := gb206) (o := .cells #[.int .u8 (bt a0 0), .int .i64 0] 33 (0, 0)) (by (with_reducible repeat (first | refine blk_drewN ?_ _ | refine blk_drew ?_ | refine blk_alloc ?_ _)); refine blk_put (cs := #[.int .u8 (bt a0 0), .int .i64 0]) ?_ 1 _ rfl; (with_reducible repeat (first | refine blk_drewN ?_ _ | refine blk_drew ?_ | refine blk_alloc ?_ _)); refine blk_put (cs := #[.int .u8 0, .int .i64 0]) ?_ 0 _ rfl; (with_reducible repeat (first | refine blk_drewN ?_ _ | refine blk_drew ?_ | refine blk_alloc ?_ _)); exact BK206.out) NB206_205.out (by simp)); have n2_ := Ax (hb); have n3_ := Ax (hi.1); clear BK204; clear BK206; clear HB; have BK204 := n0_; have BK206 := n1_; have HB := n2_; have BK205 := n3_; clear n0_ n1_ n2_ n3_; (try clear hb); (try clear hb2); (try clear hk); (try clear hi); obtain ⟨hcz20_0, hcz20_1, hfz20_0, hfz20_1⟩ := cl2 BK206; have hnb21 := NB205_204.out; have hnc21 := NB204_205.out; obtain ⟨hcz22_0, hcz22_1, hfz22_0, hfz22_1⟩ := cl2 BK205) | (go_at_call 29; (with_reducible refine (msg_acts.calls (bt a0 0) t207 true _ A11.out).mono ?_); rintro e w23 ⟨rfl, hb⟩; have n0_ := Bx1 BK204 hb NB204_206.out; have n1_ := Bx1 BK205 hb NB205_206.out; have n2_ := Ax (blk_below (g := gb206) (o := .cells #[.int .u8 (bt a0 0), .int .i64 t207] 33 (0, 0)) (by (with_reducible repeat (first | refine blk_drewN ?_ _ | refine blk_drew ?_ | refine blk_alloc ?_ _)); refine blk_put (cs := #[.int .u8 (bt a0 0), .int .i64 0]) ?_ 1 _ rfl; (with_reducible repeat (first | refine blk_drewN ?_ _ | refine blk_drew ?_ | refine blk_alloc ?_ _)); exact BK206.out) hb); have n3_ := Bs3 HB hb GE204.out GE205.out GE206.out; clear BK204; clear BK205; clear BK206; clear HB; have BK204 := n0_; have BK205 := n1_; have BK206 := n2_; have HB := n3_; clear n0_ n1_ n2_ n3_; (try clear hb); (try clear hb2); (try clear hk); (try clear hi)))
       replace BK204 := Ax (blk_drew BK204.out)
       replace BK205 := Ax (blk_drew BK205.out)
       replace BK206 := Ax (blk_drew BK206.out)
       replace HB := Ax (below_drew1 HB.out)
       refine start_ (n := 8) (S := fun w' => w'.cell? ⟨gb206, 0, none⟩ = some (.int .u8 (bt a0 0)) ∧ w'.cell? ⟨gb206, 1, none⟩ = some (.int .i64 t207) ∧ w'.cell? ⟨gb205, 0, none⟩ = some (.string t208) ∧ w'.cell? ⟨gb205, 1, none⟩ = some (.int .i64 t209)) (ds := []) #[fa,fa,fa,fa,fa,fa,fa,fa] (by kernel_rfl) rfl rfl ⟨(blk_cell BK206.out 0).trans rfl, (blk_cell BK206.out 1).trans rfl, (blk_cell BK205.out 0).trans rfl, (blk_cell BK205.out 1).trans rfl⟩ (fun hHeld => ?_); refine with_tabW msg_GetAction.tab9 msg_GetAction.bits9 (fun HT_ HW_ => ?_)
       generalize w23.drew = w24 at BK204 BK205 BK206 HB hHeld ⊢
       refine pure_ (i := 1) (N := some 35) (v := ?_) (a' := ?_) #[fa,tr,fa,fa,fa,fa,fa,fa] rfl rfl (any_of HT_.out (by kernel_rfl)) (fun _ _ _ h => h) (Or.inl ⟨by rfl, ?_⟩) ?_ ?_
       rotate_left
       ·intro w'
        go_simp
        with_reducible rfl
       rotate_left
       ·simp only [sP]
        rfl
       refine pure_ (i := 2) (N := some 36) (v := ?_) (a' := ?_) #[fa,tr,tr,fa,fa,fa,fa,fa] rfl rfl (any_of HT_.out (by kernel_rfl)) (fun _ _ _ h => h) (Or.inl ⟨by rfl, ?_⟩) ?_ ?_
       rotate_left
       ·intro w'
        go_simp
        with_reducible rfl
       rotate_left
       ·simp only [sP]
        rfl
       refine pure_ (i := 3) (N := some 37) (v := ?_) (a' := ?_) #[fa,tr,tr,tr,fa,fa,fa,fa] rfl rfl (any_of HT_.out (by kernel_rfl)) (fun _ _ _ h => h) (Or.inl ⟨by rfl, ?_⟩) ?_ ?_
       rotate_left
       ·intro w'
        go_simp
        with_reducible rfl
       rotate_left
       ·simp only [sP]
        rfl
       refine take_ (i := 0) (N := some 34) (v := ?_) (a' := ?_) #[tr,tr,tr,tr,fa,fa,fa,fa] rfl rfl (take_ofW HT_.out HW_.out (by kernel_rfl)) (fun _ _ _ h => h) (Or.inl ⟨by rfl, ?_⟩) hHeld ?_ ?_
       rotate_left
       ·rintro w' ⟨s0, s1, s2, s3⟩
        go_simp
        with_reducible rfl
       rotate_left
       ·simp only [sP]
        rfl
       refine take_ (i := 4) (N := some 38) (v := ?_) (a' := ?_) #[tr,tr,tr,tr,tr,fa,fa,fa] rfl rfl (take_ofW HT_.out HW_.out (by kernel_rfl)) (fun _ _ _ h => h) (Or.inl ⟨by rfl, ?_⟩) hHeld ?_ ?_
       rotate_left
       ·rintro w' ⟨s0, s1, s2, s3⟩
        go_simp
        with_reducible rfl
       rotate_left
       ·simp only [sP]
        rfl
       refine one_ (i := 5) (N := none) #[tr,tr,tr,tr,tr,tr,fa,fa] rfl rfl (one_of HT_.out (by kernel_rfl)) (by decide) (fun K hK => ?_)
       have hs25 : w24.cell? ⟨gb204, 0, none⟩ = some (.int .u8 0) := (blk_cell BK204.out 0).trans rfl
       have hfs25 := blk_frozen BK204.out 0
       have hns25_1 := NB205_204.out
       have hns25_2 := NB206_204.out
       have hms25_1 := NB204_205.out
       have hms25_2 := NB204_206.out
       have hs26 : w24.cell? ⟨gb204, 1, none⟩ = some (.int .i64 0) := (blk_cell BK204.out 1).trans rfl
       have hfs26 := blk_frozen BK204.out 1
       have hns26_1 := NB205_204.out
       have hns26_2 := NB206_204.out
       have hms26_1 := NB204_205.out
       have hms26_2 := NB204_206.out
       refine skip_ (w1 := ?_) (by rfl) rfl ?_ ?_
       rotate_left
       ·go_simp
        rfl
       refine hK.out _ _ ⟨((cell_far (p := ⟨gb204, _, none⟩) NB206_204.out _).trans (((cell_far (p := ⟨gb204, _, none⟩) NB206_204.out _).trans (hHeld.1)))), ((cell_far (p := ⟨gb204, _, none⟩) NB206_204.out _).trans (((cell_far (p := ⟨gb204, _, none⟩) NB206_204.out _).trans (hHeld.2.1)))), ((cell_far (p := ⟨gb204, _, none⟩) NB205_204.out _).trans (((cell_far (p := ⟨gb204, _, none⟩) NB205_204.out _).trans (hHeld.2.2.1)))), ((cell_far (p := ⟨gb204, _, none⟩) NB205_204.out _).trans (((cell_far (p := ⟨gb204, _, none⟩) NB205_204.out _).trans (hHeld.2.2.2))))⟩ (fun hHeld => ?_)
       clear hK K
       refine pure_ (i := 6) (N := some 3) (v := ?_) (a' := ?_) #[tr,tr,tr,tr,tr,tr,tr,fa] rfl rfl (any_of HT_.out (by kernel_rfl)) (fun _ _ _ h => h) (Or.inl ⟨by rfl, ?_⟩) ?_ ?_
       rotate_left
       ·intro w'
        go_simp
        with_reducible rfl
       rotate_left
       ·simp only [sP]
        rfl
       refine pure_ (i := 7) (N := some 4) (v := ?_) (a' := ?_) #[tr,tr,tr,tr,tr,tr,tr,tr] rfl rfl (any_of HT_.out (by kernel_rfl)) (fun _ _ _ h => h) (Or.inl ⟨by rfl, ?_⟩) ?_ ?_
       rotate_left
       ·intro w'
        go_simp
        with_reducible rfl
       rotate_left
       ·simp only [sP]
        rfl
       refine done_ (done_of HT_.out (by kernel_rfl)) ?_
       try go_wp2
       refine bodyPost_ret (results_ctt rfl _ _ gb204 33 #[.int .u8 (bt a0 0), .int .i64 t207] (0, 0) _ rfl (by (with_reducible repeat (first | refine blk_drewN ?_ _ | refine blk_drew ?_ | refine blk_alloc ?_ _)); refine blk_put (cs := #[.int .u8 (bt a0 0), .int .i64 0]) ?_ 1 _ rfl; (with_reducible repeat (first | refine blk_drewN ?_ _ | refine blk_drew ?_ | refine blk_alloc ?_ _)); refine blk_put (cs := #[.int .u8 0, .int .i64 0]) ?_ 0 _ rfl; (with_reducible repeat (first | refine blk_drewN ?_ _ | refine blk_drew ?_ | refine blk_alloc ?_ _)); exact BK204.out) Try.underlying33 rfl (by kernel_rfl)) rfl ?_
       exact ⟨eS, bw3 HB.out GE204.out GE205.out GE206.out⟩
      ·replace c12 := Bool.eq_false_iff.mpr c12
       subst c12
       have H1 : (some (0, 0, (⟨#[]⟩ : ByteArray), 7)) = some (r1, r2, r3, r4) := by rw [if_neg (show ¬ (false = true) by decide)] at H; exact H
       clear H
       have H := H1
       clear H1
       simp only [Option.some.injEq, Prod.mk.injEq] at H
       obtain ⟨rfl, rfl, rfl, rfl⟩ := H
       go_enter Try.func26, Try.ntmps26
       go_wp2_with (first | ((with_reducible refine gate_dst (N := 2) rfl ?_); refine box_event ?hg (N := 2) ?hd (cs := #[.int .u8 0, .int .i64 0]) (t := 33) ?hr ?_; (case hd => rfl); (case hg => rfl); (case hr => first | (go_simp; done) | (go_simp; rfl)); intro gb204 hg w27 hbox hb; have n0_ := Bs0 HB hb; have n1_ := Ax (hbox); have n2_ := Gw0 HB hg; have n3_ := Gw0 HB hg; clear HB; have HB := n0_; have BK204 := n1_; have GW204 := n2_; have GE204 := n3_; clear n0_ n1_ n2_ n3_; clear hb hbox hg) | ((with_reducible refine gate_dst (N := 13) rfl ?_); refine box_event ?hg (N := 13) ?hd (cs := #[.string (a0.extract 1 a0.size), .int .i64 0]) (t := 67) ?hr ?_; (case hd => rfl); (case hg => rfl); (case hr => first | (go_simp; done) | (go_simp; rfl)); intro gb205 hg w28 hbox hb; have n0_ := Bx0 BK204 hb; have n1_ := Bs1 HB hb GE204.out; have n2_ := Ax (hbox); have n3_ := Gw1 HB hg GE204.out; have n4_ := Gw1 HB hg GE204.out; have n5_ := Nl0 BK204 hg; have n6_ := Nr0 BK204 hg; clear BK204; clear HB; have BK204 := n0_; have HB := n1_; have BK205 := n2_; have GW205 := n3_; have GE205 := n4_; have NB204_205 := n5_; have NB205_204 := n6_; clear n0_ n1_ n2_ n3_ n4_ n5_ n6_; clear hb hbox hg; have p7 : 0 ≤ (0 : Int) := (by omega); have q7 : 0 < a0.size := (by have : (0 : Int) < (a0.size : Int) := of_decide_eq_true (by first | (with_reducible assumption) | assumption); first | omega | (simp only [ByteArray.size_append]; omega)); have hx7 : ∀ h : 0 < a0.size, ((a0[0]'h).toNat : Int) = bt a0 0 := bt_at a0 0; clear p7; have qi7 : (0 < (a0.size : Int)) = True := eq_true (of_decide_eq_true (by first | (with_reducible assumption) | assumption)); replace q7 := eq_true q7) | ((with_reducible refine gate_dst (N := 6) rfl ?_); refine box_event ?hg (N := 6) ?hd (cs := #[.int .u8 0, .int .i64 0]) (t := 33) ?hr ?_; (case hd => rfl); (case hg => rfl); (case hr => first | (go_simp; done) | (go_simp; rfl)); intro gb206 hg w29 hbox hb; have n0_ := Bx0 BK204 hb; have n1_ := Bx0 BK205 hb; have n2_ := Bs2 HB hb GE204.out GE205.out; have n3_ := Ax (hbox); have n4_ := Gw2 HB hg GE204.out GE205.out; have n5_ := Gw2 HB hg GE204.out GE205.out; have n6_ := Nl0 BK204 hg; have n7_ := Nr0 BK204 hg; have n8_ := Nl0 BK205 hg; have n9_ := Nr0 BK205 hg; clear BK204; clear BK205; clear HB; have BK204 := n0_; have BK205 := n1_; have HB := n2_; have BK206 := n3_; have GW206 := n4_; have GE206 := n5_; have NB204_206 := n6_; have NB206_204 := n7_; have NB205_206 := n8_; have NB206_205 := n9_; clear n0_ n1_ n2_ n3_ n4_ n5_ n6_ n7_ n8_ n9_; clear hb hbox hg; have hnb30 := NB206_204.out; have hnc30 := NB204_206.out; have hnb31 := NB206_205.out; have hnc31 := NB205_206.out; obtain ⟨hcz32_0, hcz32_1, hfz32_0, hfz32_1⟩ := cl2 BK206; have HIB205 := Ax (show IsS67 w w29 gb205 (a0.extract 1 a0.size) 0 from ⟨by first | exact BK205.out | simpa using BK205.out, GE205.out⟩); clear BK205) | ((with_reducible refine gate_callee (f := 21) rfl ?_); refine goesL_ (some 21) rfl rfl Try.func21 (by kernel_rfl) rfl #[.pointer (some ⟨gb205, 0, none⟩), .int .i64 65536] rfl gS ?_; (with_reducible refine (num_Reader_Many.calls k gb205 (a0.extract 1 a0.size) 0 65536 t207 t208 t209 w _ ?side1 ?side2 A9.out).mono ?_); (case side1 => repeat (first | (with_reducible first | exact HIB205.out | apply IsS67.alloc | apply IsS67.drewN | apply IsS67.drew | apply IsS67.set_0 | apply IsS67.set_1 | refine IsS67.far ?_ NB205_204.out _ | refine IsS67.far ?_ NB205_206.out _) | exact HIB205.out)); (case side2 => repeat (first | (with_reducible first | exact HB.out | apply below_alloc | apply pw_below_drewN | apply below_drew1 | refine below_set ?_ (IsS67.ge HIB205.out) | refine below_set ?_ GE204.out | refine below_set ?_ GE206.out) | exact HB.out)); rintro e w33 ⟨rfl, hi, hb, hk⟩; refine ⟨_, rfl, ?_⟩; have n0_ := Ax (KeepBut.blk hk (g' := gb204) (o := .cells #[.int .u8 0, .int .i64 0] 33 (0, 0)) (bf2 BK204.out NB204_206.out NB204_206.out) NB204_205.out (by simp)); have n1_ := Ax (KeepBut.blk hk (g' := gb206) (o := .cells #[.int .u8 (bt a0 0), .int .i64 0] 33 (0, 0)) (by (with_reducible repeat (first | refine blk_drewN ?_ _ | refine blk_drew ?_ | refine blk_alloc ?_ _)); refine blk_put (cs := #[.int .u8 (bt a0 0), .int .i64 0]) ?_ 1 _ rfl; (with_reducible repeat (first | refine blk_drewN ?_ _ | refine blk_drew ?_ | refine blk_alloc ?_ _)); refine blk_put (cs := #[.int .u8 0, .int .i64 0]) ?_ 0 _ rfl; (with_reducible repeat (first | refine blk_drewN ?_ _ | refine blk_drew ?_ | refine blk_alloc ?_ _)); exact BK206.out) NB206_205.out (by simp)); have n2_ := Ax (hb); have n3_ := Ax (hi.1); clear BK204; clear BK206; clear HB; have BK204 := n0_; have BK206 := n1_; have HB := n2_; have BK205 := n3_; clear n0_ n1_ n2_ n3_; (try clear hb); (try clear hb2); (try clear hk); (try clear hi); obtain ⟨hcz34_0, hcz34_1, hfz34_0, hfz34_1⟩ := cl2 BK206; have hnb35 := NB205_204.out; have hnc35 := NB204_205.out; obtain ⟨hcz36_0, hcz36_1, hfz36_0, hfz36_1⟩ := cl2 BK205) | (go_at_call 29; (with_reducible refine (msg_acts.calls (bt a0 0) t207 false _ A11.out).mono ?_); rintro e w37 ⟨rfl, hb⟩; have n0_ := Bx1 BK204 hb NB204_206.out; have n1_ := Bx1 BK205 hb NB205_206.out; have n2_ := Ax (blk_below (g := gb206) (o := .cells #[.int .u8 (bt a0 0), .int .i64 t207] 33 (0, 0)) (by (with_reducible repeat (first | refine blk_drewN ?_ _ | refine blk_drew ?_ | refine blk_alloc ?_ _)); refine blk_put (cs := #[.int .u8 (bt a0 0), .int .i64 0]) ?_ 1 _ rfl; (with_reducible repeat (first | refine blk_drewN ?_ _ | refine blk_drew ?_ | refine blk_alloc ?_ _)); exact BK206.out) hb); have n3_ := Bs3 HB hb GE204.out GE205.out GE206.out; clear BK204; clear BK205; clear BK206; clear HB; have BK204 := n0_; have BK205 := n1_; have BK206 := n2_; have HB := n3_; clear n0_ n1_ n2_ n3_; (try clear hb); (try clear hb2); (try clear hk); (try clear hi); obtain ⟨hcz38_0, hcz38_1, hfz38_0, hfz38_1⟩ := cl2 BK204))
       refine bodyPost_ret (results_ctt rfl _ _ gb204 33 #[.int .u8 0, .int .i64 0] (0, 0) _ rfl (by (with_reducible repeat (first | refine blk_drewN ?_ _ | refine blk_drew ?_ | refine blk_alloc ?_ _)); refine blk_put (cs := #[.int .u8 0, .int .i64 0]) ?_ 1 _ rfl; (with_reducible repeat (first | refine blk_drewN ?_ _ | refine blk_drew ?_ | refine blk_alloc ?_ _)); refine blk_put (cs := #[.int .u8 0, .int .i64 0]) ?_ 0 _ rfl; (with_reducible repeat (first | refine blk_drewN ?_ _ | refine blk_drew ?_ | refine blk_alloc ?_ _)); exact BK204.out) Try.underlying33 rfl (by kernel_rfl)) rfl ?_
       exact ⟨eS, bw3 HB.out GE204.out GE205.out GE206.out⟩
     ·rw [if_neg c10] at H
      have c10b0 : (t209 == 0) = false := beq_eq_false_iff_ne.mpr c10
      have c10b1 : (t209 != 0) = true := bne_iff_ne.mpr c10
      simp only [Option.some.injEq, Prod.mk.injEq] at H
      obtain ⟨rfl, rfl, rfl, rfl⟩ := H
      go_enter Try.func26, Try.ntmps26
      go_wp2_with (first | ((with_reducible refine gate_dst (N := 2) rfl ?_); refine box_event ?hg (N := 2) ?hd (cs := #[.int .u8 0, .int .i64 0]) (t := 33) ?hr ?_; (case hd => rfl); (case hg => rfl); (case hr => first | (go_simp; done) | (go_simp; rfl)); intro gb204 hg w39 hbox hb; have n0_ := Bs0 HB hb; have n1_ := Ax (hbox); have n2_ := Gw0 HB hg; have n3_ := Gw0 HB hg; clear HB; have HB := n0_; have BK204 := n1_; have GW204 := n2_; have GE204 := n3_; clear n0_ n1_ n2_ n3_; clear hb hbox hg) | ((with_reducible refine gate_dst (N := 13) rfl ?_); refine box_event ?hg (N := 13) ?hd (cs := #[.string (a0.extract 1 a0.size), .int .i64 0]) (t := 67) ?hr ?_; (case hd => rfl); (case hg => rfl); (case hr => first | (go_simp; done) | (go_simp; rfl)); intro gb205 hg w40 hbox hb; have n0_ := Bx0 BK204 hb; have n1_ := Bs1 HB hb GE204.out; have n2_ := Ax (hbox); have n3_ := Gw1 HB hg GE204.out; have n4_ := Gw1 HB hg GE204.out; have n5_ := Nl0 BK204 hg; have n6_ := Nr0 BK204 hg; clear BK204; clear HB; have BK204 := n0_; have HB := n1_; have BK205 := n2_; have GW205 := n3_; have GE205 := n4_; have NB204_205 := n5_; have NB205_204 := n6_; clear n0_ n1_ n2_ n3_ n4_ n5_ n6_; clear hb hbox hg; have p7 : 0 ≤ (0 : Int) := (by omega); have q7 : 0 < a0.size := (by have : (0 : Int) < (a0.size : Int) := of_decide_eq_true (by first | (with_reducible assumption) | assumption); first | omega | (simp only [ByteArray.size_append]; omega)); have hx7 : ∀ h : 0 < a0.size, ((a0[0]'h).toNat : Int) = bt a0 0 := bt_at a0 0; clear p7; have qi7 : (0 < (a0.size : Int)) = True := eq_true (of_decide_eq_true (by first | (with_reducible assumption) | assumption)); replace q7 := eq_true q7) | ((with_reducible refine gate_dst (N := 6) rfl ?_); refine box_event ?hg (N := 6) ?hd (cs := #[.int .u8 0, .int .i64 0]) (t := 33) ?hr ?_; (case hd => rfl); (case hg => rfl); (case hr => first | (go_simp; done) | (go_simp; rfl)); intro gb206 hg w41 hbox hb; have n0_ := Bx0 BK204 hb; have n1_ := Bx0 BK205 hb; have n2_ := Bs2 HB hb GE204.out GE205.out; have n3_ := Ax (hbox); have n4_ := Gw2 HB hg GE204.out GE205.out; have n5_ := Gw2 HB hg GE204.out GE205.out; have n6_ := Nl0 BK204 hg; have n7_ := Nr0 BK204 hg; have n8_ := Nl0 BK205 hg; have n9_ := Nr0 BK205 hg; clear BK204; clear BK205; clear HB; have BK204 := n0_; have BK205 := n1_; have HB := n2_; have BK206 := n3_; have GW206 := n4_; have GE206 := n5_; have NB204_206 := n6_; have NB206_204 := n7_; have NB205_206 := n8_; have NB206_205 := n9_; clear n0_ n1_ n2_ n3_ n4_ n5_ n6_ n7_ n8_ n9_; clear hb hbox hg; have hnb42 := NB206_204.out; have hnc42 := NB204_206.out; have hnb43 := NB206_205.out; have hnc43 := NB205_206.out; obtain ⟨hcz44_0, hcz44_1, hfz44_0, hfz44_1⟩ := cl2 BK206; have HIB205 := Ax (show IsS67 w w41 gb205 (a0.extract 1 a0.size) 0 from ⟨by first | exact BK205.out | simpa using BK205.out, GE205.out⟩); clear BK205) | ((with_reducible refine gate_callee (f := 21) rfl ?_); refine goesL_ (some 21) rfl rfl Try.func21 (by kernel_rfl) rfl #[.pointer (some ⟨gb205, 0, none⟩), .int .i64 65536] rfl gS ?_; (with_reducible refine (num_Reader_Many.calls k gb205 (a0.extract 1 a0.size) 0 65536 t207 t208 t209 w _ ?side1 ?side2 A9.out).mono ?_); (case side1 => repeat (first | (with_reducible first | exact HIB205.out | apply IsS67.alloc | apply IsS67.drewN | apply IsS67.drew | apply IsS67.set_0 | apply IsS67.set_1 | refine IsS67.far ?_ NB205_204.out _ | refine IsS67.far ?_ NB205_206.out _) | exact HIB205.out)); (case side2 => repeat (first | (with_reducible first | exact HB.out | apply below_alloc | apply pw_below_drewN | apply below_drew1 | refine below_set ?_ (IsS67.ge HIB205.out) | refine below_set ?_ GE204.out | refine below_set ?_ GE206.out) | exact HB.out)); rintro e w45 ⟨rfl, hi, hb, hk⟩; refine ⟨_, rfl, ?_⟩; have n0_ := Ax (KeepBut.blk hk (g' := gb204) (o := .cells #[.int .u8 0, .int .i64 0] 33 (0, 0)) (bf2 BK204.out NB204_206.out NB204_206.out) NB204_205.out (by simp)); have n1_ := Ax (KeepBut.blk hk (g' := gb206) (o := .cells #[.int .u8 (bt a0 0), .int .i64 0] 33 (0, 0)) (by (with_reducible repeat (first | refine blk_drewN ?_ _ | refine blk_drew ?_ | refine blk_alloc ?_ _)); refine blk_put (cs := #[.int .u8 (bt a0 0), .int .i64 0]) ?_ 1 _ rfl; (with_reducible repeat (first | refine blk_drewN ?_ _ | refine blk_drew ?_ | refine blk_alloc ?_ _)); refine blk_put (cs := #[.int .u8 0, .int .i64 0]) ?_ 0 _ rfl; (with_reducible repeat (first | refine blk_drewN ?_ _ | refine blk_drew ?_ | refine blk_alloc ?_ _)); exact BK206.out) NB206_205.out (by simp)); have n2_ := Ax (hb); have n3_ := Ax (hi.1); clear BK204; clear BK206; clear HB; have BK204 := n0_; have BK206 := n1_; have HB := n2_; have BK205 := n3_; clear n0_ n1_ n2_ n3_; (try clear hb); (try clear hb2); (try clear hk); (try clear hi); obtain ⟨hcz46_0, hcz46_1, hfz46_0, hfz46_1⟩ := cl2 BK206; have hnb47 := NB205_204.out; have hnc47 := NB204_205.out; obtain ⟨hcz48_0, hcz48_1, hfz48_0, hfz48_1⟩ := cl2 BK205; obtain ⟨hcz49_0, hcz49_1, hfz49_0, hfz49_1⟩ := cl2 BK204))
      refine bodyPost_ret (results_ctt rfl _ _ gb204 33 #[.int .u8 0, .int .i64 0] (0, 0) _ rfl (by (with_reducible repeat (first | refine blk_drewN ?_ _ | refine blk_drew ?_ | refine blk_alloc ?_ _)); refine blk_put (cs := #[.int .u8 0, .int .i64 0]) ?_ 1 _ rfl; (with_reducible repeat (first | refine blk_drewN ?_ _ | refine blk_drew ?_ | refine blk_alloc ?_ _)); refine blk_put (cs := #[.int .u8 0, .int .i64 0]) ?_ 0 _ rfl; (with_reducible repeat (first | refine blk_drewN ?_ _ | refine blk_drew ?_ | refine blk_alloc ?_ _)); refine blk_far ?_ NB204_206.out _; (with_reducible repeat (first | refine blk_drewN ?_ _ | refine blk_drew ?_ | refine blk_alloc ?_ _)); exact BK204.out) Try.underlying33 rfl (by kernel_rfl)) rfl ?_
      exact ⟨eS, bw3 HB.out GE204.out GE205.out GE206.out⟩
    ·rw [if_neg c8] at H
     have c8b0 : ((bt a0 0) == 1) = false := beq_eq_false_iff_ne.mpr c8
     have c8b1 : ((bt a0 0) != 1) = true := bne_iff_ne.mpr c8
     replace H := Option.bind_eq_some_iff.mp H
     obtain ⟨t211, A500, H⟩ := H
     replace H : (if t211 = true then (some (bt a0 0, 0, a0.extract 1 a0.size, 0)) else (some (0, 0, (⟨#[]⟩ : ByteArray), 7))) = some (r1, r2, r3, r4) := H
     have A50 := Ax A500
     clear A500
     by_cases c51 : t211 = true
     ·subst c51
      have H1 : (some (bt a0 0, 0, a0.extract 1 a0.size, 0)) = some (r1, r2, r3, r4) := by rw [if_pos rfl] at H; exact H
      clear H
      have H := H1
      clear H1
      simp only [Option.some.injEq, Prod.mk.injEq] at H
      obtain ⟨rfl, rfl, rfl, rfl⟩ := H
      go_enter Try.func26, Try.ntmps26
      try go_wp2_with (first | ((with_reducible refine gate_dst (N := 2) rfl ?_); refine box_event ?hg (N := 2) ?hd (cs := #[.int .u8 0, .int .i64 0]) (t := 33) ?hr ?_; (case hd => rfl); (case hg => rfl); (case hr => first | (go_simp; done) | (go_simp; rfl)); intro gb204 hg w52 hbox hb; have n0_ := Bs0 HB hb; have n1_ := Ax (hbox); have n2_ := Gw0 HB hg; have n3_ := Gw0 HB hg; clear HB; have HB := n0_; have BK204 := n1_; have GW204 := n2_; have GE204 := n3_; clear n0_ n1_ n2_ n3_; clear hb hbox hg) | ((with_reducible refine gate_dst (N := 13) rfl ?_); refine box_event ?hg (N := 13) ?hd (cs := #[.string (a0.extract 1 a0.size), .int .i64 0]) (t := 67) ?hr ?_; (case hd => rfl); (case hg => rfl); (case hr => first | (go_simp; done) | (go_simp; rfl)); intro gb205 hg w53 hbox hb; have n0_ := Bx0 BK204 hb; have n1_ := Bs1 HB hb GE204.out; have n2_ := Ax (hbox); have n3_ := Gw1 HB hg GE204.out; have n4_ := Gw1 HB hg GE204.out; have n5_ := Nl0 BK204 hg; have n6_ := Nr0 BK204 hg; clear BK204; clear HB; have BK204 := n0_; have HB := n1_; have BK205 := n2_; have GW205 := n3_; have GE205 := n4_; have NB204_205 := n5_; have NB205_204 := n6_; clear n0_ n1_ n2_ n3_ n4_ n5_ n6_; clear hb hbox hg; have p7 : 0 ≤ (0 : Int) := (by omega); have q7 : 0 < a0.size := (by have : (0 : Int) < (a0.size : Int) := of_decide_eq_true (by first | (with_reducible assumption) | assumption); first | omega | (simp only [ByteArray.size_append]; omega)); have hx7 : ∀ h : 0 < a0.size, ((a0[0]'h).toNat : Int) = bt a0 0 := bt_at a0 0; clear p7; have qi7 : (0 < (a0.size : Int)) = True := eq_true (of_decide_eq_true (by first | (with_reducible assumption) | assumption)); replace q7 := eq_true q7) | ((with_reducible refine gate_dst (N := 6) rfl ?_); refine box_event ?hg (N := 6) ?hd (cs := #[.int .u8 0, .int .i64 0]) (t := 33) ?hr ?_; (case hd => rfl); (case hg => rfl); (case hr => first | (go_simp; done) | (go_simp; rfl)); intro gb206 hg w54 hbox hb; have n0_ := Bx0 BK204 hb; have n1_ := Bx0 BK205 hb; have n2_ := Bs2 HB hb GE204.out GE205.out; have n3_ := Ax (hbox); have n4_ := Gw2 HB hg GE204.out GE205.out; have n5_ := Gw2 HB hg GE204.out GE205.out; have n6_ := Nl0 BK204 hg; have n7_ := Nr0 BK204 hg; have n8_ := Nl0 BK205 hg; have n9_ := Nr0 BK205 hg; clear BK204; clear BK205; clear HB; have BK204 := n0_; have BK205 := n1_; have HB := n2_; have BK206 := n3_; have GW206 := n4_; have GE206 := n5_; have NB204_206 := n6_; have NB206_204 := n7_; have NB205_206 := n8_; have NB206_205 := n9_; clear n0_ n1_ n2_ n3_ n4_ n5_ n6_ n7_ n8_ n9_; clear hb hbox hg; have hnb55 := NB206_204.out; have hnc55 := NB204_206.out; have hnb56 := NB206_205.out; have hnc56 := NB205_206.out; obtain ⟨hcz57_0, hcz57_1, hfz57_0, hfz57_1⟩ := cl2 BK206; have hnb58 := NB205_204.out; have hnc58 := NB204_205.out; obtain ⟨hcz59_0, hcz59_1, hfz59_0, hfz59_1⟩ := cl2 BK205) | (go_at_call 29; (with_reducible refine (msg_acts.calls (bt a0 0) 0 true _ A50.out).mono ?_); rintro e w60 ⟨rfl, hb⟩; have n0_ := Bx2 BK204 hb NB204_206.out NB204_206.out; have n1_ := Bx2 BK205 hb NB205_206.out NB205_206.out; have n2_ := Ax (blk_below (g := gb206) (o := .cells #[.int .u8 (bt a0 0), .int .i64 0] 33 (0, 0)) (by (with_reducible repeat (first | refine blk_drewN ?_ _ | refine blk_drew ?_ | refine blk_alloc ?_ _)); refine blk_put (cs := #[.int .u8 (bt a0 0), .int .i64 0]) ?_ 1 _ rfl; (with_reducible repeat (first | refine blk_drewN ?_ _ | refine blk_drew ?_ | refine blk_alloc ?_ _)); refine blk_put (cs := #[.int .u8 0, .int .i64 0]) ?_ 0 _ rfl; (with_reducible repeat (first | refine blk_drewN ?_ _ | refine blk_drew ?_ | refine blk_alloc ?_ _)); exact BK206.out) hb); have n3_ := Bs3 HB hb GE204.out GE205.out GE206.out; clear BK204; clear BK205; clear BK206; clear HB; have BK204 := n0_; have BK205 := n1_; have BK206 := n2_; have HB := n3_; clear n0_ n1_ n2_ n3_; (try clear hb); (try clear hb2); (try clear hk); (try clear hi)))
      replace BK204 := Ax (blk_drew BK204.out)
      replace BK205 := Ax (blk_drew BK205.out)
      replace BK206 := Ax (blk_drew BK206.out)
      replace HB := Ax (below_drew1 HB.out)
      refine start_ (n := 8) (S := fun w' => w'.cell? ⟨gb206, 0, none⟩ = some (.int .u8 (bt a0 0)) ∧ w'.cell? ⟨gb206, 1, none⟩ = some (.int .i64 0) ∧ w'.cell? ⟨gb205, 0, none⟩ = some (.string (a0.extract 1 a0.size)) ∧ w'.cell? ⟨gb205, 1, none⟩ = some (.int .i64 0)) (ds := []) #[fa,fa,fa,fa,fa,fa,fa,fa] (by kernel_rfl) rfl rfl ⟨(blk_cell BK206.out 0).trans rfl, (blk_cell BK206.out 1).trans rfl, (blk_cell BK205.out 0).trans rfl, (blk_cell BK205.out 1).trans rfl⟩ (fun hHeld => ?_); refine with_tabW msg_GetAction.tab9 msg_GetAction.bits9 (fun HT_ HW_ => ?_)
      generalize w60.drew = w61 at BK204 BK205 BK206 HB hHeld ⊢
      refine pure_ (i := 1) (N := some 35) (v := ?_) (a' := ?_) #[fa,tr,fa,fa,fa,fa,fa,fa] rfl rfl (any_of HT_.out (by kernel_rfl)) (fun _ _ _ h => h) (Or.inl ⟨by rfl, ?_⟩) ?_ ?_
      rotate_left
      ·intro w'
       go_simp
       with_reducible rfl
      rotate_left
      ·simp only [sP]
       rfl
      refine pure_ (i := 2) (N := some 36) (v := ?_) (a' := ?_) #[fa,tr,tr,fa,fa,fa,fa,fa] rfl rfl (any_of HT_.out (by kernel_rfl)) (fun _ _ _ h => h) (Or.inl ⟨by rfl, ?_⟩) ?_ ?_
      rotate_left
      ·intro w'
       go_simp
       with_reducible rfl
      rotate_left
      ·simp only [sP]
       rfl
      refine pure_ (i := 3) (N := some 37) (v := ?_) (a' := ?_) #[fa,tr,tr,tr,fa,fa,fa,fa] rfl rfl (any_of HT_.out (by kernel_rfl)) (fun _ _ _ h => h) (Or.inl ⟨by rfl, ?_⟩) ?_ ?_
      rotate_left
      ·intro w'
       go_simp
       with_reducible rfl
      rotate_left
      ·simp only [sP]
       rfl
      refine take_ (i := 0) (N := some 34) (v := ?_) (a' := ?_) #[tr,tr,tr,tr,fa,fa,fa,fa] rfl rfl (take_ofW HT_.out HW_.out (by kernel_rfl)) (fun _ _ _ h => h) (Or.inl ⟨by rfl, ?_⟩) hHeld ?_ ?_
      rotate_left
      ·rintro w' ⟨s0, s1, s2, s3⟩
       go_simp
       with_reducible rfl
      rotate_left
      ·simp only [sP]
       rfl
      refine take_ (i := 4) (N := some 38) (v := ?_) (a' := ?_) #[tr,tr,tr,tr,tr,fa,fa,fa] rfl rfl (take_ofW HT_.out HW_.out (by kernel_rfl)) (fun _ _ _ h => h) (Or.inl ⟨by rfl, ?_⟩) hHeld ?_ ?_
      rotate_left
      ·rintro w' ⟨s0, s1, s2, s3⟩
       go_simp
       with_reducible rfl
      rotate_left
      ·simp only [sP]
       rfl
      refine one_ (i := 5) (N := none) #[tr,tr,tr,tr,tr,tr,fa,fa] rfl rfl (one_of HT_.out (by kernel_rfl)) (by decide) (fun K hK => ?_)
      have hs62 : w61.cell? ⟨gb204, 0, none⟩ = some (.int .u8 0) := (blk_cell BK204.out 0).trans rfl
      have hfs62 := blk_frozen BK204.out 0
      have hns62_1 := NB205_204.out
      have hns62_2 := NB206_204.out
      have hms62_1 := NB204_205.out
      have hms62_2 := NB204_206.out
      have hs63 : w61.cell? ⟨gb204, 1, none⟩ = some (.int .i64 0) := (blk_cell BK204.out 1).trans rfl
      have hfs63 := blk_frozen BK204.out 1
      have hns63_1 := NB205_204.out
      have hns63_2 := NB206_204.out
      have hms63_1 := NB204_205.out
      have hms63_2 := NB204_206.out
      refine skip_ (w1 := ?_) (by rfl) rfl ?_ ?_
      rotate_left
      ·go_simp
       rfl
      refine hK.out _ _ ⟨((cell_far (p := ⟨gb204, _, none⟩) NB206_204.out _).trans (((cell_far (p := ⟨gb204, _, none⟩) NB206_204.out _).trans (hHeld.1)))), ((cell_far (p := ⟨gb204, _, none⟩) NB206_204.out _).trans (((cell_far (p := ⟨gb204, _, none⟩) NB206_204.out _).trans (hHeld.2.1)))), ((cell_far (p := ⟨gb204, _, none⟩) NB205_204.out _).trans (((cell_far (p := ⟨gb204, _, none⟩) NB205_204.out _).trans (hHeld.2.2.1)))), ((cell_far (p := ⟨gb204, _, none⟩) NB205_204.out _).trans (((cell_far (p := ⟨gb204, _, none⟩) NB205_204.out _).trans (hHeld.2.2.2))))⟩ (fun hHeld => ?_)
      clear hK K
      refine pure_ (i := 6) (N := some 3) (v := ?_) (a' := ?_) #[tr,tr,tr,tr,tr,tr,tr,fa] rfl rfl (any_of HT_.out (by kernel_rfl)) (fun _ _ _ h => h) (Or.inl ⟨by rfl, ?_⟩) ?_ ?_
      rotate_left
      ·intro w'
       go_simp
       with_reducible rfl
      rotate_left
      ·simp only [sP]
       rfl
      refine pure_ (i := 7) (N := some 4) (v := ?_) (a' := ?_) #[tr,tr,tr,tr,tr,tr,tr,tr] rfl rfl (any_of HT_.out (by kernel_rfl)) (fun _ _ _ h => h) (Or.inl ⟨by rfl, ?_⟩) ?_ ?_
      rotate_left
      ·intro w'
       go_simp
       with_reducible rfl
      rotate_left
      ·simp only [sP]
       rfl
      refine done_ (done_of HT_.out (by kernel_rfl)) ?_
      try go_wp2
      refine bodyPost_ret (results_ctt rfl _ _ gb204 33 #[.int .u8 (bt a0 0), .int .i64 0] (0, 0) _ rfl (by (with_reducible repeat (first | refine blk_drewN ?_ _ | refine blk_drew ?_ | refine blk_alloc ?_ _)); refine blk_put (cs := #[.int .u8 (bt a0 0), .int .i64 0]) ?_ 1 _ rfl; (with_reducible repeat (first | refine blk_drewN ?_ _ | refine blk_drew ?_ | refine blk_alloc ?_ _)); refine blk_put (cs := #[.int .u8 0, .int .i64 0]) ?_ 0 _ rfl; (with_reducible repeat (first | refine blk_drewN ?_ _ | refine blk_drew ?_ | refine blk_alloc ?_ _)); exact BK204.out) Try.underlying33 rfl (by kernel_rfl)) rfl ?_
      exact ⟨eS, bw3 HB.out GE204.out GE205.out GE206.out⟩
     ·replace c51 := Bool.eq_false_iff.mpr c51
      subst c51
      have H1 : (some (0, 0, (⟨#[]⟩ : ByteArray), 7)) = some (r1, r2, r3, r4) := by rw [if_neg (show ¬ (false = true) by decide)] at H; exact H
      clear H
      have H := H1
      clear H1
      simp only [Option.some.injEq, Prod.mk.injEq] at H
      obtain ⟨rfl, rfl, rfl, rfl⟩ := H
      go_enter Try.func26, Try.ntmps26
      go_wp2_with (first | ((with_reducible refine gate_dst (N := 2) rfl ?_); refine box_event ?hg (N := 2) ?hd (cs := #[.int .u8 0, .int .i64 0]) (t := 33) ?hr ?_; (case hd => rfl); (case hg => rfl); (case hr => first | (go_simp; done) | (go_simp; rfl)); intro gb204 hg w64 hbox hb; have n0_ := Bs0 HB hb; have n1_ := Ax (hbox); have n2_ := Gw0 HB hg; have n3_ := Gw0 HB hg; clear HB; have HB := n0_; have BK204 := n1_; have GW204 := n2_; have GE204 := n3_; clear n0_ n1_ n2_ n3_; clear hb hbox hg) | ((with_reducible refine gate_dst (N := 13) rfl ?_); refine box_event ?hg (N := 13) ?hd (cs := #[.string (a0.extract 1 a0.size), .int .i64 0]) (t := 67) ?hr ?_; (case hd => rfl); (case hg => rfl); (case hr => first | (go_simp; done) | (go_simp; rfl)); intro gb205 hg w65 hbox hb; have n0_ := Bx0 BK204 hb; have n1_ := Bs1 HB hb GE204.out; have n2_ := Ax (hbox); have n3_ := Gw1 HB hg GE204.out; have n4_ := Gw1 HB hg GE204.out; have n5_ := Nl0 BK204 hg; have n6_ := Nr0 BK204 hg; clear BK204; clear HB; have BK204 := n0_; have HB := n1_; have BK205 := n2_; have GW205 := n3_; have GE205 := n4_; have NB204_205 := n5_; have NB205_204 := n6_; clear n0_ n1_ n2_ n3_ n4_ n5_ n6_; clear hb hbox hg; have p7 : 0 ≤ (0 : Int) := (by omega); have q7 : 0 < a0.size := (by have : (0 : Int) < (a0.size : Int) := of_decide_eq_true (by first | (with_reducible assumption) | assumption); first | omega | (simp only [ByteArray.size_append]; omega)); have hx7 : ∀ h : 0 < a0.size, ((a0[0]'h).toNat : Int) = bt a0 0 := bt_at a0 0; clear p7; have qi7 : (0 < (a0.size : Int)) = True := eq_true (of_decide_eq_true (by first | (with_reducible assumption) | assumption)); replace q7 := eq_true q7) | ((with_reducible refine gate_dst (N := 6) rfl ?_); refine box_event ?hg (N := 6) ?hd (cs := #[.int .u8 0, .int .i64 0]) (t := 33) ?hr ?_; (case hd => rfl); (case hg => rfl); (case hr => first | (go_simp; done) | (go_simp; rfl)); intro gb206 hg w66 hbox hb; have n0_ := Bx0 BK204 hb; have n1_ := Bx0 BK205 hb; have n2_ := Bs2 HB hb GE204.out GE205.out; have n3_ := Ax (hbox); have n4_ := Gw2 HB hg GE204.out GE205.out; have n5_ := Gw2 HB hg GE204.out GE205.out; have n6_ := Nl0 BK204 hg; have n7_ := Nr0 BK204 hg; have n8_ := Nl0 BK205 hg; have n9_ := Nr0 BK205 hg; clear BK204; clear BK205; clear HB; have BK204 := n0_; have BK205 := n1_; have HB := n2_; have BK206 := n3_; have GW206 := n4_; have GE206 := n5_; have NB204_206 := n6_; have NB206_204 := n7_; have NB205_206 := n8_; have NB206_205 := n9_; clear n0_ n1_ n2_ n3_ n4_ n5_ n6_ n7_ n8_ n9_; clear hb hbox hg; have hnb67 := NB206_204.out; have hnc67 := NB204_206.out; have hnb68 := NB206_205.out; have hnc68 := NB205_206.out; obtain ⟨hcz69_0, hcz69_1, hfz69_0, hfz69_1⟩ := cl2 BK206; have hnb70 := NB205_204.out; have hnc70 := NB204_205.out; obtain ⟨hcz71_0, hcz71_1, hfz71_0, hfz71_1⟩ := cl2 BK205) | (go_at_call 29; (with_reducible refine (msg_acts.calls (bt a0 0) 0 false _ A50.out).mono ?_); rintro e w72 ⟨rfl, hb⟩; have n0_ := Bx2 BK204 hb NB204_206.out NB204_206.out; have n1_ := Bx2 BK205 hb NB205_206.out NB205_206.out; have n2_ := Ax (blk_below (g := gb206) (o := .cells #[.int .u8 (bt a0 0), .int .i64 0] 33 (0, 0)) (by (with_reducible repeat (first | refine blk_drewN ?_ _ | refine blk_drew ?_ | refine blk_alloc ?_ _)); refine blk_put (cs := #[.int .u8 (bt a0 0), .int .i64 0]) ?_ 1 _ rfl; (with_reducible repeat (first | refine blk_drewN ?_ _ | refine blk_drew ?_ | refine blk_alloc ?_ _)); refine blk_put (cs := #[.int .u8 0, .int .i64 0]) ?_ 0 _ rfl; (with_reducible repeat (first | refine blk_drewN ?_ _ | refine blk_drew ?_ | refine blk_alloc ?_ _)); exact BK206.out) hb); have n3_ := Bs3 HB hb GE204.out GE205.out GE206.out; clear BK204; clear BK205; clear BK206; clear HB; have BK204 := n0_; have BK205 := n1_; have BK206 := n2_; have HB := n3_; clear n0_ n1_ n2_ n3_; (try clear hb); (try clear hb2); (try clear hk); (try clear hi); obtain ⟨hcz73_0, hcz73_1, hfz73_0, hfz73_1⟩ := cl2 BK204))
      refine bodyPost_ret (results_ctt rfl _ _ gb204 33 #[.int .u8 0, .int .i64 0] (0, 0) _ rfl (by (with_reducible repeat (first | refine blk_drewN ?_ _ | refine blk_drew ?_ | refine blk_alloc ?_ _)); refine blk_put (cs := #[.int .u8 0, .int .i64 0]) ?_ 1 _ rfl; (with_reducible repeat (first | refine blk_drewN ?_ _ | refine blk_drew ?_ | refine blk_alloc ?_ _)); refine blk_put (cs := #[.int .u8 0, .int .i64 0]) ?_ 0 _ rfl; (with_reducible repeat (first | refine blk_drewN ?_ _ | refine blk_drew ?_ | refine blk_alloc ?_ _)); exact BK204.out) Try.underlying33 rfl (by kernel_rfl)) rfl ?_
      exact ⟨eS, bw3 HB.out GE204.out GE205.out GE206.out⟩
   ·rw [if_neg c6] at H
    exact absurd H (by simp)
  ·rw [if_neg c5] at H
   exact absurd H (by simp)
def api_Action.f (k : Nat) (s0_0 : ByteArray) (s0_1 : Int) : Option (Int × Int × ByteArray × Int) := (msg_GetAction.f k s0_0).bind fun t => some (t.1, t.2.1, (if s0_1 = 0 then t.2.2.1 else s0_0), (if s0_1 = 0 then t.2.2.2 else s0_1))
set_option maxHeartbeats 8000000 in
set_option maxRecDepth 100000 in
theorem api_Action.calls0 (k g : Nat) (s : ByteArray) (y : Int) (r1 : Int) (r2 : Int) (r3 : ByteArray) (r4 : Int) (w0 w : World) (hI : IsS69 w0 w g s y) (hB : Below w0.heap.size w0 w) (h : msg_GetAction.f k s = some (r1, r2, r3, r4)) :
    Calls Try.prog 25 #[.pointer (some ⟨g, 0, none⟩), .func (.func 26) #[] #[]] w fun e w' => e = .returned (.agg #[.int .u8 r1, .int .i64 r2]) ∧ IsS69 w0 w' g (if y = 0 then r3 else s) (if y = 0 then r4 else y) ∧ Below w0.heap.size w0 w' ∧ KeepBut w w' g none := by
  have HI0 := Aside0.mk hI
  have HB0 := Aside0.mk hB
  have H := Aside0.mk h
  have hgz := hI.1
  have hc0 := cellS69_0 hgz
  have hca : (w.alloc (.cells #[.int .u8 0, .int .i64 0] 33)).cell? ⟨g, 0, none⟩ = some (.string s) := (blk_cell (blk_alloc hgz _) 0).trans rfl
  have hlg := Aside0.mk (blk_lt hgz)
  clear h hI hB hgz
  go_enter Try.func25, Try.ntmps25
  go_wp2_with (fail)
  refine (msg_GetAction.calls k s r1 r2 r3 r4 _ H.out).mono ?_
  rintro e w5 ⟨rfl, hb⟩
  have BG5 := Aside0.mk (blk_below (blk_alloc HI0.out.1 (.cells #[.int .u8 0, .int .i64 0] 33)) hb)
  have BR5 := Aside0.mk (blk_below (heap_alloc_new w (.cells #[.int .u8 0, .int .i64 0] 33)) hb)
  have HB5 := Aside0.mk (below_step (below_alloc HB0.out (.cells #[.int .u8 0, .int .i64 0] 33)) hb)
  have HK5 := Aside0.mk (KeepBut.of_below (below_step (below_alloc (Below.refl w.heap.size w) (.cells #[.int .u8 0, .int .i64 0] 33)) hb) g none)
  have hL5 : Aside0 (w.heap.size < w5.heap.size) := ⟨Nat.lt_of_lt_of_le (blk_lt (heap_alloc_new w _)) hb.size⟩
  clear hb hc0 hca
  obtain ⟨gr, hgr⟩ : ∃ gr, w.heap.size = gr := ⟨_, rfl⟩
  have HGR := Aside0.mk hgr
  have BR5' := Aside0.mk (hgr ▸ BR5.out)
  rw [hgr]
  clear BR5 hgr
  have BP6 := Aside0.mk (heap_alloc_new w5 (.cells #[.int .u8 r1, .int .i64 r2] 33))
  have BR6 := Aside0.mk (blk_alloc BR5'.out (.cells #[.int .u8 r1, .int .i64 r2] 33))
  have BG6 := Aside0.mk (blk_alloc BG5.out (.cells #[.int .u8 r1, .int .i64 r2] 33))
  have HB6 := Aside0.mk (below_alloc HB5.out (.cells #[.int .u8 r1, .int .i64 r2] 33))
  have HK6 := Aside0.mk (keep_alloc HK5.out (.cells #[.int .u8 r1, .int .i64 r2] 33))
  by_cases hy : y = 0
  · subst hy
    have ngr : g ≠ gr := by have := hlg.out; have := HGR.out; omega
    have ng5 : g ≠ w5.heap.size := fun e => by have := blk_lt BG5.out; omega
    have hg0 := (blk_cell BG6.out 0).trans rfl
    have hg1 := (blk_cell BG6.out 1).trans rfl
    have hgf0 := blk_frozen BG6.out 0
    have hgf1 := blk_frozen BG6.out 1
    have BG7 := Aside0.mk (blk_put (blk_put BG6.out 0 (.string r3) rfl) 1 (.int .i64 r4) rfl)
    have BP7 := Aside0.mk (blk_far (blk_far BP6.out (p := ⟨g, 0, none⟩) (by simpa using fun e => ng5 e.symm) (.string r3)) (p := ⟨g, 1, none⟩) (by simpa using fun e => ng5 e.symm) (.int .i64 r4))
    have BR7 := Aside0.mk (blk_far (blk_far BR6.out (p := ⟨g, 0, none⟩) (by simpa using fun e => ngr e.symm) (.string r3)) (p := ⟨g, 1, none⟩) (by simpa using fun e => ngr e.symm) (.int .i64 r4))
    have HB7 := Aside0.mk ((HB6.out.setCell (p := ⟨g, 0, none⟩) HI0.out.2 (.string r3)).setCell (p := ⟨g, 1, none⟩) HI0.out.2 (.int .i64 r4))
    have HK7 := Aside0.mk ((HK6.out.set_ 0 (.string r3)).set_ 1 (.int .i64 r4))
    have hp0 := (blk_cell BP7.out 0).trans (rfl : _ = some (Value.int .u8 r1))
    have hp1 := (blk_cell BP7.out 1).trans (rfl : _ = some (Value.int .i64 r2))
    have hr0 := (blk_cell BR7.out 0).trans (rfl : _ = some (Value.int .u8 0))
    have hr1 := (blk_cell BR7.out 1).trans (rfl : _ = some (Value.int .i64 0))
    have hf0 := blk_frozen BR7.out 0
    have hf1 := blk_frozen BR7.out 1
    go_wp2_with (fail)
    refine bodyPost_ret (results_cell_row rfl _ _ gr 33 #[.int .u8 r1, .int .i64 r2] (0, 0) _ rfl (blk_put (blk_put (BR7.out) 0 (.int .u8 r1) rfl) 1 (.int .i64 r2) rfl) Try.underlying33 rfl (by kernel_rfl)) rfl ?_
    have hgw : w0.heap.size ≤ gr := by have := HGR.out; have := HB0.out.size; omega
    refine ⟨rfl, ⟨?_, HI0.out.2⟩, ?_, ?_⟩
    · simpa using blk_far (blk_far (BG7.out) (p := ⟨gr, 0, none⟩) (by simpa using ngr) _) (p := ⟨gr, 1, none⟩) (by simpa using ngr) _
    · exact ((HB7.out).setCell (p := ⟨gr, 0, none⟩) hgw _).setCell (p := ⟨gr, 1, none⟩) hgw _
    · exact keep_far (keep_far (HK7.out) (p := ⟨gr, 0, none⟩) (by have := HGR.out; simp; omega) _) (p := ⟨gr, 1, none⟩) (by have := HGR.out; simp; omega) _
  · skip
    have ngr : g ≠ gr := by have := hlg.out; have := HGR.out; omega
    have ng5 : g ≠ w5.heap.size := fun e => by have := blk_lt BG5.out; omega
    have BG7 := BG6
    have BP7 := BP6
    have BR7 := BR6
    have HB7 := HB6
    have HK7 := HK6
    have hg1 := (blk_cell BG6.out 1).trans rfl
    have hyb : (y == 0) = false := beq_eq_false_iff_ne.mpr hy
    have hp0 := (blk_cell BP7.out 0).trans (rfl : _ = some (Value.int .u8 r1))
    have hp1 := (blk_cell BP7.out 1).trans (rfl : _ = some (Value.int .i64 r2))
    have hr0 := (blk_cell BR7.out 0).trans (rfl : _ = some (Value.int .u8 0))
    have hr1 := (blk_cell BR7.out 1).trans (rfl : _ = some (Value.int .i64 0))
    have hf0 := blk_frozen BR7.out 0
    have hf1 := blk_frozen BR7.out 1
    go_wp2_with (fail)
    refine bodyPost_ret (results_cell_row rfl _ _ gr 33 #[.int .u8 r1, .int .i64 r2] (0, 0) _ rfl (blk_put (blk_put (BR7.out) 0 (.int .u8 r1) rfl) 1 (.int .i64 r2) rfl) Try.underlying33 rfl (by kernel_rfl)) rfl ?_
    have hgw : w0.heap.size ≤ gr := by have := HGR.out; have := HB0.out.size; omega
    refine ⟨rfl, ⟨?_, HI0.out.2⟩, ?_, ?_⟩
    · simpa [hy] using blk_far (blk_far (BG7.out) (p := ⟨gr, 0, none⟩) (by simpa using ngr) _) (p := ⟨gr, 1, none⟩) (by simpa using ngr) _
    · exact ((HB7.out).setCell (p := ⟨gr, 0, none⟩) hgw _).setCell (p := ⟨gr, 1, none⟩) hgw _
    · exact keep_far (keep_far (HK7.out) (p := ⟨gr, 0, none⟩) (by have := HGR.out; simp; omega) _) (p := ⟨gr, 1, none⟩) (by have := HGR.out; simp; omega) _
theorem api_Action.calls (k : Nat) (g : Nat) (s0_0 : ByteArray) (s0_1 : Int) (r1 : Int) (r2 : Int) (r3 : ByteArray) (r4 : Int) (w0 w : World) (hI : IsS69 w0 w g s0_0 s0_1) (hB : Below w0.heap.size w0 w) (h : api_Action.f k s0_0 s0_1 = some (r1, r2, r3, r4)) :
    Calls Try.prog 25 #[.pointer (some ⟨g, 0, none⟩), .func (.func 26) #[] #[]] w fun e w' => e = .returned (.agg #[.int .u8 r1, .int .i64 r2]) ∧ IsS69 w0 w' g r3 r4 ∧ Below w0.heap.size w0 w' ∧ KeepBut w w' g none := by
  obtain ⟨⟨t1, t2, t3, t4⟩, ht, h⟩ := Option.bind_eq_some_iff.mp h
  simp only [Option.some.injEq, Prod.mk.injEq] at h
  obtain ⟨rfl, rfl, rfl, rfl⟩ := h
  exact api_Action.calls0 k g s0_0 s0_1 t1 t2 t3 t4 w0 w hI hB ht
mutual
def msg_Get.j0 : Nat → ByteArray → Int → Int → Int → Int → Int → Bool → Int → Int → Int → Int → Int → Int → Int → Option (Int × Int × Int × Int × Bool × Int × Int × Int × Int × Int × Int × Int × Int)
 | 0, _, _, _, _, _, _, _, _, _, _, _, _, _, _ => none
 | k + 1, x214000, x214001, x224000, x224001, x224002, x224003, x224004, x224005, x224006, x224007, x224008, x224009, x224010, x224011 => if x214001 = 0 then (if x214000.toList = ([] : List UInt8) then ((msg_Check.f k x224000 x224001 x224002 x224003 x224004 x224005 x224006 x224007 x224008 x224009 x224010 x224011).bind fun t249 => (msg_Get.j1 k (t249 != 0) x224000 x224001 x224002 x224003 x224004 x224005 x224006 x224007 x224008 x224009 x224010 x224011)) else (msg_Get.j1 k true x224000 x224001 x224002 x224003 x224004 x224005 x224006 x224007 x224008 x224009 x224010 x224011)) else (msg_Get.j1 k true x224000 x224001 x224002 x224003 x224004 x224005 x224006 x224007 x224008 x224009 x224010 x224011)
def msg_Get.j1 : Nat → Bool → Int → Int → Int → Int → Bool → Int → Int → Int → Int → Int → Int → Int → Option (Int × Int × Int × Int × Bool × Int × Int × Int × Int × Int × Int × Int × Int)
 | 0, _, _, _, _, _, _, _, _, _, _, _, _, _ => none
 | k + 1, x82, x224000, x224001, x224002, x224003, x224004, x224005, x224006, x224007, x224008, x224009, x224010, x224011 => if x82 = true then (some (0, 0, 0, 0, false, 0, 0, 0, 0, 0, 0, 0, 7)) else (some (x224000, x224001, x224002, x224003, x224004, x224005, x224006, x224007, x224008, x224009, x224010, x224011, 0))
end
def msg_Get.f (k : Nat) (a0 : ByteArray) : Option (Int × Int × Int × Int × Bool × Int × Int × Int × Int × Int × Int × Int × Int) := if a0.toList = ([] : List UInt8) then (some (0, 0, 0, 0, false, 0, 0, 0, 0, 0, 0, 0, 7)) else (if 1 ≤ (a0.size : Int) then (if 0 < (a0.size : Int) then ((num_Reader_Many.f k (a0.extract 1 a0.size) 0 1048576).bind fun bt214 => ((num_Reader_Num.f k bt214.2.1 bt214.2.2).bind fun bt217 => ((num_Reader_Num.f k bt217.2.1 bt217.2.2).bind fun bt220 => (if (bt a0 0) = 3 then ((api_Prefix.f k bt220.2.1 bt220.2.2).bind fun bt224 => ((api_Action.f k bt224.2.2.2.2.1 bt224.2.2.2.2.2).bind fun bt230 => (msg_Get.j0 k bt230.2.2.1 bt230.2.2.2 (bt a0 0) bt214.1 bt217.1 (wrap64 (bt220.1)) bt224.1 bt224.2.1 bt224.2.2.1 bt224.2.2.2.1 bt230.1 bt230.2.1 0 0))) else (if (bt a0 0) = 4 then ((api_Prefix.f k bt220.2.1 bt220.2.2).bind fun bt234 => (msg_Get.j0 k bt234.2.2.2.2.1 bt234.2.2.2.2.2 (bt a0 0) bt214.1 bt217.1 (wrap64 (bt220.1)) bt234.1 bt234.2.1 bt234.2.2.1 bt234.2.2.2.1 0 0 0 0)) else (if (bt a0 0) = 5 then ((num_Reader_Many.f k bt220.2.1 bt220.2.2 65536).bind fun bt240 => ((num_Reader_Many.f k bt240.2.1 bt240.2.2 1048576).bind fun bt243 => (msg_Get.j0 k bt243.2.1 bt243.2.2 (bt a0 0) bt214.1 bt217.1 (wrap64 (bt220.1)) false 0 0 0 0 0 bt240.1 bt243.1))) else (if (bt a0 0) = 6 then ((num_Reader_Many.f k bt220.2.1 bt220.2.2 65536).bind fun bt246 => (msg_Get.j0 k bt246.2.1 bt246.2.2 (bt a0 0) bt214.1 bt217.1 (wrap64 (bt220.1)) false 0 0 0 0 0 bt246.1 0)) else (msg_Get.j0 k bt220.2.1 bt220.2.2 (bt a0 0) bt214.1 bt217.1 (wrap64 (bt220.1)) false 0 0 0 0 0 0 0)))))))) else (none)) else (none))
def msg_Get.T4 : Bool × List (List Nat × List Nat) := (true, [([], []), ([0], [0]), ([], []), ([2], [2]), ([3], [3]), ([4], [4]), ([], []), ([6], [6]), ([7], [7]), ([8, 5], [8]), ([], []), ([10], [10]), ([11], [11]), ([12, 9], [12]), ([13], [13]), ([1, 5, 9, 14], [1, 5, 9, 14]), ([], []), ([16, 15, 13, 0, 1, 2, 3, 4, 5, 6, 7, 8, 9, 10, 11, 12, 13, 14, 15, 16], [15, 16])])
def msg_Get.B4 : List Nat := [0, 1, 0, 4, 12, 28, 0, 64, 192, 508, 0, 1024, 3072, 8188, 16380, 32767, 0, 131071]
theorem msg_Get.tab4 : rtab .any (opsOf Try.f8 4) = msg_Get.T4 := by kernel_rfl
theorem msg_Get.bits4 : waitsOk msg_Get.T4.2 msg_Get.B4 = true := by kernel_rfl
def msg_Get.T11 : Bool × List (List Nat × List Nat) := (true, [([], []), ([0], [0]), ([1], [1]), ([2], [2]), ([], []), ([4], [4]), ([5], [5]), ([6, 3], [6]), ([0, 1, 2, 3], []), ([8, 3, 7, 0, 1, 2, 3], [3, 8]), ([0, 1, 2, 3, 4, 5, 6, 7, 8, 9], []), ([10, 7, 9, 0, 1, 2, 3, 4, 5, 6, 7, 8, 9], [7, 10])])
def msg_Get.B11 : List Nat := [0, 1, 3, 7, 0, 16, 48, 127, 15, 511, 1023, 2047]
theorem msg_Get.tab11 : rtab .any (opsOf Try.f8 11) = msg_Get.T11 := by kernel_rfl
theorem msg_Get.bits11 : waitsOk msg_Get.T11.2 msg_Get.B11 = true := by kernel_rfl
end Go.Proofs.Ytcnkiigobcigbaa.Q
end
