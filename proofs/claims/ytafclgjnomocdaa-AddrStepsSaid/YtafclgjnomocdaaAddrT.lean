/- The reference's Next and Prev. -/
import Derived.Test.YtafclgjnomocdaaAddrR
import Derived.Test.YtafclgjnomocdaaQx6
namespace Go.Proofs.Ytafclgjnomocdaa.Addr
set_option linter.unusedVariables false
open Go.RowKit Go.Proofs.YtafclgjnomocdaaW.PrintWords Go.Proofs.YtafclgjnomocdaaW.PrintLast Go.Proofs.YtafclgjnomocdaaW.PrintMore Go.Proofs.Ytafclgjnomocdaa.Base Go.Proofs.Ytafclgjnomocdaa.Q

/-- Bits that are all of one kind. -/
def allN (so : Bool) (j : Nat) : Nat := if so then 2 ^ j - 1 else 0
theorem allN_lt (so : Bool) (j : Nat) : allN so j < 2 ^ j := by
  have := p2pos j
  unfold allN; split <;> omega
theorem allN_bits (so : Bool) (j : Nat) : List.replicate j (if so then (1 : Int) else 0) = bitsL j (allN so j) := by
  cases so with
  | true => exact ones_bits j
  | false => exact zeros_bits j
/-- From place j down: what is turned, with j bits of the kind so behind it (turned already). -/
theorem turned_aux (w N : Nat) (hw : w ≤ 128) (so : Bool) : ∀ (i j : Nat), i + j = w → N % 2 ^ j = allN so j →
    Ev (fun k => spoorref09_turned.l0 k (if so then 1 else 0) (bitsL i (N / 2 ^ j) ++ bitsL j (allN (!so) j)) ((i : Int) - 1))
      (if N % 2 ^ w = allN so w then (0, 0, false) else (hi (if so then N % 2 ^ w + 1 else N % 2 ^ w - 1), lo (if so then N % 2 ^ w + 1 else N % 2 ^ w - 1), true))
  | 0, j, hj, hN => by
    obtain rfl : j = w := by omega
    rw [if_pos hN]
    refine Ev.succ ?_
    simp only [spoorref09_turned.l0]
    exact Ev.neg (by omega) (Ev.now _)
  | i + 1, j, hj, hN => by
    have hlen : (bitsL (i + 1) (N / 2 ^ j) ++ bitsL j (allN (!so) j)).length = w := by rw [List.length_append, bitsL_len, bitsL_len]; omega
    have hp := p2pos j
    have hs : N % 2 ^ (j + 1) = N % 2 ^ j + 2 ^ j * (N / 2 ^ j % 2) := by rw [Nat.pow_succ, Nat.mod_mul]
    have hdd : N / 2 ^ j / 2 = N / 2 ^ (j + 1) := by rw [Nat.div_div_eq_div_mul, Nat.pow_succ]
    have hget : rd (bitsL (i + 1) (N / 2 ^ j) ++ bitsL j (allN (!so) j)) (((i + 1 : Nat) : Int) - 1) = ((N / 2 ^ j % 2 : Nat) : Int) := by
      rw [show (((i + 1 : Nat) : Int) - 1) = (i : Int) by omega]
      refine rd_drop (r := bitsL j (allN (!so) j)) ?_
      rw [bitsL, List.append_assoc, List.drop_left' (bitsL_len _ _)]
      rfl
    have hset : (bitsL (i + 1) (N / 2 ^ j) ++ bitsL j (allN (!so) j)).set (((i + 1 : Nat) : Int) - 1).toNat (wrap64 (1 - ((N / 2 ^ j % 2 : Nat) : Int))) = bitsL i (N / 2 ^ (j + 1)) ++ (((1 - N / 2 ^ j % 2 : Nat) : Int) :: bitsL j (allN (!so) j)) := by
      have e1 : (((i + 1 : Nat) : Int) - 1).toNat = i := by omega
      have e2 : wrap64 (1 - ((N / 2 ^ j % 2 : Nat) : Int)) = ((1 - N / 2 ^ j % 2 : Nat) : Int) := by rw [w64 (by omega) (by omega)]; omega
      rw [e1, e2, bitsL, List.append_assoc, List.set_append_right _ _ (by rw [bitsL_len]; exact Nat.le_refl _), bitsL_len, Nat.sub_self, hdd]
      rfl
    have e4 : wrap64 ((((i + 1 : Nat) : Int) - 1) - 1) = (i : Int) - 1 := by rw [w64 (by omega) (by omega)]; omega
    refine Ev.succ ?_
    simp only [spoorref09_turned.l0]
    rw [hget, hset, e4, hlen]
    refine Ev.pos (by omega) (Ev.pos (by omega) (Ev.pos (by omega) ?_))
    have hb2 : N / 2 ^ j % 2 < 2 := Nat.mod_lt _ (by decide)
    generalize N / 2 ^ j % 2 = b at *
    simp only [Option.bind_some]
    by_cases h : ((b : Nat) : Int) = (if so then 1 else 0)
    · refine Ev.pos h ?_
      have hN' : N % 2 ^ (j + 1) = allN so (j + 1) := by
        rw [hs, hN]
        unfold allN
        rw [Nat.pow_succ]
        cases so with
        | true =>
          have : b = 1 := by simp at h; omega
          rw [this]
          simp
          omega
        | false =>
          have : b = 0 := by simp at h; omega
          rw [this]
          simp
      have e5 : ((1 - b : Nat) : Int) :: bitsL j (allN (!so) j) = bitsL (j + 1) (allN (!so) (j + 1)) := by
        rw [← allN_bits, ← allN_bits, List.replicate_succ]
        cases so with
        | true => simp at h ⊢; omega
        | false => simp at h ⊢; omega
      rw [e5]
      exact turned_aux w N hw so i (j + 1) (by omega) hN'
    · refine Ev.neg h ?_
      have hw2 : 2 ^ w = 2 ^ (j + 1) * 2 ^ i := by rw [← Nat.pow_add]; congr 1; omega
      have hdw : N % 2 ^ w = N % 2 ^ (j + 1) + 2 ^ (j + 1) * (N / 2 ^ (j + 1) % 2 ^ i) := by rw [hw2, Nat.mod_mul]
      have hne : N % 2 ^ w ≠ allN so w := by
        intro e
        have e' : N % 2 ^ w % 2 ^ (j + 1) = allN so w % 2 ^ (j + 1) := by rw [e]
        rw [Nat.mod_mod_of_dvd N ⟨2 ^ i, hw2⟩, hs, hN] at e'
        unfold allN at e'
        cases so with
        | true =>
          have hz : b = 0 := by simp at h; omega
          have h1 : (2 ^ w - 1) % 2 ^ (j + 1) = 2 ^ (j + 1) - 1 := by
            have hq := p2pos i
            have hpj := p2pos (j + 1)
            have : 2 ^ w - 1 = 2 ^ (j + 1) * (2 ^ i - 1) + (2 ^ (j + 1) - 1) := by
              rw [hw2, Nat.mul_sub, Nat.mul_one]
              have : 2 ^ (j + 1) ≤ 2 ^ (j + 1) * 2 ^ i := Nat.le_mul_of_pos_right _ hq
              omega
            rw [this, Nat.mul_add_mod, Nat.mod_eq_of_lt (by omega)]
          simp only [if_true] at e'
          rw [h1, hz, Nat.pow_succ] at e'
          omega
        | false =>
          have hz : b = 1 := by simp at h; omega
          simp only [Bool.false_eq_true, if_false, Nat.zero_mod] at e'
          rw [hz] at e'
          omega
      rw [if_neg hne]
      have hbits : ∀ x ∈ bitsL i (N / 2 ^ (j + 1)) ++ (((1 - b : Nat) : Int) :: bitsL j (allN (!so) j)), x = 0 ∨ x = 1 := by
        intro x hx
        rcases List.mem_append.1 hx with hx | hx
        · exact bitsL_bit _ _ x hx
        · rcases List.mem_cons.1 hx with rfl | hx
          · omega
          · exact bitsL_bit _ _ x hx
      have hv : ofL (bitsL i (N / 2 ^ (j + 1)) ++ (((1 - b : Nat) : Int) :: bitsL j (allN (!so) j))) = if so then N % 2 ^ w + 1 else N % 2 ^ w - 1 := by
        rw [show bitsL i (N / 2 ^ (j + 1)) ++ (((1 - b : Nat) : Int) :: bitsL j (allN (!so) j)) = (bitsL i (N / 2 ^ (j + 1)) ++ [((1 - b : Nat) : Int)]) ++ bitsL j (allN (!so) j) by simp, ofL_append, ofL_snoc, ofL_bits, Nat.mod_eq_of_lt (allN_lt _ _), Int.toNat_natCast]
        rw [hdw, hs, hN, Nat.pow_succ]
        generalize N / (2 ^ j * 2) % 2 ^ i = q
        unfold allN
        have hpj := p2pos j
        generalize 2 ^ j = P at hpj ⊢
        have k1 : (2 * q) * P = P * 2 * q := by rw [Nat.mul_comm (2 * q) P, Nat.mul_assoc]
        cases so with
        | true =>
          have hz : b = 0 := by simp at h; omega
          subst hz
          simp only [if_true, Bool.not_true, Bool.false_eq_true, if_false]
          rw [Nat.add_mul, k1]
          omega
        | false =>
          have hz : b = 1 := by simp at h; omega
          subst hz
          simp only [if_true, Bool.not_false, Bool.false_eq_true, if_false]
          rw [Nat.add_mul, k1]
          omega
      have := of_ev _ (by rw [List.length_append, List.length_cons, bitsL_len, bitsL_len]; omega) hbits
      rw [hv] at this
      refine Ev.bind this (Ev.now _)
theorem turned_ev (six so : Bool) {n : Nat} (hn : n < 2 ^ Wn six) : Ev (fun k => spoorref09_turned.f k six (hi n) (lo n) (if so then 1 else 0))
    (if n = allN so (Wn six) then (0, 0, false) else (hi (if so then n + 1 else n - 1), lo (if so then n + 1 else n - 1), true)) := by
  have hw := Wn_le six
  have hn' : n < 340282366920938463463374607431768211456 := Nat.lt_of_lt_of_le hn (wn_pow six)
  simp only [spoorref09_turned.f]
  refine Ev.bind (bits_ev six hn') ?_
  have := turned_aux (Wn six) n hw so (Wn six) 0 (by omega) (by simp [Nat.mod_one, allN])
  rw [bitsL_len, w64 (by omega) (by omega)]
  simp only [Nat.pow_zero, Nat.div_one, bitsL, List.append_nil, Nat.mod_eq_of_lt hn] at this
  exact this
theorem rnext_ev (six : Bool) {n : Nat} (hn : n < 340282366920938463463374607431768211456) : Ev (fun k => spoorref09_Next.f k six (hi n) (lo n)) (if n < 2 ^ Wn six then (if n = 2 ^ Wn six - 1 then (0, 0, 3) else (hi (n + 1), lo (n + 1), 0)) else (0, 0, 2)) := by
  simp only [spoorref09_Next.f, rright_is six hn, Option.bind_some]
  by_cases h : n < 2 ^ Wn six
  · rw [decide_eq_true h, if_pos h]
    refine Ev.pos rfl (Ev.bind (turned_ev six true h) ?_)
    simp only [allN, if_true]
    by_cases e : n = 2 ^ Wn six - 1
    · rw [if_pos e, if_pos e]; exact Ev.neg (by simp) (Ev.now _)
    · rw [if_neg e, if_neg e]; exact Ev.pos rfl (Ev.now _)
  · rw [decide_eq_false h, if_neg h]
    exact Ev.neg (by simp) (Ev.now _)
theorem rprev_ev (six : Bool) {n : Nat} (hn : n < 340282366920938463463374607431768211456) : Ev (fun k => spoorref09_Prev.f k six (hi n) (lo n)) (if n < 2 ^ Wn six then (if n = 0 then (0, 0, 3) else (hi (n - 1), lo (n - 1), 0)) else (0, 0, 2)) := by
  simp only [spoorref09_Prev.f, rright_is six hn, Option.bind_some]
  by_cases h : n < 2 ^ Wn six
  · rw [decide_eq_true h, if_pos h]
    refine Ev.pos rfl (Ev.bind (turned_ev six false h) ?_)
    simp only [allN, Bool.false_eq_true, if_false]
    by_cases e : n = 0
    · rw [if_pos e, if_pos e]; exact Ev.neg (by simp) (Ev.now _)
    · rw [if_neg e, if_neg e]; exact Ev.pos rfl (Ev.now _)
  · rw [decide_eq_false h, if_neg h]
    exact Ev.neg (by simp) (Ev.now _)
end Go.Proofs.Ytafclgjnomocdaa.Addr
