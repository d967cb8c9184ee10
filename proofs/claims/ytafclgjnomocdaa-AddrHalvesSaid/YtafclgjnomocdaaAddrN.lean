/- Next, Prev, Halves: the program's. -/
import Derived.Test.YtafclgjnomocdaaAddr
import Derived.Test.YtafclgjnomocdaaQx3
import Derived.Test.YtafclgjnomocdaaQx6
import Derived.Test.YtafclgjnomocdaaQx10
namespace Go.Proofs.Ytafclgjnomocdaa.Addr
set_option linter.unusedVariables false
open Go.RowKit Go.Proofs.YtafclgjnomocdaaW.PrintWords Go.Proofs.YtafclgjnomocdaaW.PrintLast Go.Proofs.YtafclgjnomocdaaW.PrintMore Go.Proofs.Ytafclgjnomocdaa.Base Go.Proofs.Ytafclgjnomocdaa.Q

theorem next_is (six : Bool) {n : Nat} (hn : n < 340282366920938463463374607431768211456) : addr_Next.f six (hi n) (lo n) = some (if n < 2 ^ Wn six then (if n = 2 ^ Wn six - 1 then (0, 0, 3) else (hi (n + 1), lo (n + 1), 0)) else (0, 0, 2)) := by
  have hw := Wn_le six
  simp only [addr_Next.f, right_is six hn, wide_is, below_is hw, Option.bind_some]
  by_cases h : n < 2 ^ Wn six
  · rw [decide_eq_true h, if_pos rfl, if_pos h, parts_eq]
    by_cases e : n = 2 ^ Wn six - 1
    · rw [decide_eq_true e, if_pos rfl, if_pos e]
    · rw [decide_eq_false e, if_neg (by simp), if_neg e, if_pos (lo_range n).1]
      have hm : n + 1 < 340282366920938463463374607431768211456 := Nat.lt_of_lt_of_le (show n + 1 < 2 ^ Wn six by omega) (wn_pow six)
      have ec : add64c (lo n) 1 0 = (lo n + 1) / 18446744073709551616 := by unfold add64c; rw [Int.add_zero]
      have es : add64s (lo n) 1 0 = (lo n + 1) % 18446744073709551616 := by unfold add64s; rw [Int.add_zero]
      rw [ec, es]
      have e1 : IntKind.u64.wrap (hi n + (lo n + 1) / 18446744073709551616) = hi (n + 1) := by
        rw [u64m]
        unfold hi lo
        omega
      have e2 : (lo n + 1) % 18446744073709551616 = lo (n + 1) := by unfold lo; omega
      rw [e1, e2]
  · rw [decide_eq_false h, if_neg (by simp), if_neg h]
theorem prev_is (six : Bool) {n : Nat} (hn : n < 340282366920938463463374607431768211456) : addr_Prev.f six (hi n) (lo n) = some (if n < 2 ^ Wn six then (if n = 0 then (0, 0, 3) else (hi (n - 1), lo (n - 1), 0)) else (0, 0, 2)) := by
  simp only [addr_Prev.f, right_is six hn, Option.bind_some]
  by_cases h : n < 2 ^ Wn six
  · rw [decide_eq_true h, if_pos rfl, if_pos h]
    have hz : (hi n == 0 && (lo n == 0)) = decide (n = 0) := by
      have := parts_eq n 0
      simpa [hi, lo] using this
    rw [hz]
    by_cases e : n = 0
    · rw [decide_eq_true e, if_pos rfl, if_pos e]
    · rw [decide_eq_false e, if_neg (by simp), if_neg e, if_pos (lo_range n).1]
      have ec : sub64b (lo n) 1 0 = if lo n = 0 then 1 else 0 := by
        have := (lo_range n).1
        unfold sub64b
        split <;> split <;> omega
      have es : sub64s (lo n) 1 0 = (lo n - 1) % 18446744073709551616 := by unfold sub64s; rw [Int.sub_zero]
      rw [ec, es]
      have e1 : IntKind.u64.wrap (hi n - (if lo n = 0 then 1 else 0)) = hi (n - 1) := by
        rw [u64m]
        unfold hi lo
        split <;> omega
      have e2 : (lo n - 1) % 18446744073709551616 = lo (n - 1) := by unfold lo; omega
      rw [e1, e2]
  · rw [decide_eq_false h, if_neg (by simp), if_neg h]
theorem bit_is {n : Nat} (hn : n < 128) : addr_bit.f (n : Int) = some (hi (2 ^ n), lo (2 ^ n)) := by
  unfold addr_bit.f
  by_cases h2 : 64 ≤ n
  · have e : wrap64 ((n : Int) - 64) = ((n - 64 : Nat) : Int) := by rw [w64 (by omega) (by omega)]; omega
    rw [if_pos (by omega), e, if_pos (by omega), shl1 (by omega), p2split h2]
    generalize 2 ^ (n - 64) = q at *
    unfold hi lo
    congr 2 <;> omega
  · rw [if_neg (by omega), if_pos (by omega), shl1 (by omega)]
    have hp := p2lt64 (show n < 64 by omega)
    generalize 2 ^ n = q at *
    unfold hi lo
    congr 2 <;> omega
/-- The second half's number. -/
def halfN (six : Bool) (n : Nat) (len : Int) : Nat := n + 2 ^ (Wn six - len.toNat - 1)
theorem halves_ev (six : Bool) {n : Nat} (hn : n < 340282366920938463463374607431768211456) (len : Int) : Ev (fun k => addr_Halves.f k six (hi n) (lo n) len)
    (if okP six n len then (if len = Wn six then (false, 0, 0, 0, false, 0, 0, 0, 3) else (six, hi n, lo n, len + 1, six, hi (halfN six n len), lo (halfN six n len), len + 1, 0)) else (false, 0, 0, 0, false, 0, 0, 0, 2)) := by
  have hw := Wn_le six
  simp only [addr_Halves.f, wide_is, Option.bind_some]
  refine Ev.bind (check_ev six hn len) ?_
  by_cases h : okP six n len
  · obtain ⟨h0, h1, h2, h3⟩ := id h
    rw [if_pos h]
    refine Ev.pos rfl ?_
    have e : wrap64 (((Wn six : Nat) : Int) - len) = ((Wn six - len.toNat : Nat) : Int) := by rw [w64 (by omega) (by omega)]; omega
    rw [e, if_pos h]
    by_cases z : len = ((Wn six : Nat) : Int)
    · rw [if_pos z]
      exact Ev.pos (by omega) (Ev.now _)
    · rw [if_neg z]
      refine Ev.neg (by omega) (Ev.const ?_)
      have e1 : wrap64 (((Wn six - len.toNat : Nat) : Int) - 1) = ((Wn six - len.toNat - 1 : Nat) : Int) := by rw [w64 (by omega) (by omega)]; omega
      rw [e1, bit_is (by omega)]
      simp only [Option.bind_some, addr_both.f]
      have hlt : 2 ^ (Wn six - len.toNat - 1) < 2 ^ (Wn six - len.toNat) := Nat.pow_lt_pow_right (by decide) (by omega)
      obtain ⟨c1, c2⟩ := both_join (show Wn six - len.toNat ≤ 128 by omega) hn h3 hlt
      rw [c1, c2, w64 (n := len + 1) (by omega) (by omega)]
      rfl
  · rw [if_neg h, if_neg h]
    exact Ev.neg (by decide) (Ev.now _)
end Go.Proofs.Ytafclgjnomocdaa.Addr
