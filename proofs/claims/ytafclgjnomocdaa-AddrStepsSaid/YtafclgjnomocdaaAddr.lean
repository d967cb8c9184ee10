/- The program's addresses and prefixes come to the plain ones. -/
import Derived.Test.YtafclgjnomocdaaAddrP
import Derived.Test.YtafclgjnomocdaaQx3
import Derived.Test.YtafclgjnomocdaaQx7
import Derived.Test.YtafclgjnomocdaaQx8
import Derived.Test.YtafclgjnomocdaaQx10
import Derived.Test.YtafclgjnomocdaaQx12
namespace Go.Proofs.Ytafclgjnomocdaa.Addr
set_option linter.unusedVariables false
open Go.RowKit Go.Proofs.YtafclgjnomocdaaW.PrintWords Go.Proofs.YtafclgjnomocdaaW.PrintLast Go.Proofs.YtafclgjnomocdaaW.PrintMore Go.Proofs.Ytafclgjnomocdaa.Base Go.Proofs.Ytafclgjnomocdaa.Q

theorem right_is (six : Bool) {n : Nat} (hn : n < 340282366920938463463374607431768211456) : addr_Right.f six (hi n) (lo n) = some (decide (n < 2 ^ Wn six)) := by
  obtain ⟨h1, h2⟩ := hi_range hn
  obtain ⟨h3, h4⟩ := lo_range n
  unfold addr_Right.f
  cases six with
  | true => rw [if_pos rfl, decide_eq_true (wn_six.2 hn)]
  | false =>
    rw [if_neg (by simp)]
    by_cases h : n < 4294967296
    · rw [decide_eq_true (wn_four.2 h), if_pos (by unfold hi; omega)]
      have : lo n / 4294967296 = 0 := by unfold lo; omega
      rw [this]; rfl
    · rw [decide_eq_false (fun q => h (wn_four.1 q))]
      by_cases hz : hi n = 0
      · rw [if_pos hz]
        have : lo n / 4294967296 ≠ 0 := by unfold lo; unfold hi at hz; omega
        simp [this]
      · rw [if_neg hz]
theorem wide_is (six : Bool) : addr_Wide.f six = some ((Wn six : Nat) : Int) := by cases six <;> rfl
theorem below_is {n : Nat} (hn : n ≤ 128) : addr_below.f (n : Int) = some (hi (2 ^ n - 1), lo (2 ^ n - 1)) := by
  unfold addr_below.f
  by_cases h : n = 128
  · subst h
    rw [if_pos (by omega)]
    decide +kernel
  rw [if_neg (by omega)]
  by_cases h2 : 64 ≤ n
  · have e : wrap64 ((n : Int) - 64) = ((n - 64 : Nat) : Int) := by rw [w64 (by omega) (by omega)]; omega
    rw [if_pos (by omega), e, if_pos (by omega), shl1 (by omega)]
    have hp := p2lt64 (show n - 64 < 64 by omega)
    have hq := p2pos (n - 64)
    rw [p2split h2]
    generalize 2 ^ (n - 64) = q at *
    rw [u64w (by omega) (by omega)]
    unfold hi lo
    congr 2 <;> omega
  · rw [if_neg (by omega), if_pos (by omega), shl1 (by omega)]
    have hp := p2lt64 (show n < 64 by omega)
    have hq := p2pos n
    generalize 2 ^ n = q at *
    rw [u64w (by omega) (by omega)]
    unfold hi lo
    congr 2 <;> omega
theorem cmp_or_ev (a b : Int) : Ev (fun k => cmp_Or_int.f k [a, b]) (if a = 0 then b else a) := by
  have ln : (([a, b] : List Int).length : Int) = 2 := rfl
  have w1 : wrap64 (0 + 1) = 1 := w64 (by omega) (by omega)
  have w2 : wrap64 (1 + 1) = 2 := w64 (by omega) (by omega)
  have r0 : rd [a, b] 0 = a := rfl
  have r1 : rd [a, b] 1 = b := rfl
  unfold cmp_Or_int.f
  rw [ln]
  refine Ev.succ ?_
  simp only [cmp_Or_int.l0, ln, w1, r0]
  refine Ev.pos (by omega) (Ev.pos (by omega) (Ev.pos (by omega) ?_))
  by_cases h : a = 0
  · rw [if_pos h]
    refine Ev.pos h (Ev.succ ?_)
    simp only [cmp_Or_int.l0, ln, w2, r1]
    refine Ev.pos (by omega) (Ev.pos (by omega) (Ev.pos (by omega) ?_))
    by_cases h2 : b = 0
    · refine Ev.pos h2 (Ev.succ ?_)
      simp only [cmp_Or_int.l0]
      exact Ev.neg (by omega) (Ev.const (by rw [h2]))
    · exact Ev.neg h2 (Ev.now _)
  · rw [if_neg h]
    exact Ev.neg h (Ev.now _)
theorem compare_is (a b : Int) : cmp_Compare_uint64.f a b = some (if a < b then -1 else if a > b then 1 else 0) := by
  unfold cmp_Compare_uint64.f cmp_isNaN_uint64.f
  simp only [Option.bind_some]
  rw [if_neg (by simp), if_neg (by simp)]
  split
  · rfl
  · split <;> rfl
/-- Less, the same, greater. -/
def cmpN (n m : Nat) : Int := if n < m then -1 else if n = m then 0 else 1
theorem cmp_ev (n m : Nat) : Ev (fun k => addr_Cmp.f k (hi n) (lo n) (hi m) (lo m)) (cmpN n m) := by
  simp only [addr_Cmp.f, compare_is, Option.bind_some]
  refine Ev.to (Ev.bind (cmp_or_ev _ _) (Ev.now _)) ?_
  unfold cmpN hi lo
  by_cases h : n < m
  · rw [if_pos h]
    by_cases g : n / 18446744073709551616 < m / 18446744073709551616
    · rw [if_pos (show ((n / 18446744073709551616 : Nat) : Int) < _ by omega)]; rfl
    · rw [if_neg (show ¬ ((n / 18446744073709551616 : Nat) : Int) < _ by omega), if_neg (show ¬ ((n / 18446744073709551616 : Nat) : Int) > _ by omega), if_pos rfl, if_pos (show ((n % 18446744073709551616 : Nat) : Int) < _ by omega)]
  · rw [if_neg h]
    by_cases e : n = m
    · subst e
      rw [if_pos rfl]
      simp
    · rw [if_neg e]
      by_cases g : m / 18446744073709551616 < n / 18446744073709551616
      · rw [if_neg (show ¬ ((n / 18446744073709551616 : Nat) : Int) < _ by omega), if_pos (show ((n / 18446744073709551616 : Nat) : Int) > _ by omega)]; rfl
      · rw [if_neg (show ¬ ((n / 18446744073709551616 : Nat) : Int) < _ by omega), if_neg (show ¬ ((n / 18446744073709551616 : Nat) : Int) > _ by omega), if_pos rfl, if_neg (show ¬ ((n % 18446744073709551616 : Nat) : Int) < _ by omega), if_pos (show ((n % 18446744073709551616 : Nat) : Int) > _ by omega)]
theorem cmpN_le (n m : Nat) : cmpN n m ≤ 0 ↔ n ≤ m := by
  unfold cmpN
  split
  · omega
  · split <;> omega
theorem host_is (six : Bool) (a b : Int) {len : Int} (h0 : 0 ≤ len) (h1 : len ≤ Wn six) : addr_host.f six a b len = some (hi (hostN six len), lo (hostN six len)) := by
  have hw := Wn_le six
  simp only [addr_host.f, wide_is, Option.bind_some]
  have e : wrap64 (((Wn six : Nat) : Int) - len) = ((Wn six - len.toNat : Nat) : Int) := by rw [w64 (by omega) (by omega)]; omega
  rw [e, below_is (by omega)]
  rfl
theorem check_ev (six : Bool) {n : Nat} (hn : n < 340282366920938463463374607431768211456) (len : Int) : Ev (fun k => addr_Check.f k six (hi n) (lo n) len) (if okP six n len then 0 else 2) := by
  have hw := Wn_le six
  have bad : ¬ okP six n len → Ev (fun k => addr_Check.j0 k true six (hi n) (lo n) len) (if okP six n len then 0 else 2) := by
    intro h
    rw [if_neg h]
    refine Ev.succ ?_
    simp only [addr_Check.j0]
    exact Ev.pos trivial (Ev.now _)
  simp only [addr_Check.f, wide_is, right_is six hn, Option.bind_some]
  by_cases h0 : len < 0
  · exact Ev.pos h0 (bad (fun h => by have := h.1; omega))
  refine Ev.neg h0 ?_
  by_cases h1 : len > ((Wn six : Nat) : Int)
  · exact Ev.pos h1 (bad (fun h => by have := h.2.1; omega))
  refine Ev.neg h1 ?_
  by_cases h2 : n < 2 ^ Wn six
  · rw [decide_eq_true h2]
    refine Ev.succ ?_
    simp only [addr_Check.j0, host_is six _ _ (show 0 ≤ len by omega) (show len ≤ ((Wn six : Nat) : Int) by omega), Option.bind_some]
    refine Ev.neg (by simp) ?_
    obtain ⟨a0, a1⟩ := hi_range hn
    obtain ⟨b0, b1⟩ := lo_range n
    have hk : Wn six - len.toNat ≤ 128 := by omega
    have key : Go.bits .or .u64 (Go.bits .and .u64 (hi n) (hi (hostN six len))) (Go.bits .and .u64 (lo n) (lo (hostN six len))) = 0 ↔ n % 2 ^ (Wn six - len.toNat) = 0 := by
      unfold hostN
      generalize Wn six - len.toNat = k at *
      have hp := p2pos k
      by_cases g : 64 ≤ k
      · have e1 : hi (2 ^ k - 1) = ((2 ^ (k - 64) - 1 : Nat) : Int) := by
          rw [p2split g]
          have := p2pos (k - 64)
          generalize 2 ^ (k - 64) = q at *
          unfold hi; omega
        have e2 : lo (2 ^ k - 1) = ((2 ^ 64 - 1 : Nat) : Int) := by
          rw [p2split g]
          have := p2pos (k - 64)
          generalize 2 ^ (k - 64) = q at *
          unfold lo; omega
        have p64 := p2le64 (show k - 64 ≤ 64 by omega)
        have q64 := p2pos (k - 64)
        rw [e1, e2, and_mask a0 a1 (by omega), and_mask b0 b1 (by omega), mod_parts g]
        have hm := Int.emod_nonneg (hi n) (show ((2 ^ (k - 64) : Nat) : Int) ≠ 0 by omega)
        have hl := Int.emod_lt_of_pos (hi n) (show (0 : Int) < ((2 ^ (k - 64) : Nat) : Int) by omega)
        rw [or_zero hm (by omega) (by omega) (by omega)]
        have c1 : hi n % ((2 ^ (k - 64) : Nat) : Int) = ((n / 18446744073709551616 % 2 ^ (k - 64) : Nat) : Int) := by unfold hi; simp
        have c2 : lo n % ((2 ^ 64 : Nat) : Int) = ((n % 18446744073709551616 : Nat) : Int) := by unfold lo; omega
        rw [c1, c2]
        omega
      · have g' : k ≤ 64 := by omega
        have p64 := p2lt64 (show k < 64 by omega)
        have e1 : hi (2 ^ k - 1) = ((2 ^ 0 - 1 : Nat) : Int) := by
          generalize 2 ^ k = q at *
          unfold hi; omega
        have e2 : lo (2 ^ k - 1) = ((2 ^ k - 1 : Nat) : Int) := by
          generalize 2 ^ k = q at *
          unfold lo; omega
        rw [e1, e2, and_mask a0 a1 (by omega), and_mask b0 b1 g', ← mod_low g']
        have hm := Int.emod_nonneg (lo n) (show ((2 ^ k : Nat) : Int) ≠ 0 by omega)
        have hl := Int.emod_lt_of_pos (lo n) (show (0 : Int) < ((2 ^ k : Nat) : Int) by omega)
        rw [or_zero (by omega) (by omega) hm (by omega)]
        have c2 : lo n % ((2 ^ k : Nat) : Int) = ((n % 18446744073709551616 % 2 ^ k : Nat) : Int) := by unfold lo; simp
        rw [c2]
        omega
    by_cases z : n % 2 ^ (Wn six - len.toNat) = 0
    · rw [if_pos (show okP six n len from ⟨by omega, by omega, h2, z⟩)]
      exact Ev.pos (key.2 z) (Ev.now _)
    · rw [if_neg (fun h : okP six n len => z h.2.2.2)]
      exact Ev.neg (fun h => z (key.1 h)) (Ev.now _)
  · rw [decide_eq_false h2]
    exact bad (fun h => h2 h.2.2.1)
theorem hostN_lt (six : Bool) {len : Int} (h0 : 0 ≤ len) : hostN six len < 2 ^ (Wn six - len.toNat) := by
  unfold hostN
  have := p2pos (Wn six - len.toNat)
  omega
theorem last_ev (six : Bool) {n : Nat} (hn : n < 340282366920938463463374607431768211456) (len : Int) : Ev (fun k => addr_Last.f k six (hi n) (lo n) len) (if okP six n len then (hi (n + hostN six len), lo (n + hostN six len), 0) else (0, 0, 2)) := by
  have hw := Wn_le six
  simp only [addr_Last.f]
  refine Ev.bind (check_ev six hn len) ?_
  by_cases h : okP six n len
  · rw [if_pos h]
    obtain ⟨h0, h1, h2, h3⟩ := id h
    refine Ev.pos rfl (Ev.const ?_)
    rw [host_is six _ _ h0 h1]
    simp only [Option.bind_some, addr_both.f]
    obtain ⟨e1, e2⟩ := both_join (show Wn six - len.toNat ≤ 128 by omega) hn h3 (hostN_lt six h0)
    rw [e1, e2, if_pos h]
  · rw [if_neg h, if_neg h]
    exact Ev.neg (by decide) (Ev.now _)
theorem ok_lt {six : Bool} {n : Nat} {len : Int} (h : okP six n len) : n + hostN six len < 340282366920938463463374607431768211456 := Nat.lt_of_lt_of_le (okP_top h) (wn_pow six)
theorem has_ev (six : Bool) {n : Nat} (hn : n < 340282366920938463463374607431768211456) (len : Int) (six' : Bool) {m : Nat} (hm : m < 340282366920938463463374607431768211456) :
    Ev (fun k => addr_Has.f k six (hi n) (lo n) len six' (hi m) (lo m)) (decide (hasP six n len six' m)) := by
  simp only [addr_Has.f]
  refine Ev.bind (last_ev six hn len) ?_
  by_cases h : okP six n len
  · rw [if_pos h]
    refine Ev.pos rfl ?_
    by_cases hs : six = six'
    · refine Ev.pos (by simp [hs]) ?_
      rw [right_is six' hm]
      simp only [Option.bind_some]
      by_cases h2 : m < 2 ^ Wn six'
      · refine Ev.pos (decide_eq_true h2) (Ev.bind (cmp_ev n m) ?_)
        by_cases h3 : n ≤ m
        · refine Ev.pos ((cmpN_le n m).2 h3) (Ev.bind (cmp_ev m (n + hostN six len)) (Ev.const ?_))
          congr 1
          refine decide_eq_decide.2 ?_
          rw [cmpN_le]
          exact ⟨fun q => ⟨h, hs, h2, h3, q⟩, fun q => q.2.2.2.2⟩
        · refine Ev.neg (fun q => h3 ((cmpN_le n m).1 q)) (Ev.const ?_)
          rw [decide_eq_false (fun q : hasP six n len six' m => h3 q.2.2.2.1)]
      · refine Ev.neg (by rw [decide_eq_false h2]; simp) (Ev.const ?_)
        rw [decide_eq_false (fun q : hasP six n len six' m => h2 q.2.2.1)]
    · refine Ev.neg (by simpa using hs) (Ev.const ?_)
      rw [decide_eq_false (fun q : hasP six n len six' m => hs q.2.1)]
  · rw [if_neg h, decide_eq_false (fun q : hasP six n len six' m => h q.1)]
    exact Ev.neg (by decide) (Ev.now _)
/-- Are all of one's addresses another one's? -/
def coversP (six : Bool) (n : Nat) (len : Int) (six' : Bool) (m : Nat) (len' : Int) : Prop := okP six' m len' ∧ hasP six n len six' m ∧ hasP six n len six' (m + hostN six' len')
instance (six : Bool) (n : Nat) (len : Int) (six' : Bool) (m : Nat) (len' : Int) : Decidable (coversP six n len six' m len') := by unfold coversP; exact inferInstance
theorem covers_ev (six : Bool) {n : Nat} (hn : n < 340282366920938463463374607431768211456) (len : Int) (six' : Bool) {m : Nat} (hm : m < 340282366920938463463374607431768211456) (len' : Int) :
    Ev (fun k => addr_Covers.f k six (hi n) (lo n) len six' (hi m) (lo m) len') (decide (coversP six n len six' m len')) := by
  simp only [addr_Covers.f]
  refine Ev.bind (last_ev six' hm len') ?_
  by_cases h : okP six' m len'
  · rw [if_pos h]
    refine Ev.pos rfl (Ev.bind (has_ev six hn len six' hm) ?_)
    by_cases h2 : hasP six n len six' m
    · refine Ev.pos (decide_eq_true h2) (Ev.bind (has_ev six hn len six' (ok_lt h)) (Ev.const ?_))
      congr 1
      exact decide_eq_decide.2 ⟨fun q => ⟨h, h2, q⟩, fun q => q.2.2⟩
    · refine Ev.neg (by rw [decide_eq_false h2]; simp) (Ev.const ?_)
      rw [decide_eq_false (fun q : coversP six n len six' m len' => h2 q.2.1)]
  · rw [if_neg h, decide_eq_false (fun q : coversP six n len six' m len' => h q.1)]
    exact Ev.neg (by decide) (Ev.now _)
end Go.Proofs.Ytafclgjnomocdaa.Addr
