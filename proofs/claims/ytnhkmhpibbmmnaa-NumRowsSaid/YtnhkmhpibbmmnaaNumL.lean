/- Plain lemmas on numbers' bytes: what they are, and how they are read. -/
import Derived.Test.YtnhkmhpibbmmnaaBase
namespace Go.Proofs.Ytnhkmhpibbmmnaa.Num
set_option linter.unusedVariables false
open Go.RowKit Go.Proofs.YtnhkmhpibbmmnaaW.PrintWords Go.Proofs.YtnhkmhpibbmmnaaW.PrintLast Go.Proofs.YtnhkmhpibbmmnaaW.PrintMore Go.Proofs.Ytnhkmhpibbmmnaa.Base

/-- A number's bytes. -/
def putL (n : Nat) : List Int := if n < 128 then [(n : Int)] else ((n : Int) % 128 + 128) :: putL (n / 128)
termination_by n
theorem putL_small {n : Nat} (h : n < 128) : putL n = [(n : Int)] := by rw [putL, if_pos h]
theorem putL_great {n : Nat} (h : ¬ n < 128) : putL n = ((n : Int) % 128 + 128) :: putL (n / 128) := by rw [putL, if_neg h]
theorem putL_ne (n : Nat) : putL n ≠ [] := by
  rw [putL]
  split <;> simp
theorem putL_pos (n : Nat) : 0 < (putL n).length := List.length_pos_iff.2 (putL_ne n)
theorem putL_bytes (n : Nat) : Bytes (putL n) := by
  induction n using Nat.strongRecOn with
  | _ n ih =>
    by_cases h : n < 128
    · rw [putL_small h]
      exact Bytes.cons (by omega) (by omega) Bytes.nil
    · rw [putL_great h]
      exact Bytes.cons (by omega) (by omega) (ih _ (by omega))
theorem putL_len_aux : ∀ (j n : Nat), n < 128 ^ (j + 1) → (putL n).length ≤ j + 1
  | 0, n, h => by rw [putL_small (by simpa using h)]; simp
  | j + 1, n, h => by
    by_cases g : n < 128
    · rw [putL_small g]; simp
    · rw [putL_great g, List.length_cons]
      have := putL_len_aux j (n / 128) (by
        rw [Nat.div_lt_iff_lt_mul (by decide)]
        rwa [Nat.pow_succ] at h)
      omega
theorem putL_len {n : Nat} (h : n < 18446744073709551616) : (putL n).length ≤ 10 := putL_len_aux 9 n (Nat.lt_of_lt_of_le h (by decide))

/-- The number that bytes begin with, place i on, n read till now: the number, what is behind, the error. -/
def getL : Nat → Int → List Int → Int × List Int × Int
  | _, _, [] => (0, [], 5)
  | i, n, b :: r => if i = 9 ∧ b > 1 then (0, [], 7) else if b ≥ 128 then getL (i + 1) (n + b % 128 * 128 ^ i) r else if b = 0 ∧ 0 < i then (0, [], 7) else (n + b * 128 ^ i, r, 0)
/-- What is put is read. -/
theorem getL_put (more : List Int) : ∀ (m i : Nat) (n : Int), i ≤ 9 → m * 128 ^ i < 18446744073709551616 → (0 < i → 0 < m) → getL i n (putL m ++ more) = (n + m * 128 ^ i, more, 0) := by
  intro m
  induction m using Nat.strongRecOn with
  | _ m ih =>
    intro i n hi hm h0
    have h9 : i = 9 → m ≤ 1 := by
      rintro rfl
      have : m * 9223372036854775808 < 18446744073709551616 := by simpa using hm
      omega
    by_cases h : m < 128
    · rw [putL_small h]
      simp only [List.cons_append, List.nil_append, getL]
      rw [if_neg (by omega), if_neg (by omega), if_neg (by omega)]
    · rw [putL_great h]
      simp only [List.cons_append, getL]
      have hd : m / 128 * 128 ^ (i + 1) ≤ m * 128 ^ i := by
        rw [Nat.pow_succ, Nat.mul_comm (128 ^ i), ← Nat.mul_assoc]
        exact Nat.mul_le_mul_right _ (Nat.div_mul_le_self _ _)
      rw [if_neg (by omega), if_pos (by omega), ih (m / 128) (by omega) (i + 1) _ (by omega) (by omega) (by omega)]
      refine Prod.ext ?_ rfl
      show n + ((m : Int) % 128 + 128) % 128 * 128 ^ i + ((m / 128 : Nat) : Int) * 128 ^ (i + 1) = n + (m : Int) * 128 ^ i
      rw [Int.pow_succ]
      have e : ((m : Int) % 128 + 128) % 128 = (m : Int) % 128 := by omega
      have e2 : ((m / 128 : Nat) : Int) = (m : Int) / 128 := by omega
      rw [e, e2, Int.add_assoc, Int.mul_comm (128 ^ i) 128, ← Int.mul_assoc, ← Int.add_mul]
      congr 2
      omega
theorem getL_put0 {m : Nat} (more : List Int) (h : m < 18446744073709551616) : getL 0 0 (putL m ++ more) = ((m : Int), more, 0) := by
  rw [getL_put more m 0 0 (by omega) (by simpa using h) (by omega)]
  simp
/-- What is read was put. -/
theorem getL_back : ∀ (l : List Int) (i : Nat) (n v : Int) (r : List Int), Bytes l → i ≤ 9 → getL i n l = (v, r, 0) → ∃ m : Nat, v = n + m * 128 ^ i ∧ l = putL m ++ r ∧ (0 < i → 0 < m) ∧ m * 128 ^ i < 18446744073709551616
  | [], i, n, v, r, _, _, h => by simp [getL] at h
  | b :: l, i, n, v, r, hb, hi, h => by
    obtain ⟨b0, b1⟩ := hb.head
    simp only [getL] at h
    by_cases h1 : i = 9 ∧ b > 1
    · rw [if_pos h1] at h; simp at h
    rw [if_neg h1] at h
    by_cases h2 : b ≥ 128
    · rw [if_pos h2] at h
      obtain ⟨m, hv, hl, hm, hs⟩ := getL_back l (i + 1) _ v r hb.tail (by omega) h
      have hm := hm (by omega)
      have e : (((b % 128).toNat + m * 128 : Nat) : Int) = b % 128 + m * 128 := by omega
      refine ⟨(b % 128).toNat + m * 128, ?_, ?_, by omega, ?_⟩
      · rw [hv, e, Int.pow_succ, Int.add_mul, Int.add_assoc, Int.mul_comm (128 ^ i) 128, Int.mul_assoc]
      · rw [putL_great (by omega), hl]
        have e1 : ((b % 128).toNat + m * 128) / 128 = m := by omega
        have e2 : ((((b % 128).toNat + m * 128 : Nat) : Int) % 128 + 128) = b := by omega
        rw [e1, e2]
        rfl
      · have hp : 0 < 128 ^ i := Nat.pow_pos (by decide)
        have hlt : ((b % 128).toNat + m * 128) * 128 ^ i < (m + 1) * 128 ^ (i + 1) := by
          rw [Nat.pow_succ, Nat.mul_comm (128 ^ i), ← Nat.mul_assoc]
          exact Nat.mul_lt_mul_of_pos_right (by omega) hp
        have hi8 : i ≤ 8 := by omega
        have hmm : m * 128 ^ (i + 1) < 18446744073709551616 := hs
        have key : ∀ j : Nat, j ≤ 8 → m * 128 ^ (j + 1) < 18446744073709551616 → 18446744073709551616 = 128 ^ (j + 1) * (18446744073709551616 / 128 ^ (j + 1)) := by
          intro j hj _
          have : j = 0 ∨ j = 1 ∨ j = 2 ∨ j = 3 ∨ j = 4 ∨ j = 5 ∨ j = 6 ∨ j = 7 ∨ j = 8 := by omega
          rcases this with rfl | rfl | rfl | rfl | rfl | rfl | rfl | rfl | rfl <;> decide
        have hq := key i hi8 hmm
        have hm1 : m + 1 ≤ 18446744073709551616 / 128 ^ (i + 1) := by
          have : m * 128 ^ (i + 1) < 18446744073709551616 / 128 ^ (i + 1) * 128 ^ (i + 1) := by rw [Nat.mul_comm (18446744073709551616 / _)]; omega
          exact Nat.lt_of_mul_lt_mul_right this
        have : (m + 1) * 128 ^ (i + 1) ≤ 18446744073709551616 := by
          rw [hq, Nat.mul_comm (128 ^ (i + 1))]
          exact Nat.mul_le_mul_right _ hm1
        omega
    rw [if_neg h2] at h
    by_cases h3 : b = 0 ∧ 0 < i
    · rw [if_pos h3] at h; simp at h
    rw [if_neg h3] at h
    simp only [Prod.mk.injEq, and_true] at h
    obtain ⟨rfl, rfl⟩ := h
    refine ⟨b.toNat, by rw [Int.toNat_of_nonneg b0], ?_, by omega, ?_⟩
    · rw [putL_small (by omega), Int.toNat_of_nonneg b0]; rfl
    · have : i = 0 ∨ i = 1 ∨ i = 2 ∨ i = 3 ∨ i = 4 ∨ i = 5 ∨ i = 6 ∨ i = 7 ∨ i = 8 ∨ i = 9 := by omega
      rcases this with rfl | rfl | rfl | rfl | rfl | rfl | rfl | rfl | rfl | rfl <;> simp only [Nat.reducePow] <;> omega
theorem getL_back0 {l r : List Int} {v : Int} (hb : Bytes l) (h : getL 0 0 l = (v, r, 0)) : ∃ m : Nat, v = m ∧ l = putL m ++ r ∧ m < 18446744073709551616 := by
  obtain ⟨m, hv, hl, _, hs⟩ := getL_back l 0 0 v r hb (by omega) h
  exact ⟨m, by simpa using hv, hl, by simpa using hs⟩
theorem getL_bytes : ∀ (l : List Int) (i : Nat) (n : Int), Bytes l → Bytes (getL i n l).2.1
  | [], _, _, _ => by simp [getL, Bytes.nil]
  | b :: l, i, n, hb => by
    simp only [getL]
    split
    · exact Bytes.nil
    split
    · exact getL_bytes l _ _ hb.tail
    split
    · exact Bytes.nil
    · exact hb.tail
theorem getL_err : ∀ (l : List Int) (i : Nat) (n : Int), (getL i n l).2.2 = 0 ∨ ((getL i n l).2.2 ≠ 0 ∧ (getL i n l).1 = 0 ∧ (getL i n l).2.1 = [])
  | [], _, _ => by simp [getL]
  | b :: l, i, n => by
    simp only [getL]
    split
    · exact .inr (by simp)
    split
    · exact getL_err l _ _
    split
    · exact .inr (by simp)
    · exact .inl rfl
theorem getL_len : ∀ (l : List Int) (i : Nat) (n : Int), (getL i n l).2.1.length ≤ l.length
  | [], _, _ => by simp [getL]
  | b :: l, i, n => by
    simp only [getL]
    split
    · simp
    split
    · have := getL_len l (i + 1) (n + b % 128 * 128 ^ i); simp; omega
    split
    · simp
    · simp
end Go.Proofs.Ytnhkmhpibbmmnaa.Num
