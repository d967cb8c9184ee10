/- The program's and the reference's numbers' bytes come to the plain ones. -/
import Derived.Test.YtnhkmhpibbmmnaaNumL
import Derived.Test.YtnhkmhpibbmmnaaQx1
import Derived.Test.YtnhkmhpibbmmnaaQx2
import Derived.Test.YtnhkmhpibbmmnaaQx4
import Derived.Test.YtnhkmhpibbmmnaaQx5
namespace Go.Proofs.Ytnhkmhpibbmmnaa.Num
set_option linter.unusedVariables false
open Go.RowKit Go.Proofs.YtnhkmhpibbmmnaaW.PrintWords Go.Proofs.YtnhkmhpibbmmnaaW.PrintLast Go.Proofs.YtnhkmhpibbmmnaaW.PrintMore Go.Proofs.Ytnhkmhpibbmmnaa.Base Go.Proofs.Ytnhkmhpibbmmnaa.Q

theorem add_ev : ∀ (n : Nat) (xs : List Int), xs.length + (putL n).length ≤ 140737488355328 → Ev (fun k => num_Add.l0 k xs (n : Int)) (xs ++ putL n) := by
  intro n
  induction n using Nat.strongRecOn with
  | _ n ih =>
    intro xs hl
    have hp := putL_pos n
    by_cases h : n < 128
    · refine Ev.step (f := fun _ => some (xs ++ [(n : Int) % 256])) (fun k => ?_) ?_
      · simp only [num_Add.l0]
        rw [if_neg (by omega), if_pos (by omega)]
      · rw [putL_small h]
        exact Ev.const (by rw [Int.emod_eq_of_lt (by omega) (by omega)])
    · have e := putL_great h
      rw [e, List.length_cons] at hl
      have := ih (n / 128) (by omega) (xs ++ [(n : Int) % 128 + 128]) (by simp; omega)
      refine Ev.step (f := fun k => num_Add.l0 k (xs ++ [(n : Int) % 128 + 128]) ((n / 128 : Nat) : Int)) (fun k => ?_) ?_
      · simp only [num_Add.l0]
        rw [if_pos (by omega), if_pos (by omega), or128 (by omega) (by omega)]
        have e1 : (n : Int) % 256 % 128 = (n : Int) % 128 := by omega
        have e2 : ((n / 128 : Nat) : Int) = (n : Int) / 128 := by omega
        rw [e1, e2]
      · rw [e]
        simpa using this
theorem put_ev {n : Nat} (h : n < 18446744073709551616) : Ev (fun k => num_Put.f k (n : Int)) (strOfNums (putL n)) := by
  have hl := putL_len h
  refine Ev.bind (g := fun k => num_Add.f k [] (n : Int)) (a := putL n) ?_ (Ev.pos hl (Ev.now _))
  have := add_ev n [] (by simp; omega)
  simpa [num_Add.f] using this
theorem rput_ev : ∀ (n : Nat), n < 18446744073709551616 → Ev (fun k => spoorref01_Put.f k (n : Int)) (strOfNums (putL n)) := by
  intro n
  induction n using Nat.strongRecOn with
  | _ n ih =>
    intro hn
    by_cases h : n < 128
    · refine Ev.step (f := fun _ => some (strOfNums ([(n : Int)]))) (fun k => ?_) ?_
      · simp only [spoorref01_Put.f]
        rw [if_pos (by omega), Int.emod_eq_of_lt (by omega) (by omega)]
      · rw [putL_small h]; exact Ev.now _
    · have e := putL_great h
      have hl := putL_len (n := n / 128) (by omega)
      have hh := ih (n / 128) (by omega) (by omega)
      refine Ev.step (f := fun k => (spoorref01_Put.f k ((n / 128 : Nat) : Int)).bind fun t => if (strOfNums [(n : Int) % 128 + 128]).size + t.size ≤ 9223372036854775807 then some (strOfNums [(n : Int) % 128 + 128] ++ t) else none) (fun k => ?_) ?_
      · simp only [spoorref01_Put.f]
        rw [if_neg (by omega)]
        simp only [Option.bind_some]
        have e1 : Int.tmod (n : Int) 128 = (n : Int) % 128 := Int.tmod_eq_emod_of_nonneg (by omega)
        have e2 : Int.tdiv (n : Int) 128 = ((n / 128 : Nat) : Int) := by rw [Int.tdiv_eq_ediv_of_nonneg (by omega)]; omega
        rw [e1, e2, u64w (by omega) (by omega), u64w (by omega) (by omega), Int.emod_eq_of_lt (a := (n : Int) % 128 + 128) (by omega) (by omega)]
      · refine Ev.bind hh (Ev.pos ?_ ?_)
        · rw [strOfNums_size, strOfNums_size]; simp; omega
        · rw [← str_append, e]; exact Ev.now _

/-- What is read at place i of a string. -/
def getR (x : Int × List Int × Int) : Int × ByteArray × Int := (x.1, strOfNums x.2.1, x.2.2)
theorem p128 {i : Nat} (h : i ≤ 9) : (0 : Int) < 128 ^ i ∧ (128 : Int) ^ i ≤ 9223372036854775808 ∧ (2 : Int) ^ (7 * i) = 128 ^ i ∧ (i ≤ 8 → (128 : Int) ^ i ≤ 72057594037927936) := by
  have : i = 0 ∨ i = 1 ∨ i = 2 ∨ i = 3 ∨ i = 4 ∨ i = 5 ∨ i = 6 ∨ i = 7 ∨ i = 8 ∨ i = 9 := by omega
  rcases this with rfl | rfl | rfl | rfl | rfl | rfl | rfl | rfl | rfl | rfl <;> decide
theorem shl7 {c : Int} {i : Nat} (h0 : 0 ≤ c) (h1 : c < 128) (hi : i ≤ 9) (h9 : i = 9 → c ≤ 1) : shl .u64 (IntKind.u64.wrap c) (wrap64 (7 * (i : Int))) = c * 128 ^ i ∧ c * 128 ^ i + 128 ^ i ≤ 18446744073709551616 := by
  have : i = 0 ∨ i = 1 ∨ i = 2 ∨ i = 3 ∨ i = 4 ∨ i = 5 ∨ i = 6 ∨ i = 7 ∨ i = 8 ∨ i = 9 := by omega
  rw [u64w h0 (by omega)]
  rcases this with rfl | rfl | rfl | rfl | rfl | rfl | rfl | rfl | rfl | rfl <;> simp [shl, wrap64, u64m, IntKind.bits] <;> omega
theorem get_ev (s : ByteArray) (hs : s.size ≤ 281474976710656) : ∀ (l : List Int) (i : Nat) (n : Int), (bytesOf s).drop i = l → i ≤ 9 → 0 ≤ n → n < 128 ^ i → Ev (fun k => num_Get.l0 k s n (mn (s.size : Int) 10) (i : Int)) (getR (getL i n l)) := by
  intro l
  induction l with
  | nil =>
    intro i n hd hi h0 h1
    have hle := drop_nil_le hd
    rw [bytesOf_length] at hle
    refine Ev.step (f := fun _ => some (0, (⟨#[]⟩ : ByteArray), 5)) (fun k => ?_) (Ev.now _)
    simp only [num_Get.l0]
    rw [if_neg (by unfold mn; split <;> omega)]
  | cons b l ih =>
    intro i n hd hi h0 h1
    have hlt := drop_lt hd
    rw [bytesOf_length] at hlt
    have hb : bt s (i : Int) = b := by rw [← rd_bytesOf]; exact rd_drop hd
    have hbb : Bytes (b :: l) := by rw [← hd]; exact (bytesOf_bytes s).drop i
    obtain ⟨b0, b1⟩ := hbb.head
    have hnext := drop_next hd
    have hrest : s.extract (i + 1) s.size = strOfNums l := by rw [str_from, hnext]
    obtain ⟨p0, p1, p2, p3⟩ := p128 hi
    have hmn : (i : Int) < mn (s.size : Int) 10 := by unfold mn; split <;> omega
    have hw : 0 ≤ wrap64 (7 * (i : Int)) := by rw [w64 (by omega) (by omega)]; omega
    have hw1 : wrap64 ((i : Int) + 1) = ((i + 1 : Nat) : Int) := by rw [w64 (by omega) (by omega)]; omega
    simp only [getL]
    -- the head of the loop
    have head : ∀ (q : Bool) (x : Int), (i = 9 → q = decide (b > 1)) → (i ≠ 9 → q = false) → Go.bits .or .u64 n (shl .u64 (IntKind.u64.wrap (Go.bits .andNot .u8 b 128)) (wrap64 (7 * (i : Int)))) = x → ∀ k, num_Get.l0 (k + 1) s n (mn (s.size : Int) 10) (i : Int) = num_Get.j1 k s x (i : Int) b (mn (s.size : Int) 10) (i : Int) q := by
      intro q x q1 q2 hx k
      simp only [num_Get.l0]
      rw [if_pos hmn, if_pos (by omega), if_pos (by omega), if_pos hw, hb, hx]
      by_cases h9 : i = 9
      · rw [if_pos (by omega), q1 h9]
      · rw [if_neg (by omega), q2 h9]
    rw [andNot128 b0 b1] at head
    by_cases h1' : i = 9 ∧ b > 1
    · rw [if_pos h1']
      refine Ev.step (fun k => head true _ (fun _ => by simp [h1'.2]) (fun h => absurd h1'.1 h) rfl k) ?_
      refine Ev.step (f := fun k => num_Get.j2 k s _ (i : Int) b (mn (s.size : Int) 10) (i : Int) true) (fun k => by simp only [num_Get.j1]; rw [if_pos trivial]) ?_
      exact Ev.step (f := fun _ => some (0, (⟨#[]⟩ : ByteArray), 7)) (fun k => by simp only [num_Get.j2]; rw [if_pos trivial]) (Ev.now _)
    rw [if_neg h1']
    have hc := shl7 (c := b % 128) (i := i) (by omega) (by omega) hi (fun h => by omega)
    have hor : Go.bits .or .u64 n (shl .u64 (IntKind.u64.wrap (b % 128)) (wrap64 (7 * (i : Int)))) = n + b % 128 * 128 ^ i := by
      have hn : 0 ≤ b % 128 * 128 ^ i := Int.mul_nonneg (by omega) (by omega)
      rw [hc.1, bits_or_comm, or_join (7 * i) hn (by rw [p2]; exact Int.mul_emod_left _ _) (by omega) h0 (by rw [p2]; exact h1) (by omega), Int.add_comm]
    have hd1 := head false _ (fun h => by symm; simp; omega) (fun _ => rfl) hor
    by_cases h2 : b ≥ 128
    · rw [if_pos h2]
      have hi8 : i ≤ 8 := by omega
      refine Ev.step hd1 ?_
      refine Ev.step (f := fun k => num_Get.j2 k s (n + b % 128 * 128 ^ i) (i : Int) b (mn (s.size : Int) 10) (i : Int) false) (fun k => by simp only [num_Get.j1]; rw [if_neg (by simp), if_neg (by omega)]) ?_
      refine Ev.step (f := fun k => num_Get.l0 k s (n + b % 128 * 128 ^ i) (mn (s.size : Int) 10) ((i + 1 : Nat) : Int)) (fun k => by simp only [num_Get.j2]; rw [if_neg (by simp), if_neg (by omega), hw1]) ?_
      have hn : 0 ≤ b % 128 * 128 ^ i := Int.mul_nonneg (by omega) (by omega)
      refine ih (i + 1) _ hnext (by omega) (by omega) ?_
      rw [Int.pow_succ]
      have : b % 128 * 128 ^ i ≤ 127 * 128 ^ i := Int.mul_le_mul_of_nonneg_right (by omega) (by omega)
      omega
    rw [if_neg h2]
    refine Ev.step hd1 ?_
    have hm : b % 128 = b := by omega
    rw [hm]
    by_cases h3 : b = 0 ∧ 0 < i
    · rw [if_pos h3]
      refine Ev.step (f := fun k => num_Get.j2 k s (n + b * 128 ^ i) (i : Int) b (mn (s.size : Int) 10) (i : Int) true) (fun k => by simp only [num_Get.j1]; rw [if_neg (by simp), if_pos h3.1, decide_eq_true (by omega)]) ?_
      exact Ev.step (f := fun _ => some (0, (⟨#[]⟩ : ByteArray), 7)) (fun k => by simp only [num_Get.j2]; rw [if_pos trivial]) (Ev.now _)
    · rw [if_neg h3]
      refine Ev.step (f := fun k => num_Get.j2 k s (n + b * 128 ^ i) (i : Int) b (mn (s.size : Int) 10) (i : Int) false) (fun k => by
        simp only [num_Get.j1]
        rw [if_neg (by simp)]
        by_cases hb0 : b = 0
        · rw [if_pos hb0, decide_eq_false (by omega)]
        · rw [if_neg hb0]) ?_
      refine Ev.step (f := fun _ => some (n + b * 128 ^ i, strOfNums l, 0)) (fun k => ?_) (Ev.now _)
      simp only [num_Get.j2]
      rw [if_neg (by simp), if_pos (by omega), hw1, if_pos (by omega), if_pos (by omega), Int.toNat_natCast, hrest]
theorem get_ev0 (s : ByteArray) (hs : s.size ≤ 281474976710656) : Ev (fun k => num_Get.f k s) (getR (getL 0 0 (bytesOf s))) := by
  have := get_ev s hs (bytesOf s) 0 0 rfl (by omega) (by omega) (by simp)
  simpa [num_Get.f] using this
theorem rget_ev (s : ByteArray) (hs : s.size ≤ 281474976710656) : ∀ (l : List Int) (i : Nat) (n : Int), (bytesOf s).drop i = l → i ≤ 9 → 0 ≤ n → n < 128 ^ i → Ev (fun k => spoorref01_Get.l0 k s n (128 ^ i) (i : Int)) (getR (getL i n l)) := by
  intro l
  induction l with
  | nil =>
    intro i n hd hi h0 h1
    have hle := drop_nil_le hd
    rw [bytesOf_length] at hle
    refine Ev.step (f := fun _ => some (0, (⟨#[]⟩ : ByteArray), 5)) (fun k => ?_) (Ev.now _)
    simp only [spoorref01_Get.l0]
    rw [if_neg (by omega)]
  | cons b l ih =>
    intro i n hd hi h0 h1
    have hlt := drop_lt hd
    rw [bytesOf_length] at hlt
    have hb : bt s (i : Int) = b := by rw [← rd_bytesOf]; exact rd_drop hd
    have hbb : Bytes (b :: l) := by rw [← hd]; exact (bytesOf_bytes s).drop i
    obtain ⟨b0, b1⟩ := hbb.head
    have hnext := drop_next hd
    have hrest : s.extract (i + 1) s.size = strOfNums l := by rw [str_from, hnext]
    obtain ⟨p0, p1, p2, p3⟩ := p128 hi
    have hw1 : wrap64 ((i : Int) + 1) = ((i + 1 : Nat) : Int) := by rw [w64 (by omega) (by omega)]; omega
    simp only [getL]
    have head : ∀ (q : Bool), (i = 9 → q = decide (b > 1)) → (i ≠ 9 → q = false) → ∀ k, spoorref01_Get.l0 (k + 1) s n (128 ^ i) (i : Int) = spoorref01_Get.j1 k s n (128 ^ i) (i : Int) b q := by
      intro q q1 q2 k
      simp only [spoorref01_Get.l0]
      rw [if_pos (by omega), if_pos (by omega), hb]
      by_cases h9 : i = 9
      · rw [if_pos (by omega), q1 h9]
      · rw [if_neg (by omega), q2 h9]
    by_cases h1' : i = 9 ∧ b > 1
    · rw [if_pos h1']
      refine Ev.step (fun k => head true (fun _ => by simp [h1'.2]) (fun h => absurd h1'.1 h) k) ?_
      exact Ev.step (f := fun _ => some (0, (⟨#[]⟩ : ByteArray), 7)) (fun k => by simp only [spoorref01_Get.j1]; rw [if_pos trivial]) (Ev.now _)
    rw [if_neg h1']
    have hc := (shl7 (c := b % 128) (i := i) (by omega) (by omega) hi (fun h => by omega)).2
    have hn : 0 ≤ b % 128 * 128 ^ i := Int.mul_nonneg (by omega) (by omega)
    have hsum : IntKind.u64.wrap (n + IntKind.u64.wrap (IntKind.u64.wrap (Int.tmod b 128) * 128 ^ i)) = n + b % 128 * 128 ^ i := by
      rw [Int.tmod_eq_emod_of_nonneg b0, u64w (n := b % 128) (by omega) (by omega), u64w (n := b % 128 * 128 ^ i) hn (by omega), u64w (by omega) (by omega)]
    refine Ev.step (head false (fun h => by symm; simp; omega) (fun _ => rfl)) ?_
    by_cases h2 : b ≥ 128
    · rw [if_pos h2]
      have hi8 : i ≤ 8 := by omega
      have hp := p3 hi8
      refine Ev.step (f := fun k => spoorref01_Get.l0 k s (n + b % 128 * 128 ^ i) (128 ^ (i + 1)) ((i + 1 : Nat) : Int)) (fun k => ?_) ?_
      · simp only [spoorref01_Get.j1]
        rw [if_neg (by simp), if_pos h2, hsum, hw1, u64w (n := 128 ^ i * 128) (by omega) (by omega), Int.pow_succ]
      · refine ih (i + 1) _ hnext (by omega) (by omega) ?_
        rw [Int.pow_succ]
        have : b % 128 * 128 ^ i ≤ 127 * 128 ^ i := Int.mul_le_mul_of_nonneg_right (by omega) (by omega)
        omega
    rw [if_neg h2]
    have hm : b % 128 = b := by omega
    rw [hm] at hsum
    by_cases h3 : b = 0 ∧ 0 < i
    · rw [if_pos h3]
      exact Ev.step (f := fun _ => some (0, (⟨#[]⟩ : ByteArray), 7)) (fun k => by simp only [spoorref01_Get.j1]; rw [if_neg (by simp), if_neg h2, if_pos h3.1, if_pos (by omega)]) (Ev.now _)
    · rw [if_neg h3]
      refine Ev.step (f := fun _ => some (n + b * 128 ^ i, strOfNums l, 0)) (fun k => ?_) (Ev.now _)
      simp only [spoorref01_Get.j1]
      rw [if_neg (by simp), if_neg h2]
      by_cases hb0 : b = 0
      · rw [if_pos hb0, if_neg (by omega), hw1, if_pos (by omega), if_pos (by omega), Int.toNat_natCast, hrest, hsum]
      · rw [if_neg hb0, hw1, if_pos (by omega), if_pos (by omega), Int.toNat_natCast, hrest, hsum]
theorem rget_ev0 (s : ByteArray) (hs : s.size ≤ 281474976710656) : Ev (fun k => spoorref01_Get.f k s) (getR (getL 0 0 (bytesOf s))) := by
  have := rget_ev s hs (bytesOf s) 0 0 rfl (by omega) (by omega) (by simp)
  simpa [spoorref01_Get.f] using this
end Go.Proofs.Ytnhkmhpibbmmnaa.Num
