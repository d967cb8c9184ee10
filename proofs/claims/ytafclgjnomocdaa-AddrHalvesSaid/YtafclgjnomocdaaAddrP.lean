/- Addresses as numbers and as rows of bits: plain lemmas. -/
import Derived.Test.YtafclgjnomocdaaBase
namespace Go.Proofs.Ytafclgjnomocdaa.Addr
set_option linter.unusedVariables false
open Go.RowKit Go.Proofs.YtafclgjnomocdaaW.PrintWords Go.Proofs.YtafclgjnomocdaaW.PrintLast Go.Proofs.YtafclgjnomocdaaW.PrintMore Go.Proofs.Ytafclgjnomocdaa.Base

/-- How many bits an address has. -/
def Wn (six : Bool) : Nat := if six then 128 else 32
theorem Wn_cases (six : Bool) : (six = true ∧ Wn six = 128) ∨ (six = false ∧ Wn six = 32) := by cases six <;> simp [Wn]
theorem Wn_le (six : Bool) : Wn six ≤ 128 := by cases six <;> simp [Wn]
def hi (n : Nat) : Int := ((n / 18446744073709551616 : Nat) : Int)
def lo (n : Nat) : Int := ((n % 18446744073709551616 : Nat) : Int)
theorem lo_range (n : Nat) : 0 ≤ lo n ∧ lo n < 18446744073709551616 := by unfold lo; omega
theorem hi_range {n : Nat} (h : n < 340282366920938463463374607431768211456) : 0 ≤ hi n ∧ hi n < 18446744073709551616 := by unfold hi; omega
theorem of_parts {h l : Int} (h0 : 0 ≤ h) (h1 : h < 18446744073709551616) (l0 : 0 ≤ l) (l1 : l < 18446744073709551616) : ∃ n, n < 340282366920938463463374607431768211456 ∧ h = hi n ∧ l = lo n :=
  ⟨h.toNat * 18446744073709551616 + l.toNat, by omega, by unfold hi; omega, by unfold lo; omega⟩
theorem parts_inj {n m : Nat} (h : hi n = hi m) (l : lo n = lo m) : n = m := by unfold hi at h; unfold lo at l; omega
theorem hi_eq {n m : Nat} (h : n = m) : hi n = hi m := by rw [h]
theorem parts_eq (n m : Nat) : (hi n == hi m && (lo n == lo m)) = decide (n = m) := by
  by_cases h : n = m
  · subst h; simp
  · rw [decide_eq_false h]
    by_cases h1 : hi n = hi m
    · have : lo n ≠ lo m := fun e => h (parts_inj h1 e)
      simp [this]
    · simp [h1]
theorem p2pos (n : Nat) : 0 < 2 ^ n := Nat.two_pow_pos n
theorem p2le {n : Nat} (h : n ≤ 128) : 2 ^ n ≤ 340282366920938463463374607431768211456 := Nat.le_trans (Nat.pow_le_pow_right (by decide) h) (by decide)
theorem p2le64 {n : Nat} (h : n ≤ 64) : 2 ^ n ≤ 18446744073709551616 := Nat.le_trans (Nat.pow_le_pow_right (by decide) h) (by decide)
theorem p2lt64 {n : Nat} (h : n < 64) : 2 ^ n ≤ 9223372036854775808 := Nat.le_trans (Nat.pow_le_pow_right (show 0 < 2 by decide) (show n ≤ 63 by omega)) (by decide)
theorem p2split {n : Nat} (h : 64 ≤ n) : 2 ^ n = 18446744073709551616 * 2 ^ (n - 64) := by
  have : 2 ^ n = 2 ^ 64 * 2 ^ (n - 64) := by rw [← Nat.pow_add]; congr 1; omega
  rw [this]
theorem p2split' {n : Nat} (h : n ≤ 64) : 18446744073709551616 = 2 ^ n * 2 ^ (64 - n) := by
  have : 2 ^ 64 = 2 ^ n * 2 ^ (64 - n) := by rw [← Nat.pow_add]; congr 1; omega
  rw [← this]
theorem wn_pow (six : Bool) : 2 ^ Wn six ≤ 340282366920938463463374607431768211456 := p2le (Wn_le six)
theorem wn_six {n : Nat} : (n < 2 ^ Wn true) ↔ n < 340282366920938463463374607431768211456 := Iff.rfl
theorem wn_four {n : Nat} : (n < 2 ^ Wn false) ↔ n < 4294967296 := Iff.rfl

/-- Divided by a power of two, by the parts. -/
theorem mod_parts {n N : Nat} (h : 64 ≤ n) : N % 2 ^ n = 0 ↔ (N / 18446744073709551616) % 2 ^ (n - 64) = 0 ∧ N % 18446744073709551616 = 0 := by
  rw [p2split h, Nat.mod_mul]
  constructor
  · intro e
    constructor
    · rcases Nat.eq_zero_or_pos (N / 18446744073709551616 % 2 ^ (n - 64)) with z | z
      · exact z
      · omega
    · omega
  · rintro ⟨a, b⟩
    rw [a, b]
theorem mod_low {n N : Nat} (h : n ≤ 64) : (N % 18446744073709551616) % 2 ^ n = N % 2 ^ n := by
  refine Nat.mod_mod_of_dvd N ⟨2 ^ (64 - n), ?_⟩
  exact p2split' h
theorem or_zero {x y : Int} (hx : 0 ≤ x) (hx1 : x < 18446744073709551616) (hy : 0 ≤ y) (hy1 : y < 18446744073709551616) : Go.bits .or .u64 x y = 0 ↔ x = 0 ∧ y = 0 := by
  obtain ⟨a, rfl⟩ := Int.eq_ofNat_of_zero_le hx
  obtain ⟨b, rfl⟩ := Int.eq_ofNat_of_zero_le hy
  rw [(bits_nat .u64 64 (by decide) wraps_u64 a b (by omega) (by omega)).2]
  constructor
  · intro h
    have h0 : a ||| b = 0 := by exact_mod_cast h
    have := Nat.or_eq_zero_iff.1 h0
    omega
  · rintro ⟨h1, h2⟩
    have e1 : a = 0 := by omega
    have e2 : b = 0 := by omega
    subst e1; subst e2
    rfl
theorem and_mask {x : Int} {j : Nat} (hx : 0 ≤ x) (hx1 : x < 18446744073709551616) (hj : j ≤ 64) : Go.bits .and .u64 x ((2 ^ j - 1 : Nat) : Int) = x % ((2 ^ j : Nat) : Int) := by
  have := bits_mask .u64 64 (by decide) wraps_u64 j hj x hx (by omega)
  have e : ((2 ^ j - 1 : Nat) : Int) = (2 : Int) ^ j - 1 := by
    rw [Int.natCast_sub (p2pos j)]; simp
  rw [e, this]
  simp
theorem shl1 {m : Nat} (h : m < 64) : shl .u64 1 (m : Int) = ((2 ^ m : Nat) : Int) := by
  have := p2lt64 h
  unfold shl
  rw [Int.toNat_natCast, Nat.min_eq_left (by simp [IntKind.bits]; omega), Int.one_mul]
  have e : (2 : Int) ^ m = ((2 ^ m : Nat) : Int) := by simp
  rw [e]
  generalize 2 ^ m = q at *
  exact u64w (by omega) (by omega)
/-- What two addresses have together, where the one's last n bits are zero and the other one has no more. -/
theorem both_join {n N Y : Nat} (hn : n ≤ 128) (hN : N < 340282366920938463463374607431768211456) (h0 : N % 2 ^ n = 0) (hY : Y < 2 ^ n) :
    Go.bits .or .u64 (hi N) (hi Y) = hi (N + Y) ∧ Go.bits .or .u64 (lo N) (lo Y) = lo (N + Y) := by
  have hY2 : Y < 340282366920938463463374607431768211456 := Nat.lt_of_lt_of_le hY (p2le hn)
  obtain ⟨h1, h2⟩ := hi_range hN
  obtain ⟨h3, h4⟩ := hi_range hY2
  obtain ⟨h5, h6⟩ := lo_range N
  obtain ⟨h7, h8⟩ := lo_range Y
  by_cases h : 64 ≤ n
  · obtain ⟨e1, e2⟩ := (mod_parts h).1 h0
    rw [p2split h] at hY
    have hq : Y / 18446744073709551616 < 2 ^ (n - 64) := by rw [Nat.div_lt_iff_lt_mul (by decide), Nat.mul_comm]; exact hY
    constructor
    · rw [or_join (n - 64) h1 (by unfold hi; exact_mod_cast e1) h2 h3 (by unfold hi; exact_mod_cast hq) h4]
      unfold hi; omega
    · have : lo N = 0 := by unfold lo; omega
      rw [this, or_join 64 (by omega) (by omega) (by omega) h7 (by omega) h8]
      unfold lo; omega
  · have h' : n ≤ 64 := by omega
    have hp := p2le64 h'
    constructor
    · have : hi Y = 0 := by unfold hi; omega
      rw [this, or_join 0 h1 (by omega) h2 (by omega) (by omega) (by omega)]
      rw [← mod_low h'] at h0
      have hs := p2split' h'
      have hlt : N % 18446744073709551616 + Y < 18446744073709551616 := by
        have hd : N % 18446744073709551616 = 2 ^ n * (N % 18446744073709551616 / 2 ^ n) := by
          have := Nat.div_add_mod (N % 18446744073709551616) (2 ^ n)
          omega
        have hb : N % 18446744073709551616 / 2 ^ n < 2 ^ (64 - n) := by
          rw [Nat.div_lt_iff_lt_mul (p2pos n), Nat.mul_comm, ← hs]
          omega
        have : 2 ^ n * (N % 18446744073709551616 / 2 ^ n + 1) ≤ 2 ^ n * 2 ^ (64 - n) := Nat.mul_le_mul_left _ hb
        rw [Nat.mul_add, ← hd, ← hs] at this
        omega
      unfold hi; omega
    · rw [← mod_low h'] at h0
      have hYl : lo Y = (Y : Int) := by unfold lo; omega
      have hz : lo N % 2 ^ n = 0 := by unfold lo; exact_mod_cast h0
      have hs := p2split' h'
      rw [or_join n h5 hz h6 h7 (by rw [hYl]; exact_mod_cast hY) h8, hYl]
      have hlt : N % 18446744073709551616 + Y < 18446744073709551616 := by
        have hd : N % 18446744073709551616 = 2 ^ n * (N % 18446744073709551616 / 2 ^ n) := by
          have := Nat.div_add_mod (N % 18446744073709551616) (2 ^ n)
          omega
        have hb : N % 18446744073709551616 / 2 ^ n < 2 ^ (64 - n) := by
          rw [Nat.div_lt_iff_lt_mul (p2pos n), Nat.mul_comm, ← hs]
          omega
        have : 2 ^ n * (N % 18446744073709551616 / 2 ^ n + 1) ≤ 2 ^ n * 2 ^ (64 - n) := Nat.mul_le_mul_left _ hb
        rw [Nat.mul_add, ← hd, ← hs] at this
        omega
      unfold lo; omega

/-- A number's last w bits, the highest first. -/
def bitsL : Nat → Nat → List Int
  | 0, _ => []
  | w + 1, n => bitsL w (n / 2) ++ [((n % 2 : Nat) : Int)]
theorem bitsL_len : ∀ w n, (bitsL w n).length = w
  | 0, _ => rfl
  | w + 1, n => by simp [bitsL, bitsL_len w]
theorem bitsL_split : ∀ (b a n : Nat), bitsL (a + b) n = bitsL a (n / 2 ^ b) ++ bitsL b n
  | 0, a, n => by simp [bitsL]
  | b + 1, a, n => by
    have e : n / 2 / 2 ^ b = n / 2 ^ (b + 1) := by rw [Nat.div_div_eq_div_mul, Nat.pow_succ, Nat.mul_comm]
    rw [← Nat.add_assoc, bitsL, bitsL_split b a (n / 2), e, bitsL, List.append_assoc]
theorem bitsL_bit : ∀ (w n : Nat), ∀ x ∈ bitsL w n, x = 0 ∨ x = 1
  | 0, n, x, h => by cases h
  | w + 1, n, x, h => by
    rcases List.mem_append.1 h with h | h
    · exact bitsL_bit w _ x h
    · simp at h; omega
theorem bitsL_zero : ∀ (w n : Nat), (∀ x ∈ bitsL w n, x = 0) ↔ n % 2 ^ w = 0
  | 0, n => by simp [bitsL, Nat.mod_one]
  | w + 1, n => by
    have ih := bitsL_zero w (n / 2)
    have e : n % 2 ^ (w + 1) = 2 * (n / 2 % 2 ^ w) + n % 2 := by
      rw [Nat.pow_succ, Nat.mul_comm, Nat.mod_mul]; omega
    rw [e]
    constructor
    · intro h
      have h1 := ih.1 (fun x hx => h x (by simp [bitsL, hx]))
      have h2 := h ((n % 2 : Nat) : Int) (by simp [bitsL])
      omega
    · intro h x hx
      rcases List.mem_append.1 hx with hx | hx
      · exact ih.2 (by omega) x hx
      · simp at hx; omega
theorem bitsL_inj : ∀ (w n m : Nat), bitsL w n = bitsL w m ↔ n % 2 ^ w = m % 2 ^ w
  | 0, n, m => by simp [bitsL, Nat.mod_one]
  | w + 1, n, m => by
    have ih := bitsL_inj w (n / 2) (m / 2)
    have e : ∀ n, n % 2 ^ (w + 1) = 2 * (n / 2 % 2 ^ w) + n % 2 := fun n => by
      rw [Nat.pow_succ, Nat.mul_comm, Nat.mod_mul]; omega
    rw [e, e]
    constructor
    · intro h
      have h1 := List.append_inj h (by rw [bitsL_len, bitsL_len])
      have h2 := ih.1 h1.1
      have h3 := h1.2
      simp at h3
      omega
    · intro h
      have h1 := ih.2 (by omega)
      have h2 : n % 2 = m % 2 := by omega
      rw [bitsL, bitsL, h1, h2]
/-- The number of bits. -/
def ofL (l : List Int) : Nat := l.foldl (fun a b => 2 * a + b.toNat) 0
theorem ofL_snoc (l : List Int) (b : Int) : ofL (l ++ [b]) = 2 * ofL l + b.toNat := by simp [ofL, List.foldl_append]
theorem ofL_bits : ∀ (w n : Nat), ofL (bitsL w n) = n % 2 ^ w
  | 0, n => by simp [bitsL, ofL, Nat.mod_one]
  | w + 1, n => by
    rw [bitsL, ofL_snoc, ofL_bits w, Nat.pow_succ, Nat.mul_comm (2 ^ w), Nat.mod_mul]
    omega
theorem ofL_append : ∀ (w : Nat) (l : List Int) (n : Nat), ofL (l ++ bitsL w n) = ofL l * 2 ^ w + n % 2 ^ w
  | 0, l, n => by simp [bitsL, Nat.mod_one]
  | w + 1, l, n => by
    rw [bitsL, ← List.append_assoc, ofL_snoc, ofL_append w, Nat.pow_succ, Nat.mul_comm (2 ^ w) 2, Nat.mod_mul, ← Nat.mul_assoc, Nat.mul_comm (ofL l) 2, Nat.mul_add, Nat.mul_assoc 2]
    omega
theorem ones_bits : ∀ w, List.replicate w (1 : Int) = bitsL w (2 ^ w - 1)
  | 0 => rfl
  | w + 1 => by
    have hp := p2pos w
    rw [List.replicate_succ', ones_bits w, bitsL]
    have e1 : (2 ^ (w + 1) - 1) / 2 = 2 ^ w - 1 := by rw [Nat.pow_succ]; omega
    have e2 : (2 ^ (w + 1) - 1) % 2 = 1 := by rw [Nat.pow_succ]; omega
    rw [e1, e2]
    rfl
theorem zeros_bits : ∀ w, List.replicate w (0 : Int) = bitsL w 0
  | 0 => rfl
  | w + 1 => by
    rw [List.replicate_succ', zeros_bits w, bitsL]
    rfl
theorem one_bit (b : Nat) (h : b < 2) : [((b : Nat) : Int)] = bitsL 1 b := by
  simp [bitsL]
  omega
/-- A right prefix: its number's last bits are zero. -/
def okP (six : Bool) (n : Nat) (len : Int) : Prop := 0 ≤ len ∧ len ≤ Wn six ∧ n < 2 ^ Wn six ∧ n % 2 ^ (Wn six - len.toNat) = 0
instance (six : Bool) (n : Nat) (len : Int) : Decidable (okP six n len) := by unfold okP; exact inferInstance
/-- The bits behind a prefix's. -/
def hostN (six : Bool) (len : Int) : Nat := 2 ^ (Wn six - len.toNat) - 1
/-- Is it one of a prefix's addresses? -/
def hasP (six : Bool) (n : Nat) (len : Int) (six' : Bool) (m : Nat) : Prop := okP six n len ∧ six = six' ∧ m < 2 ^ Wn six' ∧ n ≤ m ∧ m ≤ n + hostN six len
instance (six : Bool) (n : Nat) (len : Int) (six' : Bool) (m : Nat) : Decidable (hasP six n len six' m) := by unfold hasP; exact inferInstance
theorem okP_top {six : Bool} {n : Nat} {len : Int} (h : okP six n len) : n + hostN six len < 2 ^ Wn six := by
  obtain ⟨h0, h1, h2, h3⟩ := h
  unfold hostN
  have hk : Wn six - len.toNat ≤ Wn six := by omega
  generalize Wn six - len.toNat = k at *
  have hs : 2 ^ Wn six = 2 ^ k * 2 ^ (Wn six - k) := by rw [← Nat.pow_add]; congr 1; omega
  have hd : n = 2 ^ k * (n / 2 ^ k) := by have := Nat.div_add_mod n (2 ^ k); omega
  have hb : n / 2 ^ k < 2 ^ (Wn six - k) := by rw [Nat.div_lt_iff_lt_mul (p2pos k), Nat.mul_comm, ← hs]; exact h2
  have : 2 ^ k * (n / 2 ^ k + 1) ≤ 2 ^ k * 2 ^ (Wn six - k) := Nat.mul_le_mul_left _ hb
  rw [Nat.mul_add, ← hd, ← hs] at this
  have := p2pos k
  omega
/-- Between a prefix's first and last address are those whose first bits are its. -/
theorem between_div {n m k : Nat} (h : n % 2 ^ k = 0) : (n ≤ m ∧ m ≤ n + (2 ^ k - 1)) ↔ m / 2 ^ k = n / 2 ^ k := by
  have hp := p2pos k
  have hn := Nat.div_add_mod n (2 ^ k)
  have hm := Nat.div_add_mod m (2 ^ k)
  have hr := Nat.mod_lt m hp
  constructor
  · rintro ⟨h1, h2⟩
    refine Nat.le_antisymm ?_ (Nat.div_le_div_right h1)
    rw [← Nat.lt_succ_iff, Nat.div_lt_iff_lt_mul hp, Nat.succ_mul, Nat.mul_comm]
    omega
  · intro e
    rw [e] at hm
    omega
end Go.Proofs.Ytafclgjnomocdaa.Addr
