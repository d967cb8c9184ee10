/- The reference's addresses: rows of bits. -/
import Derived.Test.YtafclgjnomocdaaAddrP
import Derived.Test.YtafclgjnomocdaaQx4
import Derived.Test.YtafclgjnomocdaaQx5
import Derived.Test.YtafclgjnomocdaaQx16
namespace Go.Proofs.Ytafclgjnomocdaa.Addr
set_option linter.unusedVariables false
open Go.RowKit Go.Proofs.YtafclgjnomocdaaW.PrintWords Go.Proofs.YtafclgjnomocdaaW.PrintLast Go.Proofs.YtafclgjnomocdaaW.PrintMore Go.Proofs.Ytafclgjnomocdaa.Base Go.Proofs.Ytafclgjnomocdaa.Q

theorem rright_is (six : Bool) {n : Nat} (hn : n < 340282366920938463463374607431768211456) : spoorref09_Right.f six (hi n) (lo n) = some (decide (n < 2 ^ Wn six)) := by
  unfold spoorref09_Right.f
  cases six with
  | true => rw [decide_eq_true (wn_six.2 hn)]; rfl
  | false =>
    rw [if_neg (by simp)]
    by_cases hz : hi n = 0
    · rw [if_pos hz]
      refine congrArg some (decide_eq_decide.2 ?_)
      rw [wn_four]
      unfold lo
      unfold hi at hz
      omega
    · rw [if_neg hz, decide_eq_false]
      rw [wn_four]
      unfold hi at hz
      omega
theorem rwide_is (six : Bool) : spoorref09_Wide.f six = some ((Wn six : Nat) : Int) := by cases six <;> rfl
theorem set_mid (j : Nat) (suf : List Int) (b : Int) : (List.replicate (j + 1) (0 : Int) ++ suf).set j b = List.replicate j 0 ++ (b :: suf) := by
  rw [List.replicate_succ', List.append_assoc, List.set_append_right _ _ (by simp)]
  simp
theorem bits_aux : ∀ (j n : Nat) (suf : List Int), n < 340282366920938463463374607431768211456 → j ≤ 128 → Ev (fun k => spoorref09_bits.l0 k (List.replicate j 0 ++ suf) (lo n) (hi n) ((j : Int) - 1)) (bitsL j n ++ suf)
  | 0, n, suf, hn, _ => by
    refine Ev.succ ?_
    simp only [spoorref09_bits.l0]
    exact Ev.neg (by omega) (Ev.const (by simp [bitsL]))
  | j + 1, n, suf, hn, hj => by
    refine Ev.succ ?_
    simp only [spoorref09_bits.l0]
    refine Ev.pos (by omega) (Ev.pos (by omega) (Ev.pos (by simp; omega) ?_))
    have e1 : wrap64 (Int.tmod (lo n) 2) = ((n % 2 : Nat) : Int) := by
      rw [Int.tmod_eq_emod_of_nonneg (lo_range n).1, w64 (by omega) (by omega)]
      unfold lo; omega
    have e2 : IntKind.u64.wrap (IntKind.u64.wrap (Int.tdiv (lo n) 2) + IntKind.u64.wrap (Int.tmod (hi n) 2 * 9223372036854775808)) = lo (n / 2) := by
      rw [Int.tdiv_eq_ediv_of_nonneg (lo_range n).1, Int.tmod_eq_emod_of_nonneg (hi_range hn).1, u64m, u64m, u64m]
      unfold lo hi
      omega
    have e3 : IntKind.u64.wrap (Int.tdiv (hi n) 2) = hi (n / 2) := by
      rw [Int.tdiv_eq_ediv_of_nonneg (hi_range hn).1, u64m]
      unfold hi
      omega
    have e4 : wrap64 (((j + 1 : Nat) : Int) - 1 - 1) = (j : Int) - 1 := by rw [w64 (by omega) (by omega)]; omega
    have e5 : (((j + 1 : Nat) : Int) - 1).toNat = j := by omega
    rw [e1, e2, e3, e4, e5, set_mid]
    refine Ev.to (bits_aux j (n / 2) (((n % 2 : Nat) : Int) :: suf) (by omega) (by omega)) ?_
    simp [bitsL]
theorem bits_ev (six : Bool) {n : Nat} (hn : n < 340282366920938463463374607431768211456) : Ev (fun k => spoorref09_bits.f k six (hi n) (lo n)) (bitsL (Wn six) n) := by
  have hw := Wn_le six
  simp only [spoorref09_bits.f, rwide_is, Option.bind_some, Int.toNat_natCast]
  refine Ev.pos (by omega) (Ev.pos (by omega) ?_)
  have := bits_aux (Wn six) n [] hn hw
  simp only [List.append_nil] at this
  have e : wrap64 (((List.replicate (Wn six) (0 : Int)).length : Int) - 1) = (Wn six : Int) - 1 := by rw [List.length_replicate, w64 (by omega) (by omega)]
  rw [e]
  exact this
theorem ofL_lt : ∀ (l : List Int), (∀ x ∈ l, x = 0 ∨ x = 1) → ofL l < 2 ^ l.length := by
  intro l
  suffices h : ∀ (l : List Int) (a w : Nat), a < 2 ^ w → (∀ x ∈ l, x = 0 ∨ x = 1) → l.foldl (fun a b => 2 * a + b.toNat) a < 2 ^ (w + l.length) by
    intro hb
    have := h l 0 0 (by decide) hb
    simpa [ofL] using this
  intro l
  induction l with
  | nil => intro a w h _; exact h
  | cons x l ih =>
    intro a w h hb
    have := ih (2 * a + x.toNat) (w + 1) (by
      have := hb x (by simp)
      rw [Nat.pow_succ]
      omega) (fun y hy => hb y (by simp [hy]))
    rw [List.foldl_cons, List.length_cons]
    rwa [show w + (l.length + 1) = w + 1 + l.length by omega]
theorem of_aux (l : List Int) (hl : l.length ≤ 128) (hb : ∀ x ∈ l, x = 0 ∨ x = 1) : ∀ (d j : Nat) (a : Nat), j + d = l.length → a < 2 ^ j → Ev (fun k => spoorref09_of.l0 k l (l.length : Int) (j : Int) (hi a) (lo a)) (hi ((l.drop j).foldl (fun a b => 2 * a + b.toNat) a), lo ((l.drop j).foldl (fun a b => 2 * a + b.toNat) a))
  | 0, j, a, hj, ha => by
    refine Ev.succ ?_
    simp only [spoorref09_of.l0]
    refine Ev.neg (by omega) (Ev.const ?_)
    rw [List.drop_eq_nil_of_le (by omega)]
    rfl
  | d + 1, j, a, hj, ha => by
    have hx : l[j]? = some l[j] := List.getElem?_eq_getElem (by omega)
    have hr : rd l (j : Int) = l[j] := by simp [rd, List.getD_eq_getElem?_getD, hx]
    have hbit := hb l[j] (List.getElem_mem _)
    have ha128 : a < 2 ^ 127 := Nat.lt_of_lt_of_le ha (Nat.pow_le_pow_right (by decide) (by omega))
    have ha' : a < 170141183460469231731687303715884105728 := ha128
    refine Ev.succ ?_
    simp only [spoorref09_of.l0]
    refine Ev.pos (by omega) (Ev.pos (by omega) (Ev.pos (by omega) ?_))
    have e0 : wrap64 ((j : Int) + 1) = ((j + 1 : Nat) : Int) := by rw [w64 (by omega) (by omega)]; omega
    have e1 : IntKind.u64.wrap (IntKind.u64.wrap (2 * hi a) + IntKind.u64.wrap (Int.tdiv (lo a) 9223372036854775808)) = hi (2 * a + l[j].toNat) := by
      rw [Int.tdiv_eq_ediv_of_nonneg (lo_range a).1, u64m, u64m, u64m]
      unfold hi lo
      omega
    have e2 : IntKind.u64.wrap (IntKind.u64.wrap (2 * lo a) + IntKind.u64.wrap (rd l (j : Int))) = lo (2 * a + l[j].toNat) := by
      rw [hr, u64m, u64m, u64m]
      unfold lo
      omega
    rw [e0, e1, e2]
    refine Ev.to (of_aux l hl hb d (j + 1) (2 * a + l[j].toNat) (by omega) (by rw [Nat.pow_succ]; omega)) ?_
    rw [List.drop_eq_getElem_cons (show j < l.length by omega), List.foldl_cons]
theorem of_ev (l : List Int) (hl : l.length ≤ 128) (hb : ∀ x ∈ l, x = 0 ∨ x = 1) : Ev (fun k => spoorref09_of.f k l) (hi (ofL l), lo (ofL l)) := by
  simp only [spoorref09_of.f]
  exact of_aux l hl hb l.length 0 0 (by omega) (by decide)
theorem check_aux (l : List Int) (len : Int) (hl : l.length ≤ 128) (s : Bool) (a b : Int) : ∀ (r : List Int) (j : Nat), l.drop j = r → Ev (fun k => spoorref09_Check.l0 k l (l.length : Int) (j : Int) s a b len) (if ∀ x ∈ r.drop (len.toNat - j), x = 0 then 0 else 2)
  | [], j, hj => by
    have := drop_nil_le hj
    refine Ev.succ ?_
    simp only [spoorref09_Check.l0]
    exact Ev.neg (by omega) (Ev.const (by simp))
  | x :: r, j, hj => by
    have hlt := drop_lt hj
    have hx := rd_drop hj
    have e0 : wrap64 ((j : Int) + 1) = ((j + 1 : Nat) : Int) := by rw [w64 (by omega) (by omega)]; omega
    have ih := check_aux l len hl s a b r (j + 1) (drop_next hj)
    refine Ev.succ ?_
    simp only [spoorref09_Check.l0]
    refine Ev.pos (by omega) (Ev.pos (by omega) (Ev.pos (by omega) ?_))
    rw [e0, hx]
    by_cases h : (j : Int) ≥ len
    · have d0 : len.toNat - j = 0 := by omega
      have d1 : len.toNat - (j + 1) = 0 := by omega
      rw [d1, List.drop_zero] at ih
      rw [d0, List.drop_zero]
      refine Ev.pos h ?_
      by_cases hz : x = 0
      · refine Ev.pos hz (Ev.to ih ?_)
        by_cases hr : ∀ y ∈ r, y = 0
        · rw [if_pos hr, if_pos (fun y hy => (List.mem_cons.1 hy).elim (fun e => e.trans hz) (hr y))]
        · rw [if_neg hr, if_neg (fun q => hr (fun y hy => q y (by simp [hy])))]
      · rw [if_neg (fun q => hz (q x (by simp)))]
        exact Ev.neg hz (Ev.now _)
    · refine Ev.neg h (Ev.to ih ?_)
      have d0 : len.toNat - j = (len.toNat - (j + 1)) + 1 := by omega
      rw [d0, List.drop_succ_cons]
theorem bitsL_drop {w a n : Nat} (h : a ≤ w) : (bitsL w n).drop a = bitsL (w - a) n := by
  have e : w = a + (w - a) := by omega
  conv => lhs; rw [e, bitsL_split (w - a) a n]
  rw [List.drop_left' (bitsL_len _ _)]
theorem bitsL_take {w a n : Nat} (h : a ≤ w) : (bitsL w n).take a = bitsL a (n / 2 ^ (w - a)) := by
  have e : w = a + (w - a) := by omega
  conv => lhs; rw [e, bitsL_split (w - a) a n]
  rw [List.take_left' (bitsL_len _ _)]
theorem rcheck_ev (six : Bool) {n : Nat} (hn : n < 340282366920938463463374607431768211456) (len : Int) : Ev (fun k => spoorref09_Check.f k six (hi n) (lo n) len) (if okP six n len then 0 else 2) := by
  have hw := Wn_le six
  have bad : ¬ okP six n len → Ev (fun k => spoorref09_Check.j0 k true six (hi n) (lo n) len) (if okP six n len then 0 else 2) := by
    intro h
    rw [if_neg h]
    refine Ev.succ ?_
    simp only [spoorref09_Check.j0]
    exact Ev.pos trivial (Ev.now _)
  simp only [spoorref09_Check.f, rwide_is, rright_is six hn, Option.bind_some]
  by_cases h0 : len < 0
  · exact Ev.pos h0 (bad (fun h => by have := h.1; omega))
  refine Ev.neg h0 ?_
  by_cases h1 : len > ((Wn six : Nat) : Int)
  · exact Ev.pos h1 (bad (fun h => by have := h.2.1; omega))
  refine Ev.neg h1 ?_
  by_cases h2 : n < 2 ^ Wn six
  · rw [decide_eq_true h2]
    refine Ev.succ ?_
    simp only [spoorref09_Check.j0]
    refine Ev.neg (by simp) (Ev.bind (bits_ev six hn) ?_)
    have := check_aux (bitsL (Wn six) n) len (by rw [bitsL_len]; exact hw) six (hi n) (lo n) _ 0 rfl
    rw [List.drop_zero, Nat.sub_zero, bitsL_drop (by omega)] at this
    refine Ev.to this ?_
    simp only [bitsL_zero]
    by_cases z : n % 2 ^ (Wn six - len.toNat) = 0
    · rw [if_pos z, if_pos (show okP six n len from ⟨by omega, by omega, h2, z⟩)]
    · rw [if_neg z, if_neg (fun h : okP six n len => z h.2.2.2)]
  · rw [decide_eq_false h2]
    exact bad (fun h => h2 h.2.2.1)
end Go.Proofs.Ytafclgjnomocdaa.Addr
