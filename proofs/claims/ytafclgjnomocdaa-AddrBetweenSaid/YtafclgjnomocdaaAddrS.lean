/- The reference's Last, Has, Covers, Next, Prev, Halves, Cmp. -/
import Derived.Test.YtafclgjnomocdaaAddrR
import Derived.Test.YtafclgjnomocdaaQx18
import Derived.Test.YtafclgjnomocdaaQx20
import Derived.Test.YtafclgjnomocdaaQx22
import Derived.Test.YtafclgjnomocdaaQx6
import Derived.Test.YtafclgjnomocdaaQx13
import Derived.Test.YtafclgjnomocdaaAddr
namespace Go.Proofs.Ytafclgjnomocdaa.Addr
set_option linter.unusedVariables false
open Go.RowKit Go.Proofs.YtafclgjnomocdaaW.PrintWords Go.Proofs.YtafclgjnomocdaaW.PrintLast Go.Proofs.YtafclgjnomocdaaW.PrintMore Go.Proofs.Ytafclgjnomocdaa.Base Go.Proofs.Ytafclgjnomocdaa.Q

theorem rcmp_ev (n m : Nat) : Ev (fun k => spoorref09_Cmp.f k (hi n) (lo n) (hi m) (lo m)) (cmpN n m) := by
  simp only [spoorref09_Cmp.f]
  have j : ∀ q : Bool, (q = decide (n < m)) → Ev (fun k => spoorref09_Cmp.j0 k q (hi n) (lo n) (hi m) (lo m)) (cmpN n m) := by
    rintro q rfl
    refine Ev.succ ?_
    simp only [spoorref09_Cmp.j0]
    unfold cmpN
    by_cases h : n < m
    · rw [if_pos h]; exact Ev.pos (decide_eq_true h) (Ev.now _)
    · rw [if_neg h]
      refine Ev.neg (by rw [decide_eq_false h]; simp) ?_
      rw [parts_eq]
      by_cases e : n = m
      · rw [if_pos e]; exact Ev.pos (decide_eq_true e) (Ev.now _)
      · rw [if_neg e]; exact Ev.neg (by rw [decide_eq_false e]; simp) (Ev.now _)
  by_cases h : hi n < hi m
  · exact Ev.pos h (j true (by symm; refine decide_eq_true ?_; unfold hi at h; omega))
  refine Ev.neg h ?_
  by_cases e : hi n = hi m
  · refine Ev.pos e (j _ (decide_eq_decide.2 ?_))
    unfold hi at e; unfold lo; omega
  · refine Ev.neg e (j false (by symm; refine decide_eq_false ?_; unfold hi at h e; omega))
theorem last_aux : ∀ (d : Nat) (pre suf : List Int), suf.length = d → pre.length + d ≤ 128 → (∀ x ∈ pre, x = 0 ∨ x = 1) → Ev (fun k => spoorref09_Last.l0 k (pre ++ suf) (pre.length : Int)) (hi (ofL (pre ++ List.replicate d 1)), lo (ofL (pre ++ List.replicate d 1)), 0)
  | 0, pre, suf, hs, hl, hb => by
    obtain rfl : suf = [] := List.eq_nil_of_length_eq_zero hs
    refine Ev.succ ?_
    simp only [spoorref09_Last.l0, List.append_nil, List.replicate_zero]
    refine Ev.neg (by omega) (Ev.bind (of_ev pre (by omega) hb) (Ev.now _))
  | d + 1, pre, suf, hs, hl, hb => by
    obtain ⟨y, suf, rfl⟩ : ∃ y r, suf = y :: r := by cases suf with
      | nil => simp at hs
      | cons y r => exact ⟨y, r, rfl⟩
    refine Ev.succ ?_
    simp only [spoorref09_Last.l0]
    refine Ev.pos (by simp; omega) (Ev.pos (by omega) ?_)
    have e0 : wrap64 ((pre.length : Int) + 1) = (((pre ++ [1]).length : Nat) : Int) := by rw [w64 (by omega) (by omega)]; simp
    have e1 : (pre ++ y :: suf).set (pre.length : Int).toNat 1 = (pre ++ [1]) ++ suf := by
      rw [Int.toNat_natCast, List.set_append_right _ _ (Nat.le_refl _)]
      simp
    rw [e0, e1]
    have := last_aux d (pre ++ [1]) suf (by simpa using hs) (by simp; omega) (fun x hx => by
      rcases List.mem_append.1 hx with hx | hx
      · exact hb x hx
      · simp at hx; omega)
    rw [show pre ++ [1] ++ List.replicate d 1 = pre ++ List.replicate (d + 1) 1 by simp [List.replicate_succ]] at this
    exact this
theorem ok_sum {six : Bool} {n : Nat} {len : Int} (h : okP six n len) : n / 2 ^ (Wn six - len.toNat) * 2 ^ (Wn six - len.toNat) = n := by
  have := Nat.div_add_mod n (2 ^ (Wn six - len.toNat))
  rw [h.2.2.2, Nat.mul_comm] at this
  omega
theorem rlast_ev (six : Bool) {n : Nat} (hn : n < 340282366920938463463374607431768211456) (len : Int) : Ev (fun k => spoorref09_Last.f k six (hi n) (lo n) len) (if okP six n len then (hi (n + hostN six len), lo (n + hostN six len), 0) else (0, 0, 2)) := by
  have hw := Wn_le six
  simp only [spoorref09_Last.f]
  refine Ev.bind (rcheck_ev six hn len) ?_
  by_cases h : okP six n len
  · obtain ⟨h0, h1, h2, h3⟩ := id h
    rw [if_pos h, if_pos h]
    refine Ev.pos rfl (Ev.bind (bits_ev six hn) ?_)
    have hk : Wn six = len.toNat + (Wn six - len.toNat) := by omega
    have e : bitsL (Wn six) n = bitsL len.toNat (n / 2 ^ (Wn six - len.toNat)) ++ bitsL (Wn six - len.toNat) n := by
      rw [← bitsL_split, ← hk]
    rw [e]
    have := last_aux (Wn six - len.toNat) (bitsL len.toNat (n / 2 ^ (Wn six - len.toNat))) (bitsL (Wn six - len.toNat) n) (bitsL_len _ _) (by rw [bitsL_len]; omega) (bitsL_bit _ _)
    rw [bitsL_len, Int.toNat_of_nonneg h0] at this
    refine Ev.to this ?_
    have hp := p2pos (Wn six - len.toNat)
    have hv : ofL (bitsL len.toNat (n / 2 ^ (Wn six - len.toNat)) ++ List.replicate (Wn six - len.toNat) 1) = n + hostN six len := by
      rw [ones_bits, ofL_append, ofL_bits, Nat.mod_eq_of_lt (a := 2 ^ (Wn six - len.toNat) - 1) (by omega), Nat.mod_eq_of_lt, ok_sum h]
      · rfl
      · rw [Nat.div_lt_iff_lt_mul hp, ← Nat.pow_add, ← hk]
        exact h2
    rw [hv]
  · rw [if_neg h, if_neg h]
    exact Ev.neg (by decide) (Ev.now _)
theorem has_aux (l m : List Int) (len : Int) (h0 : 0 ≤ len) (hl : len.toNat ≤ l.length) (hm : len.toNat ≤ m.length) (h128 : l.length ≤ 128) (s : Bool) (a b : Int) : ∀ (d j : Nat), j + d = len.toNat →
    Ev (fun k => spoorref09_Has.l0 k l m (j : Int) s a b len) (decide ((l.take len.toNat).drop j = (m.take len.toNat).drop j))
  | 0, j, hj => by
    refine Ev.succ ?_
    simp only [spoorref09_Has.l0]
    refine Ev.neg (by omega) (Ev.const ?_)
    rw [List.drop_eq_nil_of_le (by simp; omega), List.drop_eq_nil_of_le (by simp; omega)]
    simp
  | d + 1, j, hj => by
    have e0 : wrap64 ((j : Int) + 1) = ((j + 1 : Nat) : Int) := by rw [w64 (by omega) (by omega)]; omega
    have g1 : (l.take len.toNat).drop j = rd l (j : Int) :: (l.take len.toNat).drop (j + 1) := by
      rw [List.drop_eq_getElem_cons (by simp; omega), List.getElem_take]
      simp [rd, List.getD_eq_getElem?_getD, List.getElem?_eq_getElem (show j < l.length by omega)]
    have g2 : (m.take len.toNat).drop j = rd m (j : Int) :: (m.take len.toNat).drop (j + 1) := by
      rw [List.drop_eq_getElem_cons (by simp; omega), List.getElem_take]
      simp [rd, List.getD_eq_getElem?_getD, List.getElem?_eq_getElem (show j < m.length by omega)]
    refine Ev.succ ?_
    simp only [spoorref09_Has.l0]
    refine Ev.pos (by omega) (Ev.pos (by omega) (Ev.pos (by omega) (Ev.pos (by omega) ?_)))
    rw [e0, g1, g2]
    by_cases h : rd l (j : Int) = rd m (j : Int)
    · refine Ev.pos h (Ev.to (has_aux l m len h0 hl hm h128 s a b d (j + 1) (by omega)) (decide_eq_decide.2 ?_))
      rw [h]
      simp
    · refine Ev.neg h (Ev.const ?_)
      rw [decide_eq_false]
      intro q
      exact h (List.cons.inj q).1
theorem rhas_ev (six : Bool) {n : Nat} (hn : n < 340282366920938463463374607431768211456) (len : Int) (six' : Bool) {m : Nat} (hm : m < 340282366920938463463374607431768211456) :
    Ev (fun k => spoorref09_Has.f k six (hi n) (lo n) len six' (hi m) (lo m)) (decide (hasP six n len six' m)) := by
  have bad : ¬ hasP six n len six' m → Ev (fun k => spoorref09_Has.j0 k six' true six (hi n) (lo n) len (hi m) (lo m)) (decide (hasP six n len six' m)) := by
    intro h
    rw [decide_eq_false h]
    refine Ev.succ ?_
    simp only [spoorref09_Has.j0]
    exact Ev.pos trivial (Ev.now _)
  simp only [spoorref09_Has.f]
  refine Ev.bind (rcheck_ev six hn len) ?_
  by_cases h : okP six n len
  · rw [if_pos h]
    refine Ev.pos rfl ?_
    by_cases hs : six = six'
    · subst hs
      refine Ev.neg (by simp) ?_
      rw [rright_is six hm]
      simp only [Option.bind_some]
      by_cases h2 : m < 2 ^ Wn six
      · rw [decide_eq_true h2]
        have hw := Wn_le six
        obtain ⟨h0, h1, h3, h4⟩ := id h
        refine Ev.succ ?_
        simp only [spoorref09_Has.j0]
        refine Ev.neg (by simp) (Ev.bind (bits_ev six hn) (Ev.bind (bits_ev six hm) ?_))
        have := has_aux (bitsL (Wn six) n) (bitsL (Wn six) m) len h0 (by rw [bitsL_len]; omega) (by rw [bitsL_len]; omega) (by rw [bitsL_len]; exact hw) six (hi n) (lo n) len.toNat 0 (by omega)
        refine Ev.to this (decide_eq_decide.2 ?_)
        rw [List.drop_zero, List.drop_zero, bitsL_take (by omega), bitsL_take (by omega), bitsL_inj]
        have hp := p2pos (Wn six - len.toNat)
        have hk : 2 ^ Wn six = 2 ^ len.toNat * 2 ^ (Wn six - len.toNat) := by rw [← Nat.pow_add]; congr 1; omega
        rw [Nat.mod_eq_of_lt (by rw [Nat.div_lt_iff_lt_mul hp, ← hk]; exact h3), Nat.mod_eq_of_lt (by rw [Nat.div_lt_iff_lt_mul hp, ← hk]; exact h2)]
        have hb := between_div (m := m) h4
        constructor
        · intro q
          have := hb.2 q.symm
          exact ⟨h, rfl, h2, this.1, this.2⟩
        · intro q
          exact (hb.1 ⟨q.2.2.2.1, q.2.2.2.2⟩).symm
      · rw [decide_eq_false h2]
        exact bad (fun q => h2 q.2.2.1)
    · exact Ev.pos (by simpa using hs) (bad (fun q => hs q.2.1))
  · rw [if_neg h]
    exact Ev.neg (by decide) (bad (fun q => h q.1))
/-- One prefix covers another one just if it has its address, and no more bits. -/
theorem covers_iff {six : Bool} {n : Nat} {len : Int} {six' : Bool} {m : Nat} {len' : Int} : coversP six n len six' m len' ↔ okP six' m len' ∧ hasP six n len six' m ∧ len ≤ len' := by
  constructor
  · rintro ⟨h1, h2, h3⟩
    refine ⟨h1, h2, ?_⟩
    obtain ⟨a1, rfl, a3, a4, a5⟩ := h2
    obtain ⟨_, _, b3, b4, b5⟩ := h3
    obtain ⟨c0, c1, c2, c3⟩ := a1
    obtain ⟨d0, d1, d2, d3⟩ := h1
    rcases Int.lt_or_le len' len with g | g
    · exfalso
      unfold hostN at a5 b5
      have hlt : 2 ^ (Wn six - len.toNat) < 2 ^ (Wn six - len'.toNat) := Nat.pow_lt_pow_right (by decide) (by omega)
      have e1 := (between_div c3).1 ⟨a4, a5⟩
      have e2 := (between_div (m := m + (2 ^ (Wn six - len'.toNat) - 1)) c3).1 ⟨by omega, b5⟩
      have hp := p2pos (Wn six - len.toNat)
      have hm := Nat.div_add_mod m (2 ^ (Wn six - len.toNat))
      have hm2 := Nat.div_add_mod (m + (2 ^ (Wn six - len'.toNat) - 1)) (2 ^ (Wn six - len.toNat))
      rw [e2] at hm2
      rw [e1] at hm
      have l2 := Nat.mod_lt (m + (2 ^ (Wn six - len'.toNat) - 1)) hp
      omega
    · exact g
  · rintro ⟨h1, h2, h3⟩
    refine ⟨h1, h2, ?_⟩
    obtain ⟨a1, rfl, a3, a4, a5⟩ := h2
    have ht := okP_top h1
    obtain ⟨c0, c1, c2, c3⟩ := id a1
    obtain ⟨d0, d1, d2, d3⟩ := h1
    refine ⟨a1, rfl, ht, by omega, ?_⟩
    unfold hostN at a5 ⊢
    have e1 := (between_div c3).1 ⟨a4, a5⟩
    have hd : 2 ^ (Wn six - len.toNat) = 2 ^ (Wn six - len'.toNat) * 2 ^ (len'.toNat - len.toNat) := by rw [← Nat.pow_add]; congr 1; omega
    have hp := p2pos (Wn six - len'.toNat)
    refine ((between_div (m := m + (2 ^ (Wn six - len'.toNat) - 1)) c3).2 ?_).2
    rw [← e1, hd, ← Nat.div_div_eq_div_mul, ← Nat.div_div_eq_div_mul]
    congr 1
    exact (between_div d3).1 ⟨by omega, Nat.le_refl _⟩
theorem rcovers_ev (six : Bool) {n : Nat} (hn : n < 340282366920938463463374607431768211456) (len : Int) (six' : Bool) {m : Nat} (hm : m < 340282366920938463463374607431768211456) (len' : Int) :
    Ev (fun k => spoorref09_Covers.f k six (hi n) (lo n) len six' (hi m) (lo m) len') (decide (coversP six n len six' m len')) := by
  simp only [spoorref09_Covers.f]
  refine Ev.bind (rcheck_ev six' hm len') ?_
  by_cases h : okP six' m len'
  · rw [if_pos h]
    refine Ev.pos rfl (Ev.bind (rhas_ev six hn len six' hm) ?_)
    by_cases h2 : hasP six n len six' m
    · refine Ev.pos (decide_eq_true h2) (Ev.const ?_)
      congr 1
      rw [decide_eq_decide, covers_iff]
      exact ⟨fun q => ⟨h, h2, q⟩, fun q => q.2.2⟩
    · refine Ev.neg (by rw [decide_eq_false h2]; simp) (Ev.const ?_)
      rw [decide_eq_false (fun q : coversP six n len six' m len' => h2 q.2.1)]
  · rw [if_neg h, decide_eq_false (fun q : coversP six n len six' m len' => h q.1)]
    exact Ev.neg (by decide) (Ev.now _)
theorem rhalves_ev (six : Bool) {n : Nat} (hn : n < 340282366920938463463374607431768211456) (len : Int) : Ev (fun k => spoorref09_Halves.f k six (hi n) (lo n) len)
    (if okP six n len then (if len = Wn six then (false, 0, 0, 0, false, 0, 0, 0, 3) else (six, hi n, lo n, len + 1, six, hi (n + 2 ^ (Wn six - len.toNat - 1)), lo (n + 2 ^ (Wn six - len.toNat - 1)), len + 1, 0)) else (false, 0, 0, 0, false, 0, 0, 0, 2)) := by
  have hw := Wn_le six
  simp only [spoorref09_Halves.f]
  refine Ev.bind (rcheck_ev six hn len) ?_
  by_cases h : okP six n len
  · obtain ⟨h0, h1, h2, h3⟩ := id h
    rw [if_pos h, if_pos h, rwide_is]
    simp only [Option.bind_some]
    refine Ev.pos trivial ?_
    by_cases z : len = ((Wn six : Nat) : Int)
    · rw [if_pos z]
      exact Ev.pos z (Ev.now _)
    · rw [if_neg z]
      refine Ev.neg z (Ev.bind (bits_ev six hn) ?_)
      refine Ev.pos h0 (Ev.pos (by rw [bitsL_len]; omega) ?_)
      have hk : Wn six = len.toNat + (1 + (Wn six - len.toNat - 1)) := by omega
      have hk1 : Wn six - len.toNat = 1 + (Wn six - len.toNat - 1) := by omega
      have hp := p2pos (Wn six - len.toNat - 1)
      have hdd : n % 2 ^ (Wn six - len.toNat - 1) = 0 := by
        have hdv : 2 ^ (Wn six - len.toNat - 1) ∣ n := Nat.dvd_trans ⟨2, by rw [← Nat.pow_succ]; congr 1; omega⟩ (Nat.dvd_of_mod_eq_zero h3)
        exact Nat.mod_eq_zero_of_dvd hdv
      have hset : (bitsL (Wn six) n).set len.toNat 1 = (bitsL len.toNat (n / 2 ^ (Wn six - len.toNat)) ++ [1]) ++ bitsL (Wn six - len.toNat - 1) n := by
        have e : bitsL (Wn six) n = bitsL len.toNat (n / 2 ^ (Wn six - len.toNat)) ++ (bitsL 1 (n / 2 ^ (Wn six - len.toNat - 1)) ++ bitsL (Wn six - len.toNat - 1) n) := by
          rw [← bitsL_split, ← hk1, ← bitsL_split, ← show Wn six = len.toNat + (Wn six - len.toNat) by omega]
        rw [e, List.set_append_right _ _ (by rw [bitsL_len]; exact Nat.le_refl _), bitsL_len, Nat.sub_self]
        simp [bitsL]
      have hq : n / 2 ^ (Wn six - len.toNat) < 2 ^ len.toNat := by
        rw [Nat.div_lt_iff_lt_mul (p2pos _), ← Nat.pow_add, ← show Wn six = len.toNat + (Wn six - len.toNat) by omega]
        exact h2
      have hv : ofL ((bitsL (Wn six) n).set len.toNat 1) = n + 2 ^ (Wn six - len.toNat - 1) := by
        rw [hset, ofL_append, ofL_snoc, ofL_bits, hdd, Nat.mod_eq_of_lt hq]
        have h4 := ok_sum h
        have hk2 : 2 ^ (Wn six - len.toNat) = 2 * 2 ^ (Wn six - len.toNat - 1) := by rw [← Nat.pow_succ']; congr 1; omega
        generalize n / 2 ^ (Wn six - len.toNat) = q at h4 ⊢
        rw [hk2] at h4
        generalize 2 ^ (Wn six - len.toNat - 1) = P at h4 ⊢
        rw [show (1 : Int).toNat = 1 from rfl, Nat.add_mul, ← h4, Nat.mul_left_comm q 2 P, Nat.mul_assoc]
        omega
      have hb : ∀ x ∈ (bitsL (Wn six) n).set len.toNat 1, x = 0 ∨ x = 1 := by
        rw [hset]
        intro x hx
        rcases List.mem_append.1 hx with hx | hx
        · rcases List.mem_append.1 hx with hx | hx
          · exact bitsL_bit _ _ x hx
          · simp at hx; omega
        · exact bitsL_bit _ _ x hx
      have := of_ev ((bitsL (Wn six) n).set len.toNat 1) (by rw [List.length_set, bitsL_len]; exact hw) hb
      rw [hv] at this
      refine Ev.bind this (Ev.const ?_)
      rw [w64 (n := len + 1) (by omega) (by omega)]
  · rw [if_neg h, if_neg h]
    exact Ev.neg (by decide) (Ev.now _)
end Go.Proofs.Ytafclgjnomocdaa.Addr
