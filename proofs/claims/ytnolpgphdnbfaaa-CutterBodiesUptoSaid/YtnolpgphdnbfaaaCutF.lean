/- Both feed as the machine does. -/
import Derived.Test.YtnolpgphdnbfaaaQx8
import Derived.Test.YtnolpgphdnbfaaaQx5
import Derived.Test.YtnolpgphdnbfaaaCutB
namespace Go.Proofs.Ytnolpgphdnbfaaa.Cut
set_option linter.unusedVariables false
open Go.RowKit Go.Proofs.Ytnolpgphdnbfaaa.Q Go.Proofs.YtnolpgphdnbfaaaW.PrintWords Go.Proofs.YtnolpgphdnbfaaaW.PrintLast Go.Proofs.Ytnolpgphdnbfaaa.Base

def told5 (d : (List Int × Bool × Int) × List S38) (o : List S38) : ByteArray × Bool × Int × List S38 × Int := (strOfNums d.1.1, d.1.2.1, d.1.2.2, o ++ d.2, 0)
theorem comes_one (r : List Int) (b : Bool) (s x : Int) : (comesL r b s x).2.length ≤ 1 := by
  unfold comesL
  repeat' split
  all_goals simp
  all_goals (try split) <;> simp
theorem rloop_ev (c : ByteArray) (hc : c.size ≤ 4194304) : ∀ (l : List Int) (i : Nat) (o : List S38) (r : List Int) (b : Bool) (s : Int), (bytesOf c).drop i = l → Keeps r b s → o.length + l.length ≤ 8388608 →
    Ev (fun k => spoorref12_Feed.l0 k c o (i : Int) (strOfNums r) b s) (told5 (feedL r b s l) o)
  | [], i, o, r, b, s, hd, hk, hl => by
    refine Ev.succ ?_
    simp only [spoorref12_Feed.l0]
    have h := drop_nil_le hd
    rw [bytesOf_length] at h
    refine Ev.neg (by omega) (Ev.const ?_)
    simp [told5, feedL]
  | x :: l, i, o, r, b, s, hd, hk, hl => by
    refine Ev.succ ?_
    simp only [spoorref12_Feed.l0]
    have h := drop_lt hd
    have hx : bt c (i : Int) = x := by rw [← rd_bytesOf]; exact rd_drop hd
    rw [bytesOf_length] at h
    have hr := bt_range c (i : Int)
    rw [hx] at hr
    simp only [List.length_cons] at hl
    refine Ev.pos (by omega) (Ev.pos (by omega) ?_)
    rw [hx]
    have hs := hk.short
    refine Ev.bind (rcomes_ev r b s x hk.1 (by omega) hr.1 (by omega) hk.2.1 hk.2.2.1) ?_
    have h1 := comes_one r b s x
    refine Ev.pos (by simp only [told]; omega) ?_
    rw [w64 (by omega) (by omega), show ((i : Int) + 1) = ((i + 1 : Nat) : Int) by omega]
    refine Ev.to (rloop_ev c hc l (i + 1) (o ++ (comesL r b s x).2) _ _ _ (drop_next hd) (hk.comes hr.1 (by omega)) (by simp; omega)) ?_
    simp [told5, told, feedL, List.append_assoc]
def fed (r : List Int) (b : Bool) (s : Int) (l : List Int) : ByteArray × Bool × Int × List S38 × Int := if Right r b s then told5 (feedL r b s l) [] else (⟨#[]⟩, false, 0, [], 2)
theorem rfeed_ev (r : List Int) (b : Bool) (s : Int) (c : ByteArray) (hr : Bytes r) (hl : r.length ≤ 4194304) (hc : c.size ≤ 4194304) : Ev (fun k => spoorref12_Feed.f k (strOfNums r) b s c) (fed r b s (bytesOf c)) := by
  simp only [spoorref12_Feed.f]
  refine Ev.bind (rcheck_ev hr hl b s) ?_
  unfold chk fed
  by_cases h : Right r b s
  · simp only [if_pos h]
    refine Ev.pos trivial ?_
    exact rloop_ev c hc (bytesOf c) 0 [] r b s (by simp) (right_keeps hr h) (by rw [bytesOf_length]; simp; omega)
  · simp only [if_neg h]
    exact Ev.neg (by decide) (Ev.const rfl)
theorem idx_spec {l : List Int} (hl : Bytes l) : (idxByte (strOfNums l) 245 = -1 ∧ ∀ x ∈ l, x ≠ 245) ∨ ∃ p m, l = p ++ 245 :: m ∧ (∀ x ∈ p, x ≠ 245) ∧ idxByte (strOfNums l) 245 = (p.length : Int) := by
  have hp : ∀ i, i < l.length → (((strOfNums l)[i]! == (245 : Int).toNat.toUInt8) = true ↔ rd l (i : Int) = 245) := by
    intro i hi
    have hs : i < (strOfNums l).size := by rw [strOfNums_size]; exact hi
    rw [getElem!_pos (strOfNums l) i hs, ← bt_str hl]
    have h := bt_at (strOfNums l) (i : Int) (by simpa using hs)
    rw [← h]
    simp only [Int.toNat_natCast]
    constructor
    · intro e
      rw [eq_of_beq e]
      rfl
    · intro e
      apply beq_iff_eq.mpr
      apply UInt8.toNat_inj.mp
      have : ((strOfNums l)[i]'hs).toNat = 245 := by omega
      rw [this]
      rfl
  have hrd : ∀ i (hi : i < l.length), rd l (i : Int) = l[i] := fun i hi => by simp [rd, List.getD_eq_getElem?_getD, List.getElem?_eq_getElem hi]
  unfold idxByte firstIdx
  cases hf : (List.range (strOfNums l).size).find? (fun i => (strOfNums l)[i]! == (245 : Int).toNat.toUInt8) with
  | none =>
    refine Or.inl ⟨rfl, ?_⟩
    intro x hx e
    obtain ⟨i, hi, rfl⟩ := List.getElem_of_mem hx
    have := List.find?_eq_none.1 hf i (by rw [strOfNums_size]; exact List.mem_range.2 hi)
    exact this ((hp i hi).2 (by rw [hrd i hi]; exact e))
  | some i =>
    obtain ⟨h1, h2, h3⟩ := List.find?_range_eq_some.1 hf
    rw [strOfNums_size] at h2
    have hi := List.mem_range.1 h2
    refine Or.inr ⟨l.take i, l.drop (i + 1), ?_, ?_, ?_⟩
    · have e := (hp i hi).1 h1
      rw [hrd i hi] at e
      rw [← e, ← List.drop_eq_getElem_cons hi, List.take_append_drop]
    · intro x hx e
      obtain ⟨j, hj, rfl⟩ := List.getElem_of_mem hx
      have hj' : j < i := by simp at hj; omega
      have := h3 j hj'
      rw [List.getElem_take] at e
      rw [(hp j (by omega)).2 (by rw [hrd j (by omega)]; exact e)] at this
      cases this
    · show ((i : Nat) : Int) = _
      simp
      omega
theorem feed_two (b : Bool) (t : List Int) (h : t.length < 2) : feedL [] b 0 (245 :: t) = ((245 :: t, false, 0), []) := by
  match t, h with
  | [], _ => simp only [feedL, comes_begin]; rfl
  | [y], _ => simp only [feedL, comes_begin, comes_second]; rfl
theorem exit_ev (x0 : ByteArray) (b : Bool) (k : Int) (o : List S38) (h0 : 0 ≤ k) (h1 : k ≤ 65535) (ho : (o.length + 1) * 24 ≤ 140737488355328) : Ev (fun n => cutter_Feed.l0 n x0 b k ⟨#[]⟩ o) (x0, b, k, o, 0) := by
  refine Ev.succ ?_
  simp only [cutter_Feed.l0]
  have hz : (⟨#[]⟩ : ByteArray).size = 0 := rfl
  exact Ev.neg (fun h => h ⟨by omega, h0, by omega, ho⟩) (Ev.pos hz (Ev.const rfl))
theorem cl0_ev : ∀ (N : Nat) (l : List Int) (o : List S38) (b : Bool) (k : Int), l.length ≤ N → Bytes l → 0 ≤ k → k ≤ 65535 → o.length + l.length ≤ 16777216 → l.length ≤ 8388608 →
    Ev (fun n => cutter_Feed.l0 n ⟨#[]⟩ b k (strOfNums l) o) (told5 (feedL [] b k l) o)
  | 0, l, o, b, k, hN, hb, h0, h1, ho, hl => by
    obtain rfl : l = [] := List.length_eq_zero_iff.1 (by omega)
    refine Ev.to (exit_ev _ b k o h0 h1 (by omega)) ?_
    simp [told5, feedL, str_nil]
  | N + 1, l, o, b, k, hN, hb, h0, h1, ho, hl => by
    by_cases hn : l = []
    · subst hn
      refine Ev.to (exit_ev _ b k o h0 h1 (by omega)) ?_
      simp [told5, feedL, str_nil]
    have hp : 0 < l.length := List.length_pos_iff.mpr hn
    refine Ev.succ ?_
    simp only [cutter_Feed.l0, strOfNums_size, bt_str hb]
    refine Ev.neg (fun h => h ⟨by omega, h0, by omega, by omega⟩) (Ev.neg (by omega) ?_)
    have dr : ∀ m, (strOfNums l).extract m l.length = strOfNums (l.drop m) := fun m => by
      have := str_from (strOfNums l) m
      rw [strOfNums_size, bytes_str hb] at this
      exact this
    by_cases hk : k > 0
    · refine Ev.pos hk ?_
      simp only [dr]
      have hm : min l.length k.toNat ≤ l.length := Nat.min_le_left _ _
      have hm1 : 1 ≤ min l.length k.toNat := by omega
      have hmk : ((min l.length k.toNat : Nat) : Int) ≤ k := by omega
      generalize min l.length k.toNat = m at hm hm1 hmk
      refine Ev.to (cl0_ev N (l.drop m) o b (k - m) (by simp; omega) (hb.drop m) (by omega) (by omega) (by simp; omega) (by simp; omega)) ?_
      have e := feed_skip [] b (l.take m) (l.drop m) k (by simp; omega)
      rw [List.take_append_drop] at e
      rw [e]
      simp [Nat.min_eq_left hm]
    · obtain rfl : k = 0 := by omega
      refine Ev.neg hk ?_
      by_cases h245 : rd l 0 ≠ 245
      · refine Ev.pos h245 ?_
        rcases idx_spec hb with ⟨hi, hall⟩ | ⟨p, m, he, hall, hi⟩
        · simp only [hi, if_pos (show (-1 : Int) < 0 by decide), show decide ((-1 : Int) < 0) = true from rfl]
          refine Ev.pos ⟨by decide, by omega⟩ ?_
          refine Ev.to (exit_ev _ true 0 (if b = true then o else o ++ [⟨2, ⟨#[]⟩⟩]) (by decide) (by decide) (by cases b <;> simp <;> omega)) ?_
          have e := feed_bad l [] b hn hall
          rw [List.append_nil] at e
          rw [e]
          cases b <;> simp [told5, feedL, str_nil]
        · have hpn : p ≠ [] := by
            rintro rfl
            subst he
            exact h245 rfl
          have hpl : 0 < p.length := List.length_pos_iff.mpr hpn
          have hll : l.length = p.length + (m.length + 1) := by rw [he]; simp
          simp only [hi]
          refine Ev.pos ⟨by omega, by omega⟩ ?_
          have hneg : ¬ (p.length : Int) < 0 := by omega
          have hdrop : l.drop p.length = 245 :: m := by rw [he]; simp
          simp only [if_neg hneg, Int.toNat_natCast, dr, hdrop, decide_eq_false hneg]
          refine Ev.to (cl0_ev N (245 :: m) (if b = true then o else o ++ [⟨2, ⟨#[]⟩⟩]) false 0 (by simp; omega) (by rw [← hdrop]; exact hb.drop _) (by decide) (by decide) (by cases b <;> simp <;> omega) (by simp; omega)) ?_
          rw [he, feed_bad p (245 :: m) b hpn hall, feed_begin true false]
          cases b <;> simp [told5]
      · have h245' : rd l 0 = 245 := Classical.not_not.mp h245
        refine Ev.neg h245 ?_
        obtain ⟨x, t, rfl⟩ : ∃ x t, l = x :: t := by cases l with | nil => exact absurd rfl hn | cons x t => exact ⟨x, t, rfl⟩
        obtain rfl : x = 245 := by simpa [rd] using h245'
        by_cases h3 : ((245 :: t : List Int).length : Int) < 3
        · refine Ev.pos h3 ?_
          refine Ev.to (exit_ev _ false 0 o (by decide) (by decide) (by omega)) ?_
          rw [feed_two b t (by simp at h3; omega)]
          simp [told5]
        · refine Ev.neg h3 ?_
          obtain ⟨y, z, m, rfl⟩ : ∃ y z m, t = y :: z :: m := by
            match t, h3 with
            | [], h => simp at h
            | [y], h => simp at h
            | y :: z :: m, _ => exact ⟨y, z, m, rfl⟩
          have hL := lenL_range hb
          rw [long_eq hb (by simp), lenL_three] 
          rw [lenL_three] at hL
          simp only [Option.bind_some, fit_eq]
          by_cases hf : 1 ≤ 256 * y + z ∧ 256 * y + z ≤ 64
          · refine Ev.neg (by simpa using hf) ?_
            by_cases hs : ((245 :: y :: z :: m : List Int).length : Int) - 3 < 256 * y + z
            · refine Ev.pos hs ?_
              refine Ev.to (exit_ev _ false 0 o (by decide) (by decide) (by omega)) ?_
              rw [feed_short b y z hf.1 hf.2 m (by simp at hs; omega)]
              simp [told5]
            · refine Ev.neg hs (Ev.pos (by omega) ?_)
              obtain ⟨n, hn'⟩ : ∃ n : Nat, 256 * y + z = (n : Int) := ⟨(256 * y + z).toNat, by omega⟩
              have hnm : n ≤ m.length := by simp at hs; omega
              have ex : (strOfNums (245 :: y :: z :: m)).extract 3 (3 + (256 * y + z)).toNat = strOfNums (m.take n) := by
                rw [str_part, bytes_str hb, show (3 + (256 * y + z)).toNat = n + 3 by omega]
                rfl
              have dx : (245 :: y :: z :: m : List Int).drop (3 + (256 * y + z)).toNat = m.drop n := by
                rw [show (3 + (256 * y + z)).toNat = n + 3 by omega]
                rfl
              simp only [dr, ex, dx]
              refine Ev.to (cl0_ev N (m.drop n) (o ++ [⟨1, strOfNums (m.take n)⟩]) false 0 (by simp at hN ⊢; omega) (by rw [← dx]; exact hb.drop _) (by decide) (by decide) (by simp at ho ⊢; omega) (by simp at hl ⊢; omega)) ?_
              have e := feed_message b y z hf.1 hf.2 (m.take n) (m.drop n) (by rw [List.length_take, Nat.min_eq_left hnm]; omega)
              rw [List.take_append_drop] at e
              rw [e]
              simp [told5]
          · refine Ev.pos (by simpa using hf) ?_
            simp only [dr]
            have d3 : (245 :: y :: z :: m : List Int).drop 3 = m := rfl
            rw [d3]
            refine Ev.to (cl0_ev N m (o ++ [⟨3, ⟨#[]⟩⟩]) false (256 * y + z) (by simp at hN ⊢; omega) (by rw [← d3]; exact hb.drop _) (by omega) (by omega) (by simp at ho ⊢; omega) (by simp at hl ⊢; omega)) ?_
            rw [feed_long b y z (by omega) m]
            simp [told5]
end Go.Proofs.Ytnolpgphdnbfaaa.Cut
