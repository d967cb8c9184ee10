/- The machine that cuts a stream, byte by byte. -/
import Derived.Test.YtnolpgphdnbfaaaQx5
import Derived.Test.YtnolpgphdnbfaaaQx7
import Derived.Test.YtnolpgphdnbfaaaBase
namespace Go.Proofs.Ytnolpgphdnbfaaa.Cut
set_option linter.unusedVariables false
open Go.RowKit Go.Proofs.Ytnolpgphdnbfaaa.Q Go.Proofs.YtnolpgphdnbfaaaW.PrintWords Go.Proofs.YtnolpgphdnbfaaaW.PrintLast Go.Proofs.Ytnolpgphdnbfaaa.Base

def lenL (q : List Int) : Int := 256 * rd q 1 + rd q 2
def comesL (r : List Int) (b : Bool) (s x : Int) : (List Int × Bool × Int) × List S38 :=
  if 0 < s then ((r, b, s - 1), [])
  else if r = [] ∧ x ≠ 245 then ((r, true, s), if b then [] else [⟨2, ⟨#[]⟩⟩])
  else if (r ++ [x]).length < 3 then ((r ++ [x], false, s), [])
  else if lenL (r ++ [x]) < 1 ∨ 64 < lenL (r ++ [x]) then (([], false, lenL (r ++ [x])), [⟨3, ⟨#[]⟩⟩])
  else if ((r ++ [x]).length : Int) = 3 + lenL (r ++ [x]) then (([], false, 0), [⟨1, strOfNums ((r ++ [x]).drop 3)⟩])
  else ((r ++ [x], false, s), [])
def feedL : List Int → Bool → Int → List Int → (List Int × Bool × Int) × List S38
  | r, b, s, [] => ((r, b, s), [])
  | r, b, s, x :: l => ((feedL (comesL r b s x).1.1 (comesL r b s x).1.2.1 (comesL r b s x).1.2.2 l).1, (comesL r b s x).2 ++ (feedL (comesL r b s x).1.1 (comesL r b s x).1.2.1 (comesL r b s x).1.2.2 l).2)
theorem feed_app (m : List Int) : ∀ (l r : List Int) (b : Bool) (s : Int), feedL r b s (l ++ m) = ((feedL (feedL r b s l).1.1 (feedL r b s l).1.2.1 (feedL r b s l).1.2.2 m).1, (feedL r b s l).2 ++ (feedL (feedL r b s l).1.1 (feedL r b s l).1.2.1 (feedL r b s l).1.2.2 m).2)
  | [], r, b, s => by simp [feedL]
  | x :: l, r, b, s => by
    simp only [List.cons_append, feedL]
    rw [feed_app m l]
    simp [List.append_assoc]
/-- Bytes that are skipped. -/
theorem feed_skip (r : List Int) (b : Bool) : ∀ (p m : List Int) (s : Int), (p.length : Int) ≤ s → feedL r b s (p ++ m) = feedL r b (s - p.length) m
  | [], m, s, h => by simp
  | x :: p, m, s, h => by
    simp only [List.length_cons] at h
    have hc : comesL r b s x = ((r, b, s - 1), []) := by unfold comesL; rw [if_pos (by omega)]
    simp only [List.cons_append, feedL, hc]
    rw [feed_skip r b p m (s - 1) (by omega)]
    simp only [List.length_cons, List.nil_append]
    rw [show s - 1 - (p.length : Int) = s - ((p.length + 1 : Nat) : Int) by omega]
/-- Bytes that are no beginning. -/
theorem feed_bad : ∀ (p m : List Int) (b : Bool), p ≠ [] → (∀ x ∈ p, x ≠ 245) → feedL [] b 0 (p ++ m) = ((feedL [] true 0 m).1, (if b then [] else [⟨2, ⟨#[]⟩⟩]) ++ (feedL [] true 0 m).2)
  | [], _, _, h, _ => absurd rfl h
  | x :: p, m, b, _, h => by
    have hx : x ≠ 245 := h x (by simp)
    have hc : comesL [] b 0 x = (([], true, 0), if b then [] else [⟨2, ⟨#[]⟩⟩]) := by unfold comesL; rw [if_neg (by omega), if_pos ⟨rfl, hx⟩]
    simp only [List.cons_append, feedL, hc]
    by_cases hp : p = []
    · subst hp
      rfl
    · rw [feed_bad p m true hp (fun y hy => h y (by simp [hy]))]
      simp
theorem comes_begin (b : Bool) : comesL [] b 0 245 = (([245], false, 0), []) := by
  unfold comesL
  rw [if_neg (by omega), if_neg (by simp), if_pos (by simp)]
  rfl
theorem feed_begin (b b' : Bool) (m : List Int) : feedL [] b 0 (245 :: m) = feedL [] b' 0 (245 :: m) := by
  simp only [feedL, comes_begin]
theorem comes_second (y : Int) : comesL [245] false 0 y = (([245, y], false, 0), []) := by
  unfold comesL
  rw [if_neg (by omega), if_neg (by simp), if_pos (by simp)]
  rfl
theorem lenL_three (x y z : Int) (m : List Int) : lenL (x :: y :: z :: m) = 256 * y + z := by
  simp [lenL, rd]
theorem comes_third_long (y z : Int) (h : 256 * y + z < 1 ∨ 64 < 256 * y + z) : comesL [245, y] false 0 z = (([], false, 256 * y + z), [⟨3, ⟨#[]⟩⟩]) := by
  unfold comesL
  have e : ([245, y] ++ [z] : List Int) = [245, y, z] := rfl
  rw [if_neg (by omega), if_neg (by simp), e, lenL_three, if_neg (by simp), if_pos h]
theorem comes_more (q : List Int) (x n : Int) (hq : q ≠ []) (h3 : 3 ≤ (q ++ [x]).length) (hn : lenL (q ++ [x]) = n) (h1 : 1 ≤ n) (h2 : n ≤ 64) (hl : ((q ++ [x]).length : Int) < 3 + n) : comesL q false 0 x = ((q ++ [x], false, 0), []) := by
  unfold comesL
  rw [if_neg (by omega), if_neg (fun h => hq h.1), if_neg (by omega), hn, if_neg (by omega), if_neg (by omega)]
theorem comes_last (q : List Int) (x n : Int) (hq : q ≠ []) (h3 : 3 ≤ (q ++ [x]).length) (hn : lenL (q ++ [x]) = n) (h1 : 1 ≤ n) (h2 : n ≤ 64) (hl : ((q ++ [x]).length : Int) = 3 + n) : comesL q false 0 x = (([], false, 0), [⟨1, strOfNums ((q ++ [x]).drop 3)⟩]) := by
  unfold comesL
  rw [if_neg (by omega), if_neg (fun h => hq h.1), if_neg (by omega), hn, if_neg (by omega), if_pos hl]
theorem feed_more (y z : Int) (h1 : 1 ≤ 256 * y + z) (h2 : 256 * y + z ≤ 64) : ∀ (m q : List Int), (((245 :: y :: z :: q) ++ m).length : Int) < 3 + (256 * y + z) → feedL (245 :: y :: z :: q) false 0 m = (((245 :: y :: z :: q) ++ m, false, 0), [])
  | [], q, _ => by simp [feedL]
  | x :: m, q, h => by
    have hc := comes_more (245 :: y :: z :: q) x (256 * y + z) (by simp) (by simp) (by simp only [List.cons_append]; exact lenL_three _ _ _ _) h1 h2 (by simp at h ⊢; omega)
    simp only [feedL, hc]
    have := feed_more y z h1 h2 m (q ++ [x]) (by simp at h ⊢; omega)
    simp only [List.cons_append, List.append_assoc, List.nil_append] at this ⊢
    rw [this]
theorem feed_body (y z : Int) (h1 : 1 ≤ 256 * y + z) (h2 : 256 * y + z ≤ 64) : ∀ (m q r : List Int), m ≠ [] → (((245 :: y :: z :: q) ++ m).length : Int) = 3 + (256 * y + z) → feedL (245 :: y :: z :: q) false 0 (m ++ r) = ((feedL [] false 0 r).1, ⟨1, strOfNums (q ++ m)⟩ :: (feedL [] false 0 r).2)
  | [], _, _, h, _ => absurd rfl h
  | x :: m, q, r, _, h => by
    by_cases hm : m = []
    · subst hm
      have hc := comes_last (245 :: y :: z :: q) x (256 * y + z) (by simp) (by simp) (by simp only [List.cons_append]; exact lenL_three _ _ _ _) h1 h2 (by simp at h ⊢; omega)
      simp only [List.cons_append, List.nil_append, feedL, hc]
      simp
    · have hl : 0 < m.length := List.length_pos_iff.mpr hm
      have hc := comes_more (245 :: y :: z :: q) x (256 * y + z) (by simp) (by simp) (by simp only [List.cons_append]; exact lenL_three _ _ _ _) h1 h2 (by simp at h ⊢; omega)
      simp only [List.cons_append, feedL, hc]
      have := feed_body y z h1 h2 m (q ++ [x]) r hm (by simp at h ⊢; omega)
      simp only [List.cons_append, List.append_assoc, List.nil_append] at this ⊢
      rw [this]
/-- A whole message. -/
theorem feed_message (b : Bool) (y z : Int) (h1 : 1 ≤ 256 * y + z) (h2 : 256 * y + z ≤ 64) (m r : List Int) (h : (m.length : Int) = 256 * y + z) : feedL [] b 0 (245 :: y :: z :: (m ++ r)) = ((feedL [] false 0 r).1, ⟨1, strOfNums m⟩ :: (feedL [] false 0 r).2) := by
  have h3 : comesL [245, y] false 0 z = (([245, y, z], false, 0), []) := comes_more [245, y] z (256 * y + z) (by simp) (by simp) (lenL_three _ _ _ _) h1 h2 (by simp; omega)
  simp only [feedL, comes_begin, comes_second, h3, List.nil_append]
  have hm : m ≠ [] := fun e => by subst e; simp at h; omega
  have := feed_body y z h1 h2 m [] r hm (by simp; omega)
  rw [this]
  rfl
theorem feed_short (b : Bool) (y z : Int) (h1 : 1 ≤ 256 * y + z) (h2 : 256 * y + z ≤ 64) (m : List Int) (h : (m.length : Int) < 256 * y + z) : feedL [] b 0 (245 :: y :: z :: m) = ((245 :: y :: z :: m, false, 0), []) := by
  have h3 : comesL [245, y] false 0 z = (([245, y, z], false, 0), []) := comes_more [245, y] z (256 * y + z) (by simp) (by simp) (lenL_three _ _ _ _) h1 h2 (by simp; omega)
  simp only [feedL, comes_begin, comes_second, h3, List.nil_append]
  have := feed_more y z h1 h2 m [] (by simp; omega)
  rw [this]
  rfl
theorem feed_long (b : Bool) (y z : Int) (h : 256 * y + z < 1 ∨ 64 < 256 * y + z) (m : List Int) : feedL [] b 0 (245 :: y :: z :: m) = ((feedL [] false (256 * y + z) m).1, ⟨3, ⟨#[]⟩⟩ :: (feedL [] false (256 * y + z) m).2) := by
  simp only [feedL, comes_begin, comes_second, comes_third_long y z h, List.nil_append]
  rfl
end Go.Proofs.Ytnolpgphdnbfaaa.Cut
