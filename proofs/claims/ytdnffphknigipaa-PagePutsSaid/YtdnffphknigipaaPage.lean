/- Chapter 5: pages as lists of numbers. -/
import Derived.Test.YtdnffphknigipaaQx2
import Derived.Test.YtdnffphknigipaaQx5
import Derived.Test.YtdnffphknigipaaBase
namespace Go.Proofs.Ytdnffphknigipaa.Page
set_option linter.unusedVariables false
open Go.RowKit Go.Proofs.Ytdnffphknigipaa.Q Go.Proofs.YtdnffphknigipaaW.PrintWords Go.Proofs.YtdnffphknigipaaW.PrintLast Go.Proofs.Ytdnffphknigipaa.Base

theorem w8_of (x0 x1 x2 x3 x4 x5 x6 x7 : Int) (h0 : 0 ≤ x0 ∧ x0 ≤ 255) (h1 : 0 ≤ x1 ∧ x1 ≤ 255) (h2 : 0 ≤ x2 ∧ x2 ≤ 255) (h3 : 0 ≤ x3 ∧ x3 ≤ 255) (h4 : 0 ≤ x4 ∧ x4 ≤ 255) (h5 : 0 ≤ x5 ∧ x5 ≤ 255) (h6 : 0 ≤ x6 ∧ x6 ≤ 255) (h7 : 0 ≤ x7 ∧ x7 ≤ 255) :
    w8 (256 * (256 * (256 * (256 * (256 * (256 * (256 * (256 * 0 + x0) + x1) + x2) + x3) + x4) + x5) + x6) + x7) = [x0, x1, x2, x3, x4, x5, x6, x7] := by
  unfold w8
  simp only [List.cons.injEq, and_true]
  refine ⟨?_, ?_, ?_, ?_, ?_, ?_, ?_, ?_⟩ <;> omega
theorem list8 (l : List Int) (h : l.length = 8) : ∃ x0 x1 x2 x3 x4 x5 x6 x7, l = [x0, x1, x2, x3, x4, x5, x6, x7] := by
  match l, h with
  | [x0, x1, x2, x3, x4, x5, x6, x7], _ => exact ⟨x0, x1, x2, x3, x4, x5, x6, x7, rfl⟩
theorem w8_num (s : ByteArray) (hs : 8 ≤ s.size) : w8 (numUp s 8) = (bytesOf s).take 8 := by
  have e : (bytesOf s).take 8 = [bt s 0, bt s 1, bt s 2, bt s 3, bt s 4, bt s 5, bt s 6, bt s 7] := by
    apply List.ext_getElem
    · simp [bytesOf_length]; omega
    · intro i h1 h2
      have hi : i < 8 := by simpa using h2
      have hb : i < s.size := by omega
      have hr : (bytesOf s)[i]'(by rw [bytesOf_length]; exact hb) = bt s (i : Int) := by
        rw [← rd_bytesOf]
        simp [rd, List.getD_eq_getElem?_getD, List.getElem?_eq_getElem (show i < (bytesOf s).length by rw [bytesOf_length]; exact hb)]
      rw [List.getElem_take, hr]
      have : i = 0 ∨ i = 1 ∨ i = 2 ∨ i = 3 ∨ i = 4 ∨ i = 5 ∨ i = 6 ∨ i = 7 := by omega
      rcases this with rfl | rfl | rfl | rfl | rfl | rfl | rfl | rfl <;> rfl
  rw [e]
  exact w8_of _ _ _ _ _ _ _ _ (bt_range s 0) (bt_range s 1) (bt_range s 2) (bt_range s 3) (bt_range s 4) (bt_range s 5) (bt_range s 6) (bt_range s 7)
theorem w8_inj {n m : Int} (hn : 0 ≤ n) (hn1 : n < 18446744073709551616) (hm : 0 ≤ m) (hm1 : m < 18446744073709551616) (h : w8 n = w8 m) : n = m := by
  unfold w8 at h
  simp only [List.cons.injEq, and_true] at h
  omega
theorem w8_bytes (n : Int) : Bytes (w8 n) := by
  intro x hx
  simp only [w8, List.mem_cons, List.not_mem_nil, or_false] at hx
  omega
theorem w8_length (n : Int) : (w8 n).length = 8 := rfl
theorem num_range (s : ByteArray) : 0 ≤ numUp s 8 ∧ numUp s 8 < 18446744073709551616 := by
  have h := numUp_bound s 8
  exact ⟨h.1, by have := h.2; omega⟩
theorem bytes_rev {l : List Int} (h : Bytes l) : Bytes l.reverse := fun x hx => h x (List.mem_reverse.1 hx)
theorem bytes_zeros (n : Nat) : Bytes (List.replicate n 0) := fun x hx => by
  rw [(List.mem_replicate.1 hx).2]
  omega
theorem page_list_bytes (a : Int) (d : ByteArray) (hd : d.size ≤ 111) : Bytes (page_bytes a d) :=
  (w8_bytes a).append ((Bytes.nil.cons (by omega) (by omega)).append ((bytesOf_bytes d).append ((bytes_zeros _).append (bytes_rev (w8_bytes a)))))
theorem page_length (a : Int) (d : ByteArray) (hd : d.size ≤ 111) : (page_bytes a d).length = 128 := by
  simp [page_bytes, bytesOf_length, w8_length]
  omega
/-- A page. -/
def pageOf (a : Int) (d : ByteArray) : ByteArray := strOfNums (page_bytes a d)
theorem pageOf_bytes (a : Int) (d : ByteArray) (hd : d.size ≤ 111) : bytesOf (pageOf a d) = page_bytes a d := bytes_str (page_list_bytes a d hd)
theorem pageOf_size (a : Int) (d : ByteArray) (hd : d.size ≤ 111) : (pageOf a d).size = 128 := by rw [← bytesOf_length, pageOf_bytes a d hd, page_length a d hd]
theorem page_head (a : Int) (d : ByteArray) : (page_bytes a d).take 8 = w8 a := by
  unfold page_bytes
  rw [List.take_append_of_le_length (by rw [w8_length]; omega), List.take_of_length_le (by rw [w8_length]; omega)]
theorem page_tail (a : Int) (d : ByteArray) (hd : d.size ≤ 111) : (page_bytes a d).drop 120 = (w8 a).reverse := by
  unfold page_bytes
  rw [← List.append_assoc, ← List.append_assoc, ← List.append_assoc]
  rw [List.drop_append_of_le_length (by simp [w8_length, bytesOf_length]; omega), List.drop_eq_nil_of_le (by simp [w8_length, bytesOf_length]; omega)]
  rfl
/-- A list of 128 numbers in its parts. -/
theorem parts (L : List Int) (hL : L.length = 128) (m : Nat) (hm : m ≤ 111) : L = L.take 8 ++ ([rd L 8] ++ (((L.take (9 + m)).drop 9) ++ (((L.take 120).drop (9 + m)) ++ L.drop 120))) := by
  have h1 : L.drop 8 = rd L 8 :: L.drop 9 := by
    rw [List.drop_eq_getElem_cons (by omega)]
    congr 1
    simp [rd, List.getD_eq_getElem?_getD, List.getElem?_eq_getElem (show 8 < L.length by omega)]
  have h2 : L.drop 9 = (L.take (9 + m)).drop 9 ++ L.drop (9 + m) := by
    rw [List.drop_take]
    have := (List.take_append_drop (9 + m - 9) (L.drop 9)).symm
    rw [List.drop_drop] at this
    rw [show 9 + m - 9 = m by omega] at this ⊢
    exact this
  have h3 : L.drop (9 + m) = (L.take 120).drop (9 + m) ++ L.drop 120 := by
    rw [List.drop_take]
    have := (List.take_append_drop (120 - (9 + m)) (L.drop (9 + m))).symm
    rw [List.drop_drop, show 9 + m + (120 - (9 + m)) = 120 by omega] at this
    exact this
  conv => lhs; rw [← List.take_append_drop 8 L, h1, h2, h3]
  rfl

/-- What a sector's tag is. -/
def tagOf (s : ByteArray) : Int × Int :=
  if s.size ≠ 128 then (0, 11) else if numUp s 8 = 0 then (0, 3) else if (bytesOf s).drop 120 ≠ ((bytesOf s).take 8).reverse then (0, 3) else (numUp s 8, 0)
theorem tag_eq (s : ByteArray) : page_Tag.f s = some (tagOf s) := by
  unfold page_Tag.f tagOf
  by_cases h1 : s.size ≠ 128
  · rw [if_pos (by omega), if_pos h1]
  · rw [if_neg (by omega), if_neg h1]
    by_cases h2 : numUp s 8 = 0
    · rw [if_pos h2, if_pos h2]
    · rw [if_neg h2, if_neg h2, w8_num s (by omega)]
      have e : (s.extract 120 s.size ≠ strOfNums ((bytesOf s).take 8).reverse) ↔ ((bytesOf s).drop 120 ≠ ((bytesOf s).take 8).reverse) := by
        rw [str_from]
        constructor
        · intro h e
          exact h (by rw [e])
        · intro h e
          exact h (str_inj ((bytesOf_bytes s).drop 120) (bytes_rev ((bytesOf_bytes s).take 8)) e)
      by_cases h3 : (bytesOf s).drop 120 ≠ ((bytesOf s).take 8).reverse
      · rw [if_pos (e.2 h3), if_pos h3]
      · rw [if_neg (fun h => h3 (e.1 h)), if_neg h3]
theorem tag_ok {s : ByteArray} {n : Int} (h : tagOf s = (n, 0)) : s.size = 128 ∧ n ≠ 0 ∧ 0 ≤ n ∧ n < 18446744073709551616 ∧ (bytesOf s).take 8 = w8 n ∧ (bytesOf s).drop 120 = (w8 n).reverse := by
  unfold tagOf at h
  by_cases h1 : s.size ≠ 128
  · rw [if_pos h1] at h; simp at h
  · rw [if_neg h1] at h
    by_cases h2 : numUp s 8 = 0
    · rw [if_pos h2] at h; simp at h
    · rw [if_neg h2] at h
      by_cases h3 : (bytesOf s).drop 120 ≠ ((bytesOf s).take 8).reverse
      · rw [if_pos h3] at h; simp at h
      · rw [if_neg h3] at h
        obtain rfl : numUp s 8 = n := (Prod.mk.inj h).1
        have hw := w8_num s (by omega)
        exact ⟨by omega, h2, (num_range s).1, (num_range s).2, hw.symm, by rw [hw]; exact Classical.not_not.mp h3⟩
theorem tag_mk {s : ByteArray} {n : Int} (hs : s.size = 128) (h0 : n ≠ 0) (h1 : 0 ≤ n) (h2 : n < 18446744073709551616) (hh : (bytesOf s).take 8 = w8 n) (ht : (bytesOf s).drop 120 = (w8 n).reverse) : tagOf s = (n, 0) := by
  have hn : numUp s 8 = n := w8_inj (num_range s).1 (num_range s).2 h1 h2 (by rw [w8_num s (by omega), hh])
  unfold tagOf
  rw [if_neg (by omega), hn, if_neg h0, if_neg (by rw [ht, hh]; exact fun h => h rfl)]
theorem tag_bad {s : ByteArray} (h : (tagOf s).2 ≠ 0) : (tagOf s).2 = 11 ∨ (tagOf s).2 = 3 := by
  unfold tagOf at h ⊢
  split
  · exact .inl rfl
  · split
    · exact .inr rfl
    · split
      · exact .inr rfl
      · rename_i h1 h2 h3
        rw [if_neg h1, if_neg h2, if_neg h3] at h
        exact absurd rfl h
theorem tag_page {a : Int} (h0 : a ≠ 0) (h1 : 0 ≤ a) (h2 : a < 18446744073709551616) (d : ByteArray) (hd : d.size ≤ 111) : tagOf (pageOf a d) = (a, 0) :=
  tag_mk (pageOf_size a d hd) h0 h1 h2 (by rw [pageOf_bytes a d hd, page_head]) (by rw [pageOf_bytes a d hd, page_tail a d hd])
/-- What is read of a sector by a tag. -/
def getOf (s : ByteArray) (t : Int) : ByteArray × Int :=
  if (tagOf s).2 ≠ 0 then (⟨#[]⟩, (tagOf s).2) else if (tagOf s).1 ≠ t then (⟨#[]⟩, 3) else if bt s 8 > 111 then (⟨#[]⟩, 7)
  else if ((bytesOf s).take 120).drop (9 + (bt s 8).toNat) = List.replicate (111 - (bt s 8).toNat) 0 then (s.extract 9 (9 + (bt s 8).toNat), 0) else (⟨#[]⟩, 7)
theorem get_ok {s d : ByteArray} {t : Int} (h : getOf s t = (d, 0)) : tagOf s = (t, 0) ∧ d.size ≤ 111 ∧ pageOf t d = s := by
  unfold getOf at h
  by_cases h1 : (tagOf s).2 ≠ 0
  · rw [if_pos h1] at h
    exact absurd (Prod.mk.inj h).2 h1
  · rw [if_neg h1] at h
    by_cases h2 : (tagOf s).1 ≠ t
    · rw [if_pos h2] at h; simp at h
    · rw [if_neg h2] at h
      by_cases h3 : bt s 8 > 111
      · rw [if_pos h3] at h; simp at h
      · rw [if_neg h3] at h
        by_cases h4 : ((bytesOf s).take 120).drop (9 + (bt s 8).toNat) = List.replicate (111 - (bt s 8).toNat) 0
        · rw [if_pos h4] at h
          have ht : tagOf s = (t, 0) := Prod.ext (Classical.not_not.mp h2) (Classical.not_not.mp h1)
          obtain ⟨hs, _, _, _, hh, hl⟩ := tag_ok ht
          obtain rfl := (Prod.mk.inj h).1
          have hb := bt_range s 8
          have hsz : (s.extract 9 (9 + (bt s 8).toNat)).size = (bt s 8).toNat := by simp; omega
          refine ⟨ht, by omega, ?_⟩
          refine bytes_inj ?_
          rw [pageOf_bytes _ _ (by omega)]
          have hp := parts (bytesOf s) (by rw [bytesOf_length, hs]) (bt s 8).toNat (by omega)
          rw [hp, hh, hl, h4, page_bytes, hsz, bytes_extract, rd_bytesOf]
          simp only [Int.toNat_of_nonneg hb.1]
        · rw [if_neg h4] at h; simp at h
theorem get_page {t : Int} (h0 : t ≠ 0) (h1 : 0 ≤ t) (h2 : t < 18446744073709551616) (d : ByteArray) (hd : d.size ≤ 111) : getOf (pageOf t d) t = (d, 0) := by
  have ht := tag_page h0 h1 h2 d hd
  have hbs := pageOf_bytes t d hd
  have hb8 : bt (pageOf t d) 8 = d.size := by
    rw [bt_of hbs 8]
    simp [rd, page_bytes, w8]
  unfold getOf
  rw [ht, if_neg (by simp), if_neg (by simp), hb8, if_neg (by omega), hbs]
  have hx : page_bytes t d = (w8 t ++ ([(d.size : Int)] ++ bytesOf d)) ++ (List.replicate (111 - d.size) 0 ++ (w8 t).reverse) := by simp [page_bytes]
  have hxl : (w8 t ++ ([(d.size : Int)] ++ bytesOf d)).length = 9 + d.size := by simp [w8_length, bytesOf_length]; omega
  have e1 : ((page_bytes t d).take 120).drop (9 + (d.size : Int).toNat) = List.replicate (111 - (d.size : Int).toNat) 0 := by
    rw [hx, Int.toNat_natCast, List.drop_take, List.drop_append_of_le_length (by omega), List.drop_eq_nil_of_le (by omega), List.nil_append, List.take_append_of_le_length (by simp; omega), List.take_of_length_le (by simp; omega)]
  rw [if_pos e1]
  congr 1
  refine bytes_inj ?_
  rw [bytes_extract, hbs, hx, Int.toNat_natCast, List.take_append_of_le_length (by omega), List.take_of_length_le (by omega)]
  rfl
theorem get_bad {s : ByteArray} {t : Int} (h : (getOf s t).2 ≠ 0) : (getOf s t).1 = ⟨#[]⟩ := by
  unfold getOf at h ⊢
  split
  · rfl
  · split
    · rfl
    · split
      · rfl
      · split
        · rename_i h1 h2 h3 h4
          rw [if_neg h1, if_neg h2, if_neg h3, if_pos h4] at h
          exact absurd rfl h
        · rfl
theorem get_other {s : ByteArray} {t o : Int} (h : tagOf s = (t, 0)) (ho : o ≠ t) : (getOf s o).2 = 3 := by
  unfold getOf
  rw [h, if_neg (by simp), if_pos (fun e => ho e.symm)]
/-- What is put. -/
def putOf (a : Int) (d : ByteArray) : ByteArray × Int := if a = 0 then (⟨#[]⟩, 1) else if d.size > 111 then (⟨#[]⟩, 11) else (pageOf a d, 0)
theorem put_eq (a : Int) (d : ByteArray) (h0 : 0 ≤ a) (h1 : a < 18446744073709551616) : page_Put.f a d = some (putOf a d) := by
  unfold page_Put.f putOf
  by_cases c1 : a = 0
  · rw [if_pos c1, if_pos c1]
  · rw [if_neg c1, if_neg c1]
    by_cases c2 : d.size > 111
    · rw [if_pos (by omega), if_pos c2]
    · rw [if_neg (by omega), if_neg c2, if_pos (by omega)]
      rfl
end Go.Proofs.Ytdnffphknigipaa.Page
