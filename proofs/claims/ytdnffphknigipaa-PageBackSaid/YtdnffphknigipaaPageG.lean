/- Chapter 5: what the code's and the document's functions come to. -/
import Derived.Test.YtdnffphknigipaaQx5
import Derived.Test.YtdnffphknigipaaQx3
import Derived.Test.YtdnffphknigipaaQx6
import Derived.Test.YtdnffphknigipaaQx4
import Derived.Test.YtdnffphknigipaaQx7
import Derived.Test.YtdnffphknigipaaQx8
import Derived.Test.YtdnffphknigipaaQx11
import Derived.Test.YtdnffphknigipaaPage
namespace Go.Proofs.Ytdnffphknigipaa.Page
set_option linter.unusedVariables false
open Go.RowKit Go.Proofs.Ytdnffphknigipaa.Q Go.Proofs.YtdnffphknigipaaW.PrintWords Go.Proofs.YtdnffphknigipaaW.PrintLast Go.Proofs.Ytdnffphknigipaa.Base

theorem bt_nat (s : ByteArray) (i : Nat) : bt s (i : Int) = rd (bytesOf s) i := (rd_bytesOf s i).symm
theorem get_l0 (s : ByteArray) (hs : s.size = 128) (q : Int) (h9 : 9 ≤ q) (ht : q ≤ 120) : ∀ (d i : Nat), 120 - i = d → i ≤ 120 →
    Ev (fun k => page_Get.l0 k s q i) (if ((bytesOf s).take 120).drop i = List.replicate (120 - i) 0 then (s.extract 9 q.toNat, 0) else (⟨#[]⟩, 7))
  | 0, i, hd, hi => by
    obtain rfl : i = 120 := by omega
    have e : ((bytesOf s).take 120).drop 120 = List.replicate (120 - 120) 0 := by
      rw [List.drop_eq_nil_of_le (by simp; omega)]
      rfl
    rw [if_pos e]
    refine Ev.succ ?_
    simp only [page_Get.l0]
    exact Ev.neg (by omega) (Ev.pos h9 (Ev.pos (by omega) (Ev.const rfl)))
  | d + 1, i, hd, hi => by
    have hl : ((bytesOf s).take 120).length = 120 := by simp [bytesOf_length, hs]
    have hc : ((bytesOf s).take 120).drop i = bt s i :: ((bytesOf s).take 120).drop (i + 1) := by
      rw [List.drop_eq_getElem_cons (by omega)]
      congr 1
      rw [bt_nat]
      simp [rd, List.getD_eq_getElem?_getD, List.getElem?_eq_getElem (show i < (bytesOf s).length by rw [bytesOf_length]; omega)]
    have hz : List.replicate (120 - i) (0 : Int) = 0 :: List.replicate (120 - (i + 1)) 0 := by
      rw [show 120 - i = (120 - (i + 1)) + 1 by omega, List.replicate_succ]
    refine Ev.succ ?_
    simp only [page_Get.l0]
    refine Ev.pos (by omega) (Ev.pos (by omega) (Ev.pos (by omega) ?_))
    by_cases h0 : bt s (i : Int) = 0
    · refine Ev.pos h0 ?_
      rw [w64 (by omega) (by omega)]
      have ih := get_l0 s hs q h9 ht d (i + 1) (by omega) (by omega)
      rw [Int.natCast_add] at ih
      refine Ev.to ih ?_
      rw [hc, hz, h0]
      simp only [List.cons.injEq, true_and]
    · refine Ev.neg h0 (Ev.const ?_)
      rw [if_neg]
      rw [hc, hz]
      intro e
      exact h0 (List.cons.inj e).1
theorem get_ev (s : ByteArray) (t : Int) : Ev (fun k => page_Get.f k s t) (getOf s t) := by
  simp only [page_Get.f, tag_eq, Option.bind_some]
  unfold getOf
  by_cases h1 : (tagOf s).2 ≠ 0
  · rw [if_pos h1]
    exact Ev.neg h1 (Ev.const rfl)
  · rw [if_neg h1]
    refine Ev.pos (Classical.not_not.mp h1) ?_
    by_cases h2 : (tagOf s).1 ≠ t
    · rw [if_pos h2]
      exact Ev.neg h2 (Ev.const rfl)
    · rw [if_neg h2]
      refine Ev.pos (Classical.not_not.mp h2) ?_
      have ht : tagOf s = ((tagOf s).1, 0) := Prod.ext rfl (Classical.not_not.mp h1)
      have hs := (tag_ok ht).1
      have hb := bt_range s 8
      refine Ev.pos (by omega) ?_
      have e : wrap64 (9 + wrap64 (bt s 8)) = 9 + bt s 8 := by rw [w64 (n := bt s 8) (by omega) (by omega), w64 (by omega) (by omega)]
      simp only [e]
      by_cases h3 : bt s 8 > 111
      · rw [if_pos h3]
        exact Ev.pos (by omega) (Ev.const rfl)
      · rw [if_neg h3]
        refine Ev.neg (by omega) ?_
        have h := get_l0 s hs (9 + bt s 8) (by omega) (by omega) _ (9 + (bt s 8).toNat) rfl (by omega)
        have e2 : ((9 + (bt s 8).toNat : Nat) : Int) = 9 + bt s 8 := by omega
        rw [e2] at h
        rw [show (9 + bt s 8).toNat = 9 + (bt s 8).toNat by omega, show 120 - (9 + (bt s 8).toNat) = 111 - (bt s 8).toNat by omega] at h
        exact h
/-! ### the document's functions -/
theorem eight_step {n : Int} {l : List Int} {i : Int} {r : ByteArray} (h0 : 0 ≤ n) (h1 : n < 18446744073709551616) (hi : 0 ≤ i) (hi1 : i ≤ 7) (hl : l.length = 8)
    (h : Ev (fun k => spoorref05_Eight.l0 k (n / 256) (l.set i.toNat (n % 256)) (i - 1)) r) : Ev (fun k => spoorref05_Eight.l0 k n l i) r := by
  refine Ev.succ ?_
  simp only [spoorref05_Eight.l0]
  refine Ev.pos (by omega) (Ev.pos hi (Ev.pos (by omega) ?_))
  have e1 : Int.tdiv n 256 = n / 256 := Int.tdiv_eq_ediv_of_nonneg h0
  have e2 : Int.tmod n 256 = n % 256 := Int.tmod_eq_emod_of_nonneg h0
  rw [e1, e2, u64w (by omega) (by omega), w64 (by omega) (by omega), show n % 256 % 256 = n % 256 by omega]
  exact h
theorem eight_ev (n : Int) (h0 : 0 ≤ n) (h1 : n < 18446744073709551616) : Ev (fun k => spoorref05_Eight.f k n) (strOfNums (w8 n)) := by
  simp only [spoorref05_Eight.f]
  refine eight_step h0 h1 (by omega) (by omega) rfl ?_
  refine eight_step (by omega) (by omega) (by omega) (by omega) rfl ?_
  refine eight_step (by omega) (by omega) (by omega) (by omega) rfl ?_
  refine eight_step (by omega) (by omega) (by omega) (by omega) rfl ?_
  refine eight_step (by omega) (by omega) (by omega) (by omega) rfl ?_
  refine eight_step (by omega) (by omega) (by omega) (by omega) rfl ?_
  refine eight_step (by omega) (by omega) (by omega) (by omega) rfl ?_
  refine eight_step (by omega) (by omega) (by omega) (by omega) rfl ?_
  refine Ev.succ ?_
  simp only [spoorref05_Eight.l0]
  refine Ev.neg (by omega) (Ev.const ?_)
  congr 2
  simp only [List.replicate, w8]
  show [_, _, _, _, _, _, _, _] = _
  simp only [List.cons.injEq, and_true]
  omega
theorem turned_l0 (s : ByteArray) (hs : s.size ≤ 281474976710656) : ∀ (d i : Nat), s.size - i = d → i ≤ s.size →
    Ev (fun k => spoorref05_Turned.l0 k s (List.replicate (s.size - i) 0 ++ ((bytesOf s).take i).reverse) i) (strOfNums (bytesOf s).reverse)
  | 0, i, hd, hi => by
    obtain rfl : i = s.size := by omega
    refine Ev.succ ?_
    simp only [spoorref05_Turned.l0]
    refine Ev.neg (by omega) (Ev.const ?_)
    rw [Nat.sub_self, List.take_of_length_le (by rw [bytesOf_length]; exact Nat.le_refl _)]
    rfl
  | d + 1, i, hd, hi => by
    have hlt : i < s.size := by omega
    refine Ev.succ ?_
    simp only [spoorref05_Turned.l0]
    have e1 : wrap64 (wrap64 ((s.size : Int) - 1) - i) = ((s.size - 1 - i : Nat) : Int) := by
      rw [w64 (n := (s.size : Int) - 1) (by omega) (by omega), w64 (by omega) (by omega)]
      omega
    have hl : (List.replicate (s.size - i) (0 : Int) ++ ((bytesOf s).take i).reverse).length = s.size := by simp [bytesOf_length]; omega
    refine Ev.pos (by omega) (Ev.pos (by omega) ?_)
    rw [e1, hl, w64 (by omega) (by omega)]
    refine Ev.pos (by omega) (Ev.pos (by omega) ?_)
    have ih := turned_l0 s hs d (i + 1) (by omega) (by omega)
    have e2 : (List.replicate (s.size - i) (0 : Int) ++ ((bytesOf s).take i).reverse).set (((s.size - 1 - i : Nat) : Int)).toNat (bt s i) = List.replicate (s.size - (i + 1)) 0 ++ ((bytesOf s).take (i + 1)).reverse := by
      rw [Int.toNat_natCast]
      have e3 : List.replicate (s.size - i) (0 : Int) = List.replicate (s.size - (i + 1)) 0 ++ [0] := by
        rw [show s.size - i = (s.size - (i + 1)) + 1 by omega, List.replicate_succ']
      have e4 : (bytesOf s).take (i + 1) = (bytesOf s).take i ++ [bt s i] := by
        rw [List.take_succ_eq_append_getElem (by rw [bytesOf_length]; exact hlt), bt_nat]
        simp [rd, List.getD_eq_getElem?_getD, List.getElem?_eq_getElem (show i < (bytesOf s).length by rw [bytesOf_length]; exact hlt)]
      rw [e3, e4, List.reverse_append, List.append_assoc, List.set_append_right (s.size - 1 - i) _ (by simp; omega)]
      congr 1
      have : s.size - 1 - i - (List.replicate (s.size - (i + 1)) (0 : Int)).length = 0 := by simp; omega
      rw [this]
      rfl
    rw [e2]
    rw [Int.natCast_add] at ih
    exact ih
theorem turned_ev (s : ByteArray) (hs : s.size ≤ 281474976710656) : Ev (fun k => spoorref05_Turned.f k s) (strOfNums (bytesOf s).reverse) := by
  simp only [spoorref05_Turned.f]
  refine Ev.pos (by omega) (Ev.pos (by omega) ?_)
  have h := turned_l0 s hs _ 0 rfl (by omega)
  simpa using h
theorem zeros_eq (n : Nat) (h : n ≤ 111) : spoorref05_Zeros.f n = some (strOfNums (List.replicate n 0)) := by
  unfold spoorref05_Zeros.f
  rw [if_pos (by omega), if_pos (by omega), Int.toNat_natCast]
theorem rput_ev (a : Int) (d : ByteArray) (h0 : 0 ≤ a) (h1 : a < 18446744073709551616) : Ev (fun k => spoorref05_Put.f k a d) (putOf a d) := by
  simp only [spoorref05_Put.f]
  unfold putOf
  by_cases c1 : a = 0
  · rw [if_pos c1]
    exact Ev.pos c1 (Ev.const rfl)
  · rw [if_neg c1]
    refine Ev.neg c1 ?_
    by_cases c2 : d.size > 111
    · rw [if_pos c2]
      exact Ev.pos (by omega) (Ev.const rfl)
    · rw [if_neg c2]
      refine Ev.neg (by omega) (Ev.bind (eight_ev a h0 h1) ?_)
      simp only [Option.bind_some]
      have s1 : (strOfNums (w8 a)).size = 8 := by rw [strOfNums_size]; rfl
      have s2 : (strOfNums [(d.size : Int) % 256]).size = 1 := by rw [strOfNums_size]; rfl
      have e1 : wrap64 (111 - (d.size : Int)) = ((111 - d.size : Nat) : Int) := by rw [w64 (by omega) (by omega)]; omega
      refine Ev.pos (by omega) (Ev.pos (by rw [ByteArray.size_append]; omega) ?_)
      rw [e1, zeros_eq _ (by omega)]
      simp only [Option.bind_some]
      have s3 : (strOfNums (List.replicate (111 - d.size) 0)).size = 111 - d.size := by rw [strOfNums_size]; simp
      refine Ev.pos (by rw [ByteArray.size_append, ByteArray.size_append]; omega) (Ev.bind (eight_ev a h0 h1) (Ev.bind (turned_ev _ (by omega)) ?_))
      rw [bytes_str (w8_bytes a)]
      have s4 : (strOfNums (w8 a).reverse).size = 8 := by rw [strOfNums_size]; rfl
      refine Ev.pos (by rw [ByteArray.size_append, ByteArray.size_append, ByteArray.size_append]; omega) (Ev.const ?_)
      have e2 : (d.size : Int) % 256 = d.size := by omega
      rw [e2]
      unfold pageOf page_bytes
      simp only [str_append, Go.Proofs.Ytdnffphknigipaa.Base.str_bytes, ByteArray.append_assoc]
theorem number_l0 (s : ByteArray) (hs : s.size = 8) : ∀ (d i : Nat), 8 - i = d → i ≤ 8 → Ev (fun k => spoorref05_Number.l0 k s (numUp s i) i) (numUp s 8)
  | 0, i, hd, hi => by
    obtain rfl : i = 8 := by omega
    refine Ev.succ ?_
    simp only [spoorref05_Number.l0]
    exact Ev.neg (by omega) (Ev.const rfl)
  | d + 1, i, hd, hi => by
    refine Ev.succ ?_
    simp only [spoorref05_Number.l0]
    refine Ev.pos (by omega) (Ev.pos (by omega) ?_)
    have hb := numUp_bound s i
    have hp : (256 : Int) ^ i ≤ 256 ^ 7 := by
      have : i = 0 ∨ i = 1 ∨ i = 2 ∨ i = 3 ∨ i = 4 ∨ i = 5 ∨ i = 6 ∨ i = 7 := by omega
      rcases this with rfl | rfl | rfl | rfl | rfl | rfl | rfl | rfl <;> decide
    have hr := bt_range s i
    rw [u64w (n := 256 * numUp s i) (by omega) (by omega), u64w (n := bt s i) (by omega) (by omega), u64w (by omega) (by omega), w64 (by omega) (by omega)]
    have ih := number_l0 s hs d (i + 1) (by omega) (by omega)
    rw [Int.natCast_add] at ih
    exact ih
theorem number_ev (s : ByteArray) (hs : s.size = 8) : Ev (fun k => spoorref05_Number.f k s) (numUp s 8) := by
  simp only [spoorref05_Number.f]
  exact number_l0 s hs _ 0 rfl (by omega)
theorem num_part (s : ByteArray) (hs : 8 ≤ s.size) : numUp (s.extract 0 8) 8 = numUp s 8 := by
  refine w8_inj (num_range _).1 (num_range _).2 (num_range _).1 (num_range _).2 ?_
  rw [w8_num _ (by simp; omega), w8_num s hs, bytes_extract, List.drop_zero, List.take_take]
  rfl
theorem rtag_ev (s : ByteArray) : Ev (fun k => spoorref05_Tag.f k s) (tagOf s) := by
  simp only [spoorref05_Tag.f]
  unfold tagOf
  by_cases h1 : s.size ≠ 128
  · rw [if_pos h1]
    exact Ev.neg (by omega) (Ev.const rfl)
  · rw [if_neg h1]
    refine Ev.pos (by omega) (Ev.pos (by omega) (Ev.bind (number_ev _ (by simp; omega)) (Ev.pos (by omega) (Ev.bind (turned_ev _ (by simp; omega)) ?_))))
    rw [num_part s (by omega)]
    have e : ((s.extract 0 8).toList = (strOfNums (bytesOf (s.extract 120 s.size)).reverse).toList) ↔ (bytesOf s).drop 120 = ((bytesOf s).take 8).reverse := by
      rw [bytes_from]
      constructor
      · intro h
        have h2 := congrArg bytesOf (ba_ext h)
        rw [bytes_extract, bytes_str (bytes_rev ((bytesOf_bytes s).drop 120))] at h2
        rw [List.drop_zero] at h2
        rw [h2, List.reverse_reverse]
      · intro h
        rw [h, List.reverse_reverse]
        congr 1
        rw [str_part, List.drop_zero]
    by_cases h2 : numUp s 8 = 0
    · refine Ev.to (r := (0, 3)) ?_ (if_pos h2).symm
      by_cases h3 : (s.extract 0 8).toList = (strOfNums (bytesOf (s.extract 120 s.size)).reverse).toList
      · exact Ev.pos h3 (Ev.pos h2 (Ev.const rfl))
      · exact Ev.neg h3 (Ev.const rfl)
    · by_cases h3 : (bytesOf s).drop 120 ≠ ((bytesOf s).take 8).reverse
      · refine Ev.to (r := (0, 3)) ?_ ((if_neg h2).trans (if_pos h3)).symm
        exact Ev.neg (fun h => h3 (e.1 h)) (Ev.const rfl)
      · refine Ev.to (r := (numUp s 8, 0)) ?_ ((if_neg h2).trans (if_neg h3)).symm
        exact Ev.pos (e.2 (Classical.not_not.mp h3)) (Ev.neg h2 (Ev.const rfl))
theorem rget_ev (s : ByteArray) (t : Int) : Ev (fun k => spoorref05_Get.f k s t) (getOf s t) := by
  simp only [spoorref05_Get.f]
  refine Ev.bind (rtag_ev s) ?_
  unfold getOf
  by_cases h1 : (tagOf s).2 ≠ 0
  · rw [if_pos h1]
    exact Ev.neg h1 (Ev.const rfl)
  · rw [if_neg h1]
    refine Ev.pos (Classical.not_not.mp h1) ?_
    by_cases h2 : (tagOf s).1 ≠ t
    · rw [if_pos h2]
      exact Ev.neg h2 (Ev.const rfl)
    · rw [if_neg h2]
      refine Ev.pos (Classical.not_not.mp h2) ?_
      have ht : tagOf s = (t, 0) := Prod.ext (Classical.not_not.mp h2) (Classical.not_not.mp h1)
      obtain ⟨hs, n0, n1, n2, hh, hl⟩ := tag_ok ht
      have hb := bt_range s 8
      have e : wrap64 (9 + bt s 8) = 9 + bt s 8 := w64 (by omega) (by omega)
      have e' : wrap64 (bt s 8) = bt s 8 := w64 (by omega) (by omega)
      simp only [e', e]
      refine Ev.pos (by omega) ?_
      by_cases h3 : bt s 8 > 111
      · rw [if_pos h3]
        exact Ev.pos h3 (Ev.const rfl)
      · rw [if_neg h3]
        refine Ev.neg h3 (Ev.pos (by omega) (Ev.pos (by omega) (Ev.bind (rput_ev _ _ n1 n2) ?_)))
        have e3 : (9 + bt s 8).toNat = 9 + (bt s 8).toNat := by omega
        rw [e3]
        have hsz : (s.extract 9 (9 + (bt s 8).toNat)).size = (bt s 8).toNat := by simp; omega
        have hput : putOf t (s.extract 9 (9 + (bt s 8).toNat)) = (pageOf t (s.extract 9 (9 + (bt s 8).toNat)), 0) := by
          unfold putOf
          rw [if_neg n0, if_neg (by omega)]
        rw [hput]
        by_cases h4 : ((bytesOf s).take 120).drop (9 + (bt s 8).toNat) = List.replicate (111 - (bt s 8).toNat) 0
        · rw [if_pos h4]
          have hg : getOf s t = (s.extract 9 (9 + (bt s 8).toNat), 0) := by
            unfold getOf
            rw [if_neg h1, if_neg h2, if_neg h3, if_pos h4]
          exact Ev.pos (by rw [(get_ok hg).2.2]) (Ev.const rfl)
        · rw [if_neg h4]
          refine Ev.neg (fun hE => h4 ?_) (Ev.const rfl)
          have h5 := congrArg bytesOf (ba_ext hE)
          rw [pageOf_bytes _ _ (by omega)] at h5
          rw [← h5]
          have hx : page_bytes t (s.extract 9 (9 + (bt s 8).toNat)) = (w8 t ++ ([((s.extract 9 (9 + (bt s 8).toNat)).size : Int)] ++ bytesOf (s.extract 9 (9 + (bt s 8).toNat)))) ++ (List.replicate (111 - (s.extract 9 (9 + (bt s 8).toNat)).size) 0 ++ (w8 t).reverse) := by simp [page_bytes]
          have hxl : (w8 t ++ ([((s.extract 9 (9 + (bt s 8).toNat)).size : Int)] ++ bytesOf (s.extract 9 (9 + (bt s 8).toNat)))).length = 9 + (bt s 8).toNat := by
            simp only [List.length_append, w8_length, bytesOf_length, hsz, List.length_singleton]
            omega
          rw [hx, List.drop_take, List.drop_append_of_le_length (by omega), List.drop_eq_nil_of_le (by omega), List.nil_append, hsz, List.take_append_of_le_length (by simp; omega), List.take_of_length_le (by simp; omega)]
theorem lives_ev : Ev spoorlaw05_lives.f true := Ev.of spoorlaw05_lives.mono (k := 300) (by decide +kernel)
end Go.Proofs.Ytdnffphknigipaa.Page
