/- Chapter 5: data in pages, and pages joined. -/
import Derived.Test.YtdnffphknigipaaQx9
import Derived.Test.YtdnffphknigipaaQx10
import Derived.Test.YtdnffphknigipaaQx12
import Derived.Test.YtdnffphknigipaaQx13
import Derived.Test.YtdnffphknigipaaPageG
namespace Go.Proofs.Ytdnffphknigipaa.Page
set_option linter.unusedVariables false
open Go.RowKit Go.Proofs.Ytdnffphknigipaa.Q Go.Proofs.YtdnffphknigipaaW.PrintWords Go.Proofs.YtdnffphknigipaaW.PrintLast Go.Proofs.Ytdnffphknigipaa.Base

/-- The pages of data. -/
def pagesOf (a : Int) (d : ByteArray) : List ByteArray := (List.range ((d.size + 110) / 111)).map fun (i : Nat) => pageOf (a + i) (piece d i)
def splitOf (a : Int) (d : ByteArray) : List ByteArray × Int := if a = 0 then ([], 1) else if a > 4611686018427387904 then ([], 1) else if d.size > 14208 then ([], 11) else (pagesOf a d, 0)
theorem split_eq (a : Int) (d : ByteArray) (h0 : 0 ≤ a) : page_Split.f a d = some (splitOf a d) := by
  unfold page_Split.f splitOf
  by_cases c1 : a = 0
  · rw [if_pos c1, if_pos c1]
  · rw [if_neg c1, if_neg c1]
    by_cases c2 : a > 4611686018427387904
    · rw [if_pos c2, if_pos c2]
    · rw [if_neg c2, if_neg c2]
      by_cases c3 : d.size > 14208
      · rw [if_pos (by omega), if_pos c3]
      · rw [if_neg (by omega), if_neg c3, if_pos h0]
        rfl
theorem piece_size (d : ByteArray) (i : Nat) : (piece d i).size ≤ 111 := by simp [piece]; omega
theorem rsplit_l0 (a : Int) (d : ByteArray) (h0 : 0 < a) (h1 : a ≤ 4611686018427387904) (hd : d.size ≤ 14208) : ∀ (e i : Nat), (d.size + 110) / 111 - i = e → i ≤ (d.size + 110) / 111 →
    Ev (fun k => spoorref05_Split.l0 k a d ((List.range i).map fun (i : Nat) => pageOf (a + i) (piece d i)) ((i * 111 : Nat) : Int)) (pagesOf a d, 0)
  | 0, i, he, hi => by
    obtain rfl : i = (d.size + 110) / 111 := by omega
    refine Ev.succ ?_
    simp only [spoorref05_Split.l0]
    exact Ev.neg (by omega) (Ev.const rfl)
  | e + 1, i, he, hi => by
    have hlt : i * 111 < d.size := by omega
    have ih := rsplit_l0 a d h0 h1 hd e (i + 1) (by omega) (by omega)
    refine Ev.succ ?_
    simp only [spoorref05_Split.l0]
    have e1 : wrap64 (((i * 111 : Nat) : Int) + 111) = (((i + 1) * 111 : Nat) : Int) := by rw [w64 (by omega) (by omega)]; omega
    have e2 : mn (((i + 1) * 111 : Nat) : Int) (d.size : Int) = ((i * 111 + min 111 (d.size - i * 111) : Nat) : Int) := by unfold mn; omega
    have e3 : IntKind.u64.wrap (a + IntKind.u64.wrap (((((List.range i).map fun (i : Nat) => pageOf (a + i) (piece d i)).length : Nat) : Int))) = a + i := by
      rw [List.length_map, List.length_range, u64w (n := (i : Int)) (by omega) (by omega), u64w (by omega) (by omega)]
    simp only [e1, e2, e3]
    refine Ev.pos (by omega) (Ev.pos (by omega) (Ev.pos (by omega) (Ev.pos (by omega) ?_)))
    rw [Int.toNat_natCast, Int.toNat_natCast]
    refine Ev.bind (rput_ev (a + i) _ (by omega) (by omega)) ?_
    have hp : putOf (a + i) (d.extract (i * 111) (i * 111 + min 111 (d.size - i * 111))) = (pageOf (a + i) (piece d i), 0) := by
      unfold putOf
      rw [if_neg (by omega), if_neg (by have := piece_size d i; unfold piece at this; omega)]
      rfl
    rw [hp]
    refine Ev.pos (by rw [List.length_map, List.length_range]; omega) ?_
    rw [List.range_succ, List.map_append] at ih
    exact ih
theorem rsplit_ev (a : Int) (d : ByteArray) (h0 : 0 ≤ a) : Ev (fun k => spoorref05_Split.f k a d) (splitOf a d) := by
  have j : ∀ q : Bool, q = (decide (a = 0) || decide (a > 4611686018427387904)) → Ev (fun k => spoorref05_Split.j0 k a d q) (splitOf a d) := by
    intro q hq
    refine Ev.succ ?_
    simp only [spoorref05_Split.j0]
    unfold splitOf
    by_cases c1 : a = 0
    · rw [if_pos c1]
      exact Ev.pos (by rw [hq]; simp [c1]) (Ev.const rfl)
    · by_cases c2 : a > 4611686018427387904
      · refine Ev.to (r := ([], 1)) ?_ ((if_neg c1).trans (if_pos c2)).symm
        exact Ev.pos (by rw [hq]; simp [c2]) (Ev.const rfl)
      · rw [if_neg c1, if_neg c2]
        refine Ev.neg (by rw [hq]; simp [c1]; omega) ?_
        by_cases c3 : d.size > 14208
        · refine Ev.to (r := ([], 11)) ?_ (if_pos c3).symm
          exact Ev.pos (by omega) (Ev.const rfl)
        · refine Ev.to (r := (pagesOf a d, 0)) ?_ (if_neg c3).symm
          refine Ev.neg (by omega) ?_
          exact rsplit_l0 a d (by omega) (by omega) (by omega) _ 0 rfl (by omega)
  simp only [spoorref05_Split.f]
  by_cases c1 : a = 0
  · exact Ev.pos c1 (j true (by simp [c1]))
  · exact Ev.neg c1 (j _ (by simp [c1]))
theorem rd_at (l : List ByteArray) (i : Nat) (h : i < l.length) : rdOf ByteArray.empty l (i : Int) = l[i] := by
  simp [rdOf, List.getD_eq_getElem?_getD, List.getElem?_eq_getElem h]
theorem get_size {s : ByteArray} {t : Int} (h : (getOf s t).2 = 0) : (getOf s t).1.size ≤ 111 := (get_ok (Prod.ext rfl h : getOf s t = ((getOf s t).1, 0))).2.1
theorem join_l0 (l : List ByteArray) (hl : l.length ≤ 1048576) : ∀ (d i : Nat) (t : Int) (acc : List Int), l.length - i = d → i ≤ l.length → acc.length ≤ 111 * i → 
    ∃ r, Ev (fun k => page_Join.l0 k l t acc l l.length i) r ∧ Ev (fun k => spoorref05_Join.l0 k l t (strOfNums acc) l l.length i) r
  | 0, i, t, acc, hd, hi, ha => by
    refine ⟨(strOfNums acc, (l.length : Int)), Ev.succ ?_, Ev.succ ?_⟩
    · simp only [page_Join.l0]
      exact Ev.neg (by omega) (Ev.const rfl)
    · simp only [spoorref05_Join.l0]
      exact Ev.neg (by omega) (Ev.const rfl)
  | d + 1, i, t, acc, hd, hi, ha => by
    by_cases hg : (getOf (rdOf ByteArray.empty l (i : Int)) t).2 = 0
    · have hz := get_size hg
      obtain ⟨r, h1, h2⟩ := join_l0 l hl d (i + 1) (IntKind.u64.wrap (t + 1)) (acc ++ bytesOf (getOf (rdOf ByteArray.empty l (i : Int)) t).1) (by omega) (by omega) (by rw [List.length_append, bytesOf_length]; omega)
      rw [Int.natCast_add] at h1 h2
      refine ⟨r, Ev.succ ?_, Ev.succ ?_⟩
      · simp only [page_Join.l0]
        refine Ev.pos (by omega) (Ev.pos (by omega) (Ev.pos (by omega) (Ev.bind (get_ev _ t) (Ev.pos hg (Ev.pos (by omega) ?_)))))
        rw [w64 (by omega) (by omega)]
        exact h1
      · simp only [spoorref05_Join.l0]
        refine Ev.pos (by omega) (Ev.pos (by omega) (Ev.pos (by omega) (Ev.bind (rget_ev _ t) (Ev.pos hg (Ev.pos (by rw [strOfNums_size]; omega) ?_)))))
        rw [w64 (by omega) (by omega)]
        rw [str_append, Go.Proofs.Ytdnffphknigipaa.Base.str_bytes] at h2
        exact h2
    · refine ⟨(strOfNums acc, (i : Int)), Ev.succ ?_, Ev.succ ?_⟩
      · simp only [page_Join.l0]
        exact Ev.pos (by omega) (Ev.pos (by omega) (Ev.pos (by omega) (Ev.bind (get_ev _ t) (Ev.neg hg (Ev.const rfl)))))
      · simp only [spoorref05_Join.l0]
        exact Ev.pos (by omega) (Ev.pos (by omega) (Ev.pos (by omega) (Ev.bind (rget_ev _ t) (Ev.neg hg (Ev.const rfl)))))
theorem join_ev (l : List ByteArray) (hl : l.length ≤ 1048576) (t : Int) : ∃ r, Ev (fun k => page_Join.f k l t) r ∧ Ev (fun k => spoorref05_Join.f k l t) r := by
  obtain ⟨r, h1, h2⟩ := join_l0 l hl _ 0 t [] rfl (by omega) (by simp)
  exact ⟨r, h1, h2⟩
theorem same_l0 (l : List ByteArray) (hl : l.length ≤ 1048576) : ∀ (d i : Nat), l.length - i = d → i ≤ l.length → Ev (fun k => spoorref04_Same.l0 k l l l.length i) true
  | 0, i, hd, hi => by
    refine Ev.succ ?_
    simp only [spoorref04_Same.l0]
    exact Ev.neg (by omega) (Ev.const rfl)
  | d + 1, i, hd, hi => by
    refine Ev.succ ?_
    simp only [spoorref04_Same.l0]
    refine Ev.pos (by omega) (Ev.pos (by omega) (Ev.pos (by omega) (Ev.pos (by omega) (Ev.pos trivial ?_))))
    rw [w64 (by omega) (by omega)]
    have ih := same_l0 l hl d (i + 1) (by omega) (by omega)
    rw [Int.natCast_add] at ih
    exact ih
theorem same_ev (l : List ByteArray) (hl : l.length ≤ 1048576) : Ev (fun k => spoorref04_Same.f k l l) true := by
  simp only [spoorref04_Same.f]
  exact Ev.pos trivial (same_l0 l hl _ 0 rfl (by omega))
theorem pages_length (a : Int) (d : ByteArray) : (pagesOf a d).length = (d.size + 110) / 111 := by simp [pagesOf]
theorem pages_at (a : Int) (d : ByteArray) (i : Nat) (h : i < (pagesOf a d).length) : (pagesOf a d)[i] = pageOf (a + i) (piece d i) := by simp [pagesOf]
/-- Pages with other sectors behind are joined as their data. -/
theorem join_back (a : Int) (d : ByteArray) (more : List ByteArray) (h0 : 0 < a) (h1 : a ≤ 4611686018427387904) (hd : d.size ≤ 14208) (hm : more.length ≤ 8796093022208)
    (hno : ∀ s ∈ more, tagOf s ≠ (a + (pagesOf a d).length, 0)) : ∀ (e i : Nat), (pagesOf a d).length - i = e → i ≤ (pagesOf a d).length →
    Ev (fun k => page_Join.l0 k (pagesOf a d ++ more) (a + i) ((bytesOf d).take (i * 111)) (pagesOf a d ++ more) (pagesOf a d ++ more).length i) (d, ((pagesOf a d).length : Int))
  | 0, i, he, hi => by
    have hpl := pages_length a d
    obtain rfl : i = (pagesOf a d).length := by omega
    have hall : strOfNums ((bytesOf d).take ((pagesOf a d).length * 111)) = d := by
      rw [List.take_of_length_le (by rw [bytesOf_length]; omega), Go.Proofs.Ytdnffphknigipaa.Base.str_bytes]
    refine Ev.succ ?_
    simp only [page_Join.l0]
    by_cases hmm : more = []
    · subst hmm
      refine Ev.neg (by simp) (Ev.const ?_)
      rw [hall]
      simp
    · have hml : 0 < more.length := List.length_pos_iff.2 hmm
      have hll : (pagesOf a d ++ more).length = (pagesOf a d).length + more.length := List.length_append
      refine Ev.pos (by omega) (Ev.pos (by omega) (Ev.pos (by omega) (Ev.bind (get_ev _ _) ?_)))
      have hr : rdOf ByteArray.empty (pagesOf a d ++ more) ((pagesOf a d).length : Int) = more[0] := by
        rw [rd_at _ _ (by omega), List.getElem_append_right (Nat.le_refl _)]
        simp
      rw [hr]
      refine Ev.neg (fun hg => hno _ (List.getElem_mem hml) ?_) (Ev.const ?_)
      · exact (get_ok (Prod.ext rfl hg : getOf more[0] (a + (pagesOf a d).length) = (_, 0))).1
      · rw [hall]
  | e + 1, i, he, hi => by
    have hpl := pages_length a d
    have ih := join_back a d more h0 h1 hd hm hno e (i + 1) (by omega) (by omega)
    have hll : (pagesOf a d ++ more).length = (pagesOf a d).length + more.length := List.length_append
    have hr : rdOf ByteArray.empty (pagesOf a d ++ more) (i : Int) = pageOf (a + i) (piece d i) := by
      rw [rd_at _ _ (by omega), List.getElem_append_left (by omega), pages_at]
    have hg := get_page (t := a + i) (by omega) (by omega) (by omega) (piece d i) (piece_size d i)
    refine Ev.succ ?_
    simp only [page_Join.l0]
    refine Ev.pos (by omega) (Ev.pos (by omega) (Ev.pos (by omega) (Ev.bind (get_ev _ _) ?_)))
    rw [hr, hg]
    have hps := piece_size d i
    refine Ev.pos rfl (Ev.pos (by simp only [List.length_take, bytesOf_length]; omega) ?_)
    rw [w64 (by omega) (by omega), u64w (by omega) (by omega)]
    have e1 : (bytesOf d).take (i * 111) ++ bytesOf (piece d i) = (bytesOf d).take ((i + 1) * 111) := by
      unfold piece
      rw [bytes_extract]
      have e3 : (bytesOf d).take (i * 111 + min 111 (d.size - i * 111)) = (bytesOf d).take ((i + 1) * 111) := by
        by_cases hq : (i + 1) * 111 ≤ d.size
        · congr 1
          omega
        · rw [List.take_of_length_le (by rw [bytesOf_length]; omega), List.take_of_length_le (by rw [bytesOf_length]; omega)]
      rw [e3]
      have e4 := List.take_append_drop (i * 111) ((bytesOf d).take ((i + 1) * 111))
      rw [List.take_take, show min (i * 111) ((i + 1) * 111) = i * 111 by omega] at e4
      exact e4
    rw [e1]
    rw [Int.natCast_add] at ih
    have e5 : a + ((i : Int) + ((1 : Nat) : Int)) = a + i + 1 := by omega
    rw [e5] at ih
    exact ih
end Go.Proofs.Ytdnffphknigipaa.Page
