/- Data that are split are joined as what they were, whatever sectors of other tags are behind; as many pages are told; for every tag, data and sectors. -/
import Derived.Test.YtdnffphknigipaaQx14
import Derived.Test.YtdnffphknigipaaQpPageBack
import Derived.Test.YtdnffphknigipaaPageS
namespace Go.Proofs.Ytdnffphknigipaa.Pure
set_option linter.unusedVariables false
open Go.RowKit Go.Proofs.Ytdnffphknigipaa.Q Go.Proofs.YtdnffphknigipaaW.PrintWords Go.Proofs.YtdnffphknigipaaW.PrintLast Go.Proofs.Ytdnffphknigipaa.Base Go.Proofs.Ytdnffphknigipaa.Page

theorem back_l1 (a : Int) (d : ByteArray) (more : List ByteArray) (h0 : 0 < a) (h1 : a ≤ 4611686018427387904) (hd : d.size ≤ 14208) (hm : more.length ≤ 8796093021952)
    (hno : ∀ s ∈ more, tagOf s ≠ (a + (pagesOf a d).length, 0)) : ∀ (e i : Nat), (pagesOf a d).length - i = e → i ≤ (pagesOf a d).length →
    Ev (fun k => spoorlaw05_PageBack.l1 k a d more (pagesOf a d) (pagesOf a d) (pagesOf a d).length i) true
  | 0, i, he, hi => by
    have hpl := pages_length a d
    obtain rfl : i = (pagesOf a d).length := by omega
    refine Ev.succ ?_
    simp only [spoorlaw05_PageBack.l1, Option.bind_some, List.nil_append, List.length_nil]
    refine Ev.neg (by omega) (Ev.pos (by omega) (Ev.pos (by omega) ?_))
    have h := join_back a d more h0 h1 hd (by omega) hno _ 0 rfl (by omega)
    simp only [page_Join.f]
    have e : a + ((0 : Nat) : Int) = a := by omega
    rw [e, Nat.zero_mul, List.take_zero] at h
    refine Ev.bind h (Ev.pos rfl (Ev.const ?_))
    rw [beq_self_eq_true]
  | e + 1, i, he, hi => by
    have hpl := pages_length a d
    refine Ev.succ ?_
    simp only [spoorlaw05_PageBack.l1, tag_eq, Option.bind_some]
    have hr : rdOf ByteArray.empty (pagesOf a d) (i : Int) = pageOf (a + i) (piece d i) := by rw [rd_at _ _ (by omega), pages_at]
    have ht := tag_page (a := a + i) (by omega) (by omega) (by omega) (piece d i) (piece_size d i)
    rw [hr, ht]
    refine Ev.pos (by omega) (Ev.pos (by omega) (Ev.pos (by omega) (Ev.pos rfl (Ev.pos ?_ ?_))))
    · rw [u64w (n := (i : Int)) (by omega) (by omega), u64w (by omega) (by omega)]
    · rw [w64 (by omega) (by omega)]
      have ih := back_l1 a d more h0 h1 hd hm hno e (i + 1) (by omega) (by omega)
      rw [Int.natCast_add] at ih
      exact ih
theorem back_l0 (a : Int) (d : ByteArray) (more : List ByteArray) (h0 : 0 < a) (h1 : a ≤ 4611686018427387904) (hd : d.size ≤ 14208) (hm : more.length ≤ 8796093021952) : ∀ (e i : Nat), more.length - i = e → i ≤ more.length →
    (∀ j (h : j < more.length), j < i → tagOf more[j] ≠ (a + (pagesOf a d).length, 0)) →
    Ev (fun k => spoorlaw05_PageBack.l0 k a d more (pagesOf a d) more more.length i) true
  | 0, i, he, hi, hn => by
    obtain rfl : i = more.length := by omega
    refine Ev.succ ?_
    simp only [spoorlaw05_PageBack.l0]
    refine Ev.neg (by omega) (back_l1 a d more h0 h1 hd hm (fun s hs => ?_) _ 0 rfl (by omega))
    obtain ⟨j, hj, rfl⟩ := List.mem_iff_getElem.1 hs
    exact hn j hj hj
  | e + 1, i, he, hi, hn => by
    have hpl := pages_length a d
    refine Ev.succ ?_
    simp only [spoorlaw05_PageBack.l0, tag_eq, Option.bind_some]
    have hr : rdOf ByteArray.empty more (i : Int) = more[i]'(by omega) := rd_at _ _ (by omega)
    have ew : IntKind.u64.wrap (a + IntKind.u64.wrap ((pagesOf a d).length : Int)) = a + (pagesOf a d).length := by
      rw [u64w (n := ((pagesOf a d).length : Int)) (by omega) (by omega), u64w (by omega) (by omega)]
    rw [hr, ew]
    have next : tagOf (more[i]'(by omega)) ≠ (a + (pagesOf a d).length, 0) → Ev (fun k => spoorlaw05_PageBack.l0 k a d more (pagesOf a d) more more.length (wrap64 ((i : Int) + 1))) true := by
      intro hne
      rw [w64 (by omega) (by omega)]
      have ih := back_l0 a d more h0 h1 hd hm e (i + 1) (by omega) (by omega) (fun j hj hlt => by
        by_cases hji : j = i
        · subst hji
          exact hne
        · exact hn j hj (by omega))
      rw [Int.natCast_add] at ih
      exact ih
    refine Ev.pos (by omega) (Ev.pos (by omega) (Ev.pos (by omega) ?_))
    by_cases c1 : (tagOf (more[i]'(by omega))).2 = 0
    · refine Ev.pos c1 ?_
      by_cases c2 : (tagOf (more[i]'(by omega))).1 = a + (pagesOf a d).length
      · exact Ev.pos c2 (Ev.const rfl)
      · exact Ev.neg c2 (next (fun e => c2 (congrArg Prod.fst e)))
    · exact Ev.neg c1 (next (fun e => c1 (congrArg Prod.snd e)))
theorem PageBack : spoorlaw05_PageBack.Pure := by
  intro a d more ha hd hm hds hms
  obtain ⟨h0, h1⟩ := wf_u64 ha
  refine Ev.rounds (g := fun k => spoorlaw05_PageBack.f k a d more) (r := true) ?_
  simp only [spoorlaw05_PageBack.f, split_eq a d h0, Option.bind_some]
  refine Ev.bind lives_ev (Ev.pos rfl ?_)
  by_cases hw : (splitOf a d).2 = 0
  · have hs : splitOf a d = (pagesOf a d, 0) ∧ 0 < a ∧ a ≤ 4611686018427387904 ∧ d.size ≤ 14208 := by
      unfold splitOf at hw ⊢
      by_cases c1 : a = 0
      · rw [if_pos c1] at hw; simp at hw
      · rw [if_neg c1] at hw ⊢
        by_cases c2 : a > 4611686018427387904
        · rw [if_pos c2] at hw; simp at hw
        · rw [if_neg c2] at hw ⊢
          by_cases c3 : d.size > 14208
          · rw [if_pos c3] at hw; simp at hw
          · rw [if_neg c3]
            exact ⟨rfl, by omega, by omega, by omega⟩
    obtain ⟨hs, g0, g1, g2⟩ := hs
    refine Ev.pos hw ?_
    rw [hs]
    exact back_l0 a d more g0 g1 g2 (by omega) _ 0 rfl (by omega) (fun j _ hlt => absurd hlt (Nat.not_lt_zero _))
  · refine Ev.neg hw (Ev.const ?_)
    have hn : (splitOf a d).1 = [] := by
      unfold splitOf at hw ⊢
      split
      · rfl
      · split
        · rfl
        · split
          · rfl
          · rename_i c1 c2 c3
            rw [if_neg c1, if_neg c2, if_neg c3] at hw
            exact absurd rfl hw
    rw [hn]
    rfl
end Go.Proofs.Ytdnffphknigipaa.Pure
