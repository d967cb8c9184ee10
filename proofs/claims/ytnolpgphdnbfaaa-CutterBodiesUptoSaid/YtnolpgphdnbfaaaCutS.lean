/- What a stream's pieces are. -/
import Derived.Test.YtnolpgphdnbfaaaQx14
import Derived.Test.YtnolpgphdnbfaaaCutG
namespace Go.Proofs.Ytnolpgphdnbfaaa.Cut
set_option linter.unusedVariables false
open Go.RowKit Go.Proofs.Ytnolpgphdnbfaaa.Q Go.Proofs.YtnolpgphdnbfaaaW.PrintWords Go.Proofs.YtnolpgphdnbfaaaW.PrintLast Go.Proofs.Ytnolpgphdnbfaaa.Base

def Good (p : S38) : Prop := (p.f0 = 1 ∧ 1 ≤ p.f1.size ∧ p.f1.size ≤ 64) ∨ ((p.f0 = 2 ∨ p.f0 = 3) ∧ p.f1 = ⟨#[]⟩)
theorem comes_good {r : List Int} {b : Bool} {s : Int} (x : Int) : ∀ p ∈ (comesL r b s x).2, Good p := by
  intro p hp
  unfold comesL at hp
  by_cases h0 : 0 < s
  · rw [if_pos h0] at hp
    cases hp
  · rw [if_neg h0] at hp
    by_cases h1 : r = [] ∧ x ≠ 245
    · rw [if_pos h1] at hp
      cases b
      · have : p = ⟨2, ⟨#[]⟩⟩ := by simpa using hp
        subst this
        exact Or.inr ⟨Or.inl rfl, rfl⟩
      · simp at hp
    · rw [if_neg h1] at hp
      by_cases h2 : (r ++ [x]).length < 3
      · rw [if_pos h2] at hp
        cases hp
      · rw [if_neg h2] at hp
        by_cases h3 : lenL (r ++ [x]) < 1 ∨ 64 < lenL (r ++ [x])
        · rw [if_pos h3] at hp
          have : p = ⟨3, ⟨#[]⟩⟩ := by simpa using hp
          subst this
          exact Or.inr ⟨Or.inr rfl, rfl⟩
        · rw [if_neg h3] at hp
          by_cases h4 : ((r ++ [x]).length : Int) = 3 + lenL (r ++ [x])
          · rw [if_pos h4] at hp
            have : p = ⟨1, strOfNums ((r ++ [x]).drop 3)⟩ := by simpa using hp
            subst this
            refine Or.inl ⟨rfl, ?_, ?_⟩
            · show 1 ≤ (strOfNums ((r ++ [x]).drop 3)).size
              rw [strOfNums_size, List.length_drop]
              omega
            · show (strOfNums ((r ++ [x]).drop 3)).size ≤ 64
              rw [strOfNums_size, List.length_drop]
              omega
          · rw [if_neg h4] at hp
            cases hp
theorem feed_keeps : ∀ (l r : List Int) (b : Bool) (s : Int), Bytes l → Keeps r b s → Keeps (feedL r b s l).1.1 (feedL r b s l).1.2.1 (feedL r b s l).1.2.2 ∧ ∀ p ∈ (feedL r b s l).2, Good p
  | [], r, b, s, _, hk => ⟨hk, fun p hp => by simp [feedL] at hp⟩
  | x :: l, r, b, s, hl, hk => by
    have h := feed_keeps l _ _ _ hl.tail (hk.comes hl.head.1 hl.head.2)
    simp only [feedL]
    refine ⟨h.1, fun p hp => ?_⟩
    rcases List.mem_append.1 hp with hp | hp
    · exact comes_good x p hp
    · exact h.2 p hp
theorem rd38 (l : List S38) (i : Nat) (h : i < l.length) : rd_T38 l (i : Int) = l[i] := by
  simp [rd_T38, List.getD_eq_getElem?_getD, List.getElem?_eq_getElem h]
theorem small_loop (l : List S38) (hl : l.length ≤ 1099511627776) (hg : ∀ p ∈ l, Good p) : ∀ (n i : Nat), l.length - i = n → i ≤ l.length → Ev (fun k => spoorlaw12_CutterSmall.l0 k l (l.length : Int) (i : Int)) true
  | 0, i, h, hi => by
    refine Ev.succ ?_
    simp only [spoorlaw12_CutterSmall.l0]
    exact Ev.neg (by omega) (Ev.const rfl)
  | n + 1, i, h, hi => by
    have hi' : i < l.length := by omega
    have hgi := hg l[i] (List.getElem_mem hi')
    refine Ev.succ ?_
    simp only [spoorlaw12_CutterSmall.l0, rd38 l i hi']
    have ih : Ev (fun k => spoorlaw12_CutterSmall.l0 k l (l.length : Int) (wrap64 ((i : Int) + 1))) true := by
      rw [w64 (by omega) (by omega), show ((i : Int) + 1) = ((i + 1 : Nat) : Int) by omega]
      exact small_loop l hl hg n (i + 1) (by omega) (by omega)
    have J : ∀ (q : Int) (f : ByteArray), f = ⟨#[]⟩ → Ev (fun k => spoorlaw12_CutterSmall.j2 k l (l.length : Int) (i : Int) true q f) true := by
      rintro q f rfl
      refine Ev.succ ?_
      simp only [spoorlaw12_CutterSmall.j2]
      first | exact Ev.pos trivial (Ev.pos ((toList_nil_iff _).2 rfl) ih) | exact Ev.pos rfl (Ev.pos ((toList_nil_iff _).2 rfl) ih) | exact Ev.pos ((toList_nil_iff _).2 rfl) ih
    refine Ev.pos (by omega) (Ev.pos (by omega) (Ev.pos (by omega) ?_))
    rcases hgi with ⟨e, h1, h2⟩ | ⟨e, h1⟩
    · exact Ev.pos e (Ev.neg (by omega) (Ev.neg (by omega) ih))
    · refine Ev.neg (by omega) ?_
      by_cases e2 : (l[i]).f0 = 2
      · refine Ev.pos e2 ?_
        rw [e2]
        exact J 2 _ h1
      · refine Ev.neg e2 ?_
        have e3 : (l[i]).f0 = 3 := by omega
        rw [e3]
        exact J 3 _ h1
theorem small_ev (l : List S38) (hl : l.length ≤ 1099511627776) (hg : ∀ p ∈ l, Good p) : Ev (fun k => spoorlaw12_CutterSmall.j0 k l false) true := by
  refine Ev.succ ?_
  simp only [spoorlaw12_CutterSmall.j0]
  exact Ev.neg (by decide) (small_loop l hl hg l.length 0 (by omega) (by omega))
end Go.Proofs.Ytnolpgphdnbfaaa.Cut
