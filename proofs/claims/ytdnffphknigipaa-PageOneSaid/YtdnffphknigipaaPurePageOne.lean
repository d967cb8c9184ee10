/- What is read as a page is put as that sector again, and has no other tag; for every sector and any two tags. -/
import Derived.Test.YtdnffphknigipaaQx15
import Derived.Test.YtdnffphknigipaaPageG
namespace Go.Proofs.Ytdnffphknigipaa.Pure
open Go.RowKit Go.Proofs.Ytdnffphknigipaa.Q Go.Proofs.YtdnffphknigipaaW.PrintWords Go.Proofs.YtdnffphknigipaaW.PrintLast Go.Proofs.Ytdnffphknigipaa.Base Go.Proofs.Ytdnffphknigipaa.Page
set_option linter.unusedVariables false

theorem PageOne : spoorlaw05_PageOne.Pure := by
  intro s t o hs ht ho
  obtain ⟨h0, h1⟩ := wf_u64 ht
  refine Ev.rounds ?_
  simp only [spoorlaw05_PageOne.f]
  refine Ev.bind lives_ev (Ev.pos rfl (Ev.bind (get_ev s t) ?_))
  by_cases hg : (getOf s t).2 = 0
  · refine Ev.pos hg ?_
    have hgt : getOf s t = ((getOf s t).1, 0) := Prod.ext rfl hg
    obtain ⟨htag, hsz, hp⟩ := get_ok hgt
    obtain ⟨h128, n0, _, _, _, _⟩ := tag_ok htag
    have hput : putOf t (getOf s t).1 = (s, 0) := by
      unfold putOf
      rw [if_neg n0, if_neg (by omega), hp]
    refine Ev.bind (Ev.const (put_eq t (getOf s t).1 h0 h1)) ?_
    rw [hput]
    refine Ev.bind (get_ev s o) (Ev.pos rfl (Ev.pos rfl (Ev.const ?_)))
    by_cases he : o = t
    · subst he
      rw [hg]
      simp
    · have h3 := get_other htag he
      rw [h3]
      simp [he]
  · refine Ev.neg hg (Ev.const ?_)
    rw [get_bad hg, show (⟨#[]⟩ : ByteArray).toList = [] from by simp [Go.ByteArray.toList_eq]]
    rfl
end Go.Proofs.Ytdnffphknigipaa.Pure
