/- Any tag and data have the page that the document says, or none; any sector has the tag and the data that it says, or none; for every tag, data and sector. -/
import Derived.Test.YtdnffphknigipaaQx11
import Derived.Test.YtdnffphknigipaaPageG
namespace Go.Proofs.Ytdnffphknigipaa.Pure
open Go.RowKit Go.Proofs.Ytdnffphknigipaa.Q Go.Proofs.YtdnffphknigipaaW.PrintWords Go.Proofs.YtdnffphknigipaaW.PrintLast Go.Proofs.Ytdnffphknigipaa.Base Go.Proofs.Ytdnffphknigipaa.Page
set_option linter.unusedVariables false

theorem PagePuts : spoorlaw05_PagePuts.Pure := by
  intro a d s ha hd hs
  obtain ⟨h0, h1⟩ := wf_u64 ha
  refine Ev.rounds ?_
  simp only [spoorlaw05_PagePuts.f, put_eq a d h0 h1, tag_eq, Option.bind_some]
  refine Ev.bind (rput_ev a d h0 h1) (Ev.bind (get_ev s a) (Ev.bind (rget_ev s a) (Ev.bind (rtag_ev s) (Ev.bind lives_ev ?_))))
  refine Ev.pos rfl (Ev.pos rfl (Ev.pos rfl (Ev.pos rfl (Ev.pos rfl (Ev.pos rfl (Ev.const ?_))))))
  rw [beq_self_eq_true]
end Go.Proofs.Ytdnffphknigipaa.Pure
