/- Any data have the pages that the document says, or none, and any sectors are joined as it says; where what comes in is of bulk at most 1048576. -/
import Derived.Test.YtdnffphknigipaaQpPageSplitsUpto
import Derived.Test.YtdnffphknigipaaPageS
namespace Go.Proofs.Ytdnffphknigipaa.Pure
set_option linter.unusedVariables false
open Go.RowKit Go.Proofs.Ytdnffphknigipaa.Q Go.Proofs.YtdnffphknigipaaW.PrintWords Go.Proofs.YtdnffphknigipaaW.PrintLast Go.Proofs.Ytdnffphknigipaa.Base Go.Proofs.Ytdnffphknigipaa.Page

theorem PageSplitsUpto : spoorlaw05_PageSplits.PureUpto := by
  intro a d l ha hd hl hB
  obtain ⟨h0, h1⟩ := wf_u64 ha
  have hll := Go.Proofs.Ytdnffphknigipaa.Open.muAll_len (mu := Go.Proofs.Ytdnffphknigipaa.Open.muStr) (fun s => Nat.le_add_left 1 _) l
  have hln : l.length ≤ 1048576 := by
    simp only [Go.Proofs.Ytdnffphknigipaa.Open.mu1] at hB
    omega
  refine Ev.rounds (g := fun k => spoorlaw05_PageSplits.f k a d l) (r := true) ?_
  simp only [spoorlaw05_PageSplits.f, split_eq a d h0, Option.bind_some]
  obtain ⟨r, e1, e2⟩ := join_ev l hln a
  have hs : (splitOf a d).1.length ≤ 1048576 := by
    unfold splitOf
    split
    · simp
    · split
      · simp
      · split
        · simp
        · rw [pages_length]
          omega
  refine Ev.bind (rsplit_ev a d h0) (Ev.bind e1 (Ev.bind e2 (Ev.bind lives_ev (Ev.pos rfl (Ev.bind (same_ev _ hs) (Ev.pos rfl (Ev.pos rfl (Ev.pos rfl (Ev.const ?_)))))))))
  rw [beq_self_eq_true]
end Go.Proofs.Ytdnffphknigipaa.Pure
