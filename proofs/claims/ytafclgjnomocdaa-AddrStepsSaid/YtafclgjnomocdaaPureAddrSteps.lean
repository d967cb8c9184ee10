/- The law AddrSteps: any addresses are right or not, less or greater, and have those next to them, as the document says. -/
import Derived.Test.YtafclgjnomocdaaQpAddrSteps
import Derived.Test.YtafclgjnomocdaaAddrN
import Derived.Test.YtafclgjnomocdaaAddrS
import Derived.Test.YtafclgjnomocdaaAddrT
import Derived.Test.YtafclgjnomocdaaQx12
namespace Go.Proofs.Ytafclgjnomocdaa.Pure
set_option linter.unusedVariables false
open Go.RowKit Go.Proofs.Ytafclgjnomocdaa.Q Go.Proofs.YtafclgjnomocdaaW.PrintWords Go.Proofs.YtafclgjnomocdaaW.PrintLast Go.Proofs.Ytafclgjnomocdaa.Base Go.Proofs.Ytafclgjnomocdaa.Addr

theorem AddrSteps : spoorlaw09_AddrSteps.Pure := by
  intro six h l h' l' w0 w1
  obtain ⟨n, hn, rfl, rfl⟩ := of_parts (wf_u64 w0.1).1 (wf_u64 w0.1).2 (wf_u64 w0.2).1 (wf_u64 w0.2).2
  obtain ⟨m, hm, rfl, rfl⟩ := of_parts (wf_u64 w1.1).1 (wf_u64 w1.1).2 (wf_u64 w1.2).1 (wf_u64 w1.2).2
  refine Ev.rounds (g := fun k => spoorlaw09_AddrSteps.f k six (hi n) (lo n) (hi m) (lo m)) (r := true) ?_
  simp only [spoorlaw09_AddrSteps.f, next_is six hn, prev_is six hn, right_is six hn, rright_is six hn, Option.bind_some]
  refine Ev.bind (rnext_ev six hn) (Ev.bind (rprev_ev six hn) ?_)
  refine Ev.bind (Ev.of (r := true) spoorlaw09_steps.mono (k := 400) (by decide +kernel)) (Ev.pos rfl ?_)
  refine Ev.pos (by simp) (Ev.bind (cmp_ev n m) (Ev.bind (rcmp_ev n m) (Ev.pos rfl ?_)))
  exact Ev.pos (by simp) (Ev.pos rfl (Ev.pos (by simp) (Ev.const (by simp))))
end Go.Proofs.Ytafclgjnomocdaa.Pure
