/- The law AddrPrefixes: any prefixes are right or not, and have the last address, the halves, and the addresses, that the document says. -/
import Derived.Test.YtafclgjnomocdaaQpAddrPrefixes
import Derived.Test.YtafclgjnomocdaaAddrN
import Derived.Test.YtafclgjnomocdaaAddrS
import Derived.Test.YtafclgjnomocdaaQx12
namespace Go.Proofs.Ytafclgjnomocdaa.Pure
set_option linter.unusedVariables false
open Go.RowKit Go.Proofs.Ytafclgjnomocdaa.Q Go.Proofs.YtafclgjnomocdaaW.PrintWords Go.Proofs.YtafclgjnomocdaaW.PrintLast Go.Proofs.Ytafclgjnomocdaa.Base Go.Proofs.Ytafclgjnomocdaa.Addr

theorem AddrPrefixes : spoorlaw09_AddrPrefixes.Pure := by
  intro s1 h1 l1 len1 s2 h2 l2 len2 s3 h3 l3 w0 w1 w2
  obtain ⟨n, hn, rfl, rfl⟩ := of_parts (wf_u64 w0.2.1.1).1 (wf_u64 w0.2.1.1).2 (wf_u64 w0.2.1.2).1 (wf_u64 w0.2.1.2).2
  obtain ⟨m, hm, rfl, rfl⟩ := of_parts (wf_u64 w1.2.1.1).1 (wf_u64 w1.2.1.1).2 (wf_u64 w1.2.1.2).1 (wf_u64 w1.2.1.2).2
  obtain ⟨a, ha, rfl, rfl⟩ := of_parts (wf_u64 w2.1).1 (wf_u64 w2.1).2 (wf_u64 w2.2).1 (wf_u64 w2.2).2
  refine Ev.rounds (g := fun k => spoorlaw09_AddrPrefixes.f k s1 (hi n) (lo n) len1 s2 (hi m) (lo m) len2 s3 (hi a) (lo a)) (r := true) ?_
  simp only [spoorlaw09_AddrPrefixes.f]
  refine Ev.bind (last_ev s1 hn len1) (Ev.bind (rlast_ev s1 hn len1) (Ev.bind (halves_ev s1 hn len1) (Ev.bind (rhalves_ev s1 hn len1) ?_)))
  refine Ev.bind (Ev.of (r := true) spoorlaw09_steps.mono (k := 400) (by decide +kernel)) (Ev.pos rfl ?_)
  refine Ev.bind (check_ev s1 hn len1) (Ev.bind (rcheck_ev s1 hn len1) (Ev.pos rfl ?_))
  refine Ev.pos (by simp) (Ev.pos rfl ?_)
  simp only [halfN]
  refine Ev.pos (by simp) (Ev.pos (by simp) (Ev.pos (by simp) ?_))
  refine Ev.bind (has_ev s1 hn len1 s3 ha) (Ev.bind (rhas_ev s1 hn len1 s3 ha) (Ev.pos (by simp) ?_))
  exact Ev.bind (covers_ev s1 hn len1 s2 hm len2) (Ev.bind (rcovers_ev s1 hn len1 s2 hm len2) (Ev.const (by simp)))
end Go.Proofs.Ytafclgjnomocdaa.Pure
