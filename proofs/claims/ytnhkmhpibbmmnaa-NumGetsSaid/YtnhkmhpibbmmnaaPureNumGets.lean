/- The law NumGets: any bytes begin with the document's number, or none; it has the bytes that it was read from. -/
import Derived.Test.YtnhkmhpibbmmnaaQx6
import Derived.Test.YtnhkmhpibbmmnaaQx3
import Derived.Test.YtnhkmhpibbmmnaaNumG
namespace Go.Proofs.Ytnhkmhpibbmmnaa.Pure
set_option linter.unusedVariables false
open Go.RowKit Go.Proofs.Ytnhkmhpibbmmnaa.Q Go.Proofs.YtnhkmhpibbmmnaaW.PrintWords Go.Proofs.YtnhkmhpibbmmnaaW.PrintLast Go.Proofs.Ytnhkmhpibbmmnaa.Base Go.Proofs.Ytnhkmhpibbmmnaa.Num

theorem NumGets : spoorlaw01_NumGets.Pure := by
  intro a0 h0
  refine Ev.rounds (g := fun k => spoorlaw01_NumGets.f k a0) (r := true) ?_
  simp only [spoorlaw01_NumGets.f]
  refine Ev.bind (get_ev0 _ (by omega)) (Ev.bind (rget_ev0 _ (by omega)) ?_)
  refine Ev.bind (Ev.of (r := true) spoorlaw01_numbers.mono (k := 40) (by decide +kernel)) ?_
  refine Ev.pos rfl (Ev.pos rfl (Ev.pos rfl (Ev.pos rfl ?_)))
  have hlen := getL_len (bytesOf a0) 0 0
  rw [bytesOf_length] at hlen
  generalize hx : getL 0 0 (bytesOf a0) = x at hlen ⊢
  obtain ⟨v, r, e⟩ := x
  by_cases he : e = 0
  · subst he
    obtain ⟨m, hv, hl, hm⟩ := getL_back0 (bytesOf_bytes a0) hx
    subst hv
    have hp := putL_len hm
    refine Ev.pos rfl (Ev.bind (put_ev hm) (Ev.pos ?_ (Ev.const ?_)))
    · show (strOfNums (putL m)).size + (strOfNums r).size ≤ _
      rw [strOfNums_size, strOfNums_size]
      simp at hlen
      omega
    · show some ((strOfNums (putL m) ++ strOfNums r).toList == a0.toList) = some true
      rw [← str_append, ← hl, str_bytes]
      simp
  · exact Ev.neg he (Ev.now _)
end Go.Proofs.Ytnhkmhpibbmmnaa.Pure
