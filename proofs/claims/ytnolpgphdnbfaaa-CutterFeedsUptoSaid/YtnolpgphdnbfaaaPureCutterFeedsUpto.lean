/- The law CutterFeeds, within its bound. -/
import Derived.Test.YtnolpgphdnbfaaaQpCutterFeedsUpto
import Derived.Test.YtnolpgphdnbfaaaCutG
namespace Go.Proofs.Ytnolpgphdnbfaaa.Pure
set_option linter.unusedVariables false
open Go.RowKit Go.Proofs.Ytnolpgphdnbfaaa.Q Go.Proofs.YtnolpgphdnbfaaaW.PrintWords Go.Proofs.YtnolpgphdnbfaaaW.PrintLast Go.Proofs.Ytnolpgphdnbfaaa.Base Go.Proofs.Ytnolpgphdnbfaaa.Cut

theorem CutterFeedsUpto : spoorlaw12_CutterFeeds.PureUpto := by
  intro a b s c d h0 h1 h2 hB
  refine Ev.rounds (g := fun k => spoorlaw12_CutterFeeds.f k a b s c d) (r := true) ?_
  have hB' : a.size + c.size ≤ 1048576 := by
    simp only [mu23, Go.Proofs.Ytnolpgphdnbfaaa.Open.muStr] at hB
    omega
  obtain ⟨r, hr, rfl⟩ : ∃ r, Bytes r ∧ a = strOfNums r := ⟨bytesOf a, bytesOf_bytes a, (str_bytes a).symm⟩
  rw [strOfNums_size] at hB'
  simp only [spoorlaw12_CutterFeeds.f]
  refine Ev.bind (feed_ev r b s c hr (by omega) (by omega)) (Ev.bind (rfeed_ev r b s c hr (by omega) (by omega)) (Ev.bind (Ev.const (wrap_eq d)) (Ev.bind (Ev.const (rwrap_eq d)) (Ev.bind lives_ev (Ev.pos rfl ?_)))))
  refine Ev.bind (Ev.const (check_eq hr (by omega) b s)) (Ev.bind (rcheck_ev hr (by omega) b s) (Ev.pos rfl (Ev.pos (by simp) ?_)))
  have hn := fed_len r b s (bytesOf c)
  rw [bytesOf_length] at hn
  exact Ev.bind (same_ev _ (by omega)) (Ev.pos rfl (Ev.pos rfl (Ev.pos rfl (Ev.const (by simp)))))
end Go.Proofs.Ytnolpgphdnbfaaa.Pure
