/- The law CutterSmall, within its bound. -/
import Derived.Test.YtnolpgphdnbfaaaQpCutterSmallUpto
import Derived.Test.YtnolpgphdnbfaaaCutS
namespace Go.Proofs.Ytnolpgphdnbfaaa.Pure
set_option linter.unusedVariables false
open Go.RowKit Go.Proofs.Ytnolpgphdnbfaaa.Q Go.Proofs.YtnolpgphdnbfaaaW.PrintWords Go.Proofs.YtnolpgphdnbfaaaW.PrintLast Go.Proofs.Ytnolpgphdnbfaaa.Base Go.Proofs.Ytnolpgphdnbfaaa.Cut

theorem CutterSmallUpto : spoorlaw12_CutterSmall.PureUpto := by
  intro a b s c h0 h1 hB
  refine Ev.rounds (g := fun k => spoorlaw12_CutterSmall.f k a b s c) (r := true) ?_
  have hB' : a.size + c.size ≤ 1048576 := by
    simp only [mu23, Go.Proofs.Ytnolpgphdnbfaaa.Open.muStr] at hB
    omega
  obtain ⟨r, hr, rfl⟩ : ∃ r, Bytes r ∧ a = strOfNums r := ⟨bytesOf a, bytesOf_bytes a, (str_bytes a).symm⟩
  rw [strOfNums_size] at hB'
  simp only [spoorlaw12_CutterSmall.f]
  refine Ev.bind lives_ev (Ev.pos rfl (Ev.bind (feed_ev r b s c hr (by omega) (by omega)) ?_))
  unfold fed
  by_cases h : Right r b s
  · simp only [if_pos h, told5]
    have hk := feed_keeps (bytesOf c) r b s (bytesOf_bytes c) (right_keeps hr h)
    have hn := feed_len (bytesOf c) r b s
    rw [bytesOf_length] at hn
    have hsh := hk.1.short
    have hs0 := hk.1.2.1
    have hs1 := hk.1.2.2.1
    generalize feedL r b s (bytesOf c) = d at hk hn hsh hs0 hs1
    simp only [List.nil_append, strOfNums_size]
    refine Ev.pos trivial (Ev.neg (by omega) (Ev.neg (by omega) (Ev.neg (by omega) ?_)))
    have e : decide (d.1.2.2 > 65535) = false := decide_eq_false (by omega)
    rw [e]
    exact small_ev d.2 (by omega) hk.2
  · simp only [if_neg h]
    exact Ev.neg (by decide) (Ev.const rfl)
end Go.Proofs.Ytnolpgphdnbfaaa.Pure
