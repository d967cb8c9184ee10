-- Printed by this session's program wip/tools/mp.sh out of the translation.
import Derived.Test.YtnolpgphdnbfaaaQx0
import Derived.Test.YtnolpgphdnbfaaaOpen
namespace Go.Proofs.Ytnolpgphdnbfaaa.Q
set_option linter.unusedVariables false
set_option linter.unusedSimpArgs false
open Go.RowKit Go.Proofs.YtnolpgphdnbfaaaW.PrintWords Go.Proofs.YtnolpgphdnbfaaaW.PrintLast Go.Proofs.YtnolpgphdnbfaaaW.PrintMore Go.Proofs.Ytnolpgphdnbfaaa.Open
open Go.Proofs.Ytnolpgphdnbfaaa.Rows (uptoBulk uptoBulkAll)
def wf23 (x : S23) : Prop := wfStr x.f0 ∧ wfAny x.f1 ∧ (wfInt .i64) x.f2
def mu23 (x : S23) : Nat := muStr x.f0 + mu1 x.f1 + mu1 x.f2 + 1
theorem opn23 : Opens Try.prog 23 k23 wf23 mu23 := by
  intro H enc W spare held n cs x h
  obtain ⟨xs, m, rfl, rfl, hl, hs, hf⟩ := DataW.trod_struct Try.underlying23 h
  have hc : cs.length = 3 := hl.trans (by kernel_rfl)
  have hx : xs.length = 3 := hs
  clear hl hs h
  match cs, hc, xs, hx, hf with
  | [c0, c1, c2], _, [y0, y1, y2], _, hf =>
    have e0 : Try.prog.cellsOf 9 = 1 := by kernel_rfl
    have e1 : Try.prog.cellsOf 4 = 1 := by kernel_rfl
    have e2 : Try.prog.cellsOf 3 = 1 := by kernel_rfl
    have g0 := hf 0 _ rfl
    simp only [List.getElem_toArray, List.getElem_cons_zero, List.getElem_cons_succ, e0] at g0
    obtain ⟨a0, K0, w0, m0⟩ := (opens_string Try.underlying9) enc W spare held m [c0] y0 g0
    have g1 := hf 1 _ rfl
    simp only [List.getElem_toArray, List.getElem_cons_zero, List.getElem_cons_succ, e1] at g1
    obtain ⟨a1, K1, w1, m1⟩ := (opens_bool Try.underlying4) enc W spare held m [c1] y1 g1
    have g2 := hf 2 _ rfl
    simp only [List.getElem_toArray, List.getElem_cons_zero, List.getElem_cons_succ, e2] at g2
    obtain ⟨a2, K2, w2, m2⟩ := (opens_int Try.underlying3) enc W spare held m [c2] y2 g2
    exact ⟨⟨a0, a1, a2⟩, ⟨[c0], [c1, c2], rfl, K0, ⟨[c1], [c2], rfl, K1, K2⟩⟩, ⟨w0, w1, w2⟩, by simp only [mu23, List.map_cons, List.map_nil, uptoBulk, uptoBulkAll]; omega⟩
end Go.Proofs.Ytnolpgphdnbfaaa.Q
