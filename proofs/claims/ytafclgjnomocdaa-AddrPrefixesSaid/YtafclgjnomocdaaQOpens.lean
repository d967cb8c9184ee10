-- Printed by this session's program wip/tools/mp.sh out of the translation.
import Derived.Test.YtafclgjnomocdaaQx0
import Derived.Test.YtafclgjnomocdaaOpen
namespace Go.Proofs.Ytafclgjnomocdaa.Q
set_option linter.unusedVariables false
set_option linter.unusedSimpArgs false
open Go.RowKit Go.Proofs.YtafclgjnomocdaaW.PrintWords Go.Proofs.YtafclgjnomocdaaW.PrintLast Go.Proofs.YtafclgjnomocdaaW.PrintMore Go.Proofs.Ytafclgjnomocdaa.Open
open Go.Proofs.Ytafclgjnomocdaa.Rows (uptoBulk uptoBulkAll)
def wf24 (x : S24) : Prop := (wfInt .u64) x.f0 ∧ (wfInt .u64) x.f1
def mu24 (x : S24) : Nat := mu1 x.f0 + mu1 x.f1 + 1
theorem opn24 : Opens Try.prog 24 k24 wf24 mu24 := by
  intro H enc W spare held n cs x h
  obtain ⟨xs, m, rfl, rfl, hl, hs, hf⟩ := DataW.trod_struct Try.underlying24 h
  have hc : cs.length = 2 := hl.trans (by kernel_rfl)
  have hx : xs.length = 2 := hs
  clear hl hs h
  match cs, hc, xs, hx, hf with
  | [c0, c1], _, [y0, y1], _, hf =>
    have e0 : Try.prog.cellsOf 22 = 1 := by kernel_rfl
    have e1 : Try.prog.cellsOf 22 = 1 := by kernel_rfl
    have g0 := hf 0 _ rfl
    simp only [List.getElem_toArray, List.getElem_cons_zero, List.getElem_cons_succ, e0] at g0
    obtain ⟨a0, K0, w0, m0⟩ := (opens_int Try.underlying22) enc W spare held m [c0] y0 g0
    have g1 := hf 1 _ rfl
    simp only [List.getElem_toArray, List.getElem_cons_zero, List.getElem_cons_succ, e1] at g1
    obtain ⟨a1, K1, w1, m1⟩ := (opens_int Try.underlying22) enc W spare held m [c1] y1 g1
    exact ⟨⟨a0, a1⟩, ⟨[c0], [c1], rfl, K0, K1⟩, ⟨w0, w1⟩, by simp only [mu24, List.map_cons, List.map_nil, uptoBulk, uptoBulkAll]; omega⟩
def wf33 (x : S33) : Prop := wfAny x.f0 ∧ wf24 x.f1 ∧ (wfInt .i64) x.f2
def mu33 (x : S33) : Nat := mu1 x.f0 + mu24 x.f1 + mu1 x.f2 + 1
theorem opn33 : Opens Try.prog 33 k33 wf33 mu33 := by
  intro H enc W spare held n cs x h
  obtain ⟨xs, m, rfl, rfl, hl, hs, hf⟩ := DataW.trod_struct Try.underlying33 h
  have hc : cs.length = 4 := hl.trans (by kernel_rfl)
  have hx : xs.length = 3 := hs
  clear hl hs h
  match cs, hc, xs, hx, hf with
  | [c0, c1, c2, c3], _, [y0, y1, y2], _, hf =>
    have e0 : Try.prog.cellsOf 4 = 1 := by kernel_rfl
    have e1 : Try.prog.cellsOf 24 = 2 := by kernel_rfl
    have e2 : Try.prog.cellsOf 3 = 1 := by kernel_rfl
    have g0 := hf 0 _ rfl
    simp only [List.getElem_toArray, List.getElem_cons_zero, List.getElem_cons_succ, e0] at g0
    obtain ⟨a0, K0, w0, m0⟩ := (opens_bool Try.underlying4) enc W spare held m [c0] y0 g0
    have g1 := hf 1 _ rfl
    simp only [List.getElem_toArray, List.getElem_cons_zero, List.getElem_cons_succ, e1] at g1
    obtain ⟨a1, K1, w1, m1⟩ := opn24 enc W spare held m [c1, c2] y1 g1
    have g2 := hf 2 _ rfl
    simp only [List.getElem_toArray, List.getElem_cons_zero, List.getElem_cons_succ, e2] at g2
    obtain ⟨a2, K2, w2, m2⟩ := (opens_int Try.underlying3) enc W spare held m [c3] y2 g2
    exact ⟨⟨a0, a1, a2⟩, ⟨[c0], [c1, c2, c3], rfl, K0, ⟨[c1, c2], [c3], rfl, K1, K2⟩⟩, ⟨w0, w1, w2⟩, by simp only [mu33, List.map_cons, List.map_nil, uptoBulk, uptoBulkAll]; omega⟩
end Go.Proofs.Ytafclgjnomocdaa.Q
