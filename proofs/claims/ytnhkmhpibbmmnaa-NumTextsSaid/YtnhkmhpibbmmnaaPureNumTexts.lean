/- The law NumTexts: any text has the document's bytes, and any bytes begin with the document's text, or none. -/
import Derived.Test.YtnhkmhpibbmmnaaQx12
import Derived.Test.YtnhkmhpibbmmnaaQx11
import Derived.Test.YtnhkmhpibbmmnaaNumRow
namespace Go.Proofs.Ytnhkmhpibbmmnaa.Pure
set_option linter.unusedVariables false
open Go.RowKit Go.Proofs.Ytnhkmhpibbmmnaa.Q Go.Proofs.YtnhkmhpibbmmnaaW.PrintWords Go.Proofs.YtnhkmhpibbmmnaaW.PrintLast Go.Proofs.Ytnhkmhpibbmmnaa.Base Go.Proofs.Ytnhkmhpibbmmnaa.Num

theorem NumTexts : spoorlaw01_NumTexts.Pure := by
  intro t s h0 h1
  refine Ev.rounds (g := fun k => spoorlaw01_NumTexts.f k t s) (r := true) ?_
  simp only [spoorlaw01_NumTexts.f]
  have rest : ∀ x : ByteArray × Int, Ev (fun n => (num_GetText.f n s).bind fun bt233 => (spoorref01_GetText.f n s).bind fun bt236 => (spoorlaw01_rows.f n).bind fun t239 => if t239 = true then if x.1.toList = x.1.toList then if x.2 = x.2 then if bt233.1.toList = bt236.1.toList then if bt233.2.1.toList = bt236.2.1.toList then some (bt233.2.2 == bt236.2.2) else some false else some false else some false else some false else some false) true := by
    intro x
    refine Ev.bind (gettext_ev s (by omega)) (Ev.bind (rgettext_ev s (by omega)) ?_)
    refine Ev.bind (Ev.of (r := true) spoorlaw01_rows.mono (k := 40) (by decide +kernel)) ?_
    exact Ev.pos rfl (Ev.pos rfl (Ev.pos rfl (Ev.pos rfl (Ev.pos rfl (Ev.const (by simp))))))
  by_cases hl : t.size ≤ 32768
  · exact Ev.bind (text_ev hl) (Ev.bind (rtext_ev hl) (rest _))
  · exact Ev.bind (text_long hl) (Ev.bind (rtext_long hl) (rest _))
end Go.Proofs.Ytnhkmhpibbmmnaa.Pure
