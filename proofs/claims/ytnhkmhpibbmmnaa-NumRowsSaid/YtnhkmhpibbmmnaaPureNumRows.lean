/- The law NumRows: any numbers have the document's bytes, and any bytes begin with the document's row, or none. -/
import Derived.Test.YtnhkmhpibbmmnaaQx11
import Derived.Test.YtnhkmhpibbmmnaaNumRow
namespace Go.Proofs.Ytnhkmhpibbmmnaa.Pure
set_option linter.unusedVariables false
open Go.RowKit Go.Proofs.Ytnhkmhpibbmmnaa.Q Go.Proofs.YtnhkmhpibbmmnaaW.PrintWords Go.Proofs.YtnhkmhpibbmmnaaW.PrintLast Go.Proofs.Ytnhkmhpibbmmnaa.Base Go.Proofs.Ytnhkmhpibbmmnaa.Num

theorem rows_long {l : List Int} {b : List Int} (hb : Bytes l) : (rowR l).1.length ≤ 9223372036854775807 := by
  rcases Int.decEq (rowR l).2.2 0 with h | h
  · unfold rowR at h ⊢
    split at h <;> rename_i h1
    · split at h <;> rename_i h2
      · simp [h1, h2]
      · rw [if_pos h1, if_neg h2]
        rcases getN_err (getL 0 0 l).1.toNat (getL 0 0 l).2.1 [] with g | ⟨_, g, _⟩
        · exact absurd g h
        · rw [g]; simp
    · simp [h1]
  · have := (rowR_back (l := l) (a := (rowR l).1) (r := (rowR l).2.1) hb (Prod.ext rfl (Prod.ext rfl h))).2.2.1
    omega
theorem NumRows : spoorlaw01_NumRows.Pure := by
  intro l s _ _ hw h1
  have hu := U64s.of_wf hw
  refine Ev.rounds (g := fun k => spoorlaw01_NumRows.f k l s) (r := true) ?_
  simp only [spoorlaw01_NumRows.f]
  have rest : ∀ x : ByteArray × Int, Ev (fun n => (num_GetRow.f n s).bind fun bt213 => (spoorref01_GetRow.f n s).bind fun bt218 => (spoorlaw01_rows.f n).bind fun t223 => if t223 = true then if x.1.toList = x.1.toList then if x.2 = x.2 then (spoorref01_Same.f n bt213.1 bt218.1).bind fun t224 => if t224 = true then if bt213.2.1.toList = bt218.2.1.toList then some (bt213.2.2 == bt218.2.2) else some false else some false else some false else some false else some false) true := by
    intro x
    refine Ev.bind (getrow_ev s (by omega)) (Ev.bind (rgetrow_ev s (by omega)) ?_)
    refine Ev.bind (Ev.of (r := true) spoorlaw01_rows.mono (k := 40) (by decide +kernel)) ?_
    refine Ev.pos rfl (Ev.pos rfl (Ev.pos rfl (Ev.bind (same_ev _ ?_) (Ev.pos rfl (Ev.pos rfl (Ev.const (by simp)))))))
    exact rows_long (b := []) (bytesOf_bytes s)
  by_cases hl : l.length ≤ 4096
  · exact Ev.bind (row_ev hu hl) (Ev.bind (rrow_ev hu hl) (rest _))
  · exact Ev.bind (row_long hl) (Ev.bind (rrow_long hl) (rest _))
end Go.Proofs.Ytnhkmhpibbmmnaa.Pure
