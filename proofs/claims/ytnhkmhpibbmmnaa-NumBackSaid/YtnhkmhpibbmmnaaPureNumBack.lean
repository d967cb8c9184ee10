/- The law NumBack: rows and texts are read as what they were, and what was behind them stays; what is read has the bytes that it was read from. -/
import Derived.Test.YtnhkmhpibbmmnaaQx13
import Derived.Test.YtnhkmhpibbmmnaaQx11
import Derived.Test.YtnhkmhpibbmmnaaNumRow
namespace Go.Proofs.Ytnhkmhpibbmmnaa.Pure
set_option linter.unusedVariables false
open Go.RowKit Go.Proofs.Ytnhkmhpibbmmnaa.Q Go.Proofs.YtnhkmhpibbmmnaaW.PrintWords Go.Proofs.YtnhkmhpibbmmnaaW.PrintLast Go.Proofs.Ytnhkmhpibbmmnaa.Base Go.Proofs.Ytnhkmhpibbmmnaa.Num

/-- What is read of a text has its bytes. -/
theorem back_text (more : ByteArray) (hm : more.size ≤ 140737488351232) : ∃ b : ByteArray × Int, Ev (fun k => num_Text.f k (textS (textR (bytesOf more))).1) b ∧ ((textS (textR (bytesOf more))).2.2 = 0 → b.2 = 0 ∧ b.1.size + (textS (textR (bytesOf more))).2.1.size ≤ 9223372036854775807 ∧ b.1 ++ (textS (textR (bytesOf more))).2.1 = more) := by
  by_cases h : (textS (textR (bytesOf more))).1.size ≤ 32768
  · refine ⟨_, text_ev h, fun h0 => ?_⟩
    obtain ⟨e, hl, ha, hr⟩ := textR_back (l := bytesOf more) (a := (textR (bytesOf more)).1) (r := (textR (bytesOf more)).2.1) (bytesOf_bytes more) (Prod.ext rfl (Prod.ext rfl h0))
    have e2 : strOfNums (textL (bytesOf (textS (textR (bytesOf more))).1)) ++ (textS (textR (bytesOf more))).2.1 = more := by
      simp only [textS]
      rw [bytes_str ha, ← str_append, ← e, str_bytes]
    refine ⟨rfl, ?_, e2⟩
    show (strOfNums (textL (bytesOf (textS (textR (bytesOf more))).1))).size + (textS (textR (bytesOf more))).2.1.size ≤ _
    rw [← ByteArray.size_append, e2]
    omega
  · refine ⟨_, text_long h, fun h0 => ?_⟩
    obtain ⟨e, hl, ha, hr⟩ := textR_back (l := bytesOf more) (a := (textR (bytesOf more)).1) (r := (textR (bytesOf more)).2.1) (bytesOf_bytes more) (Prod.ext rfl (Prod.ext rfl h0))
    exact absurd (by simp only [textS]; rw [strOfNums_size]; exact hl) h
theorem back_row (more : ByteArray) (hm : more.size ≤ 140737488351232) : ∃ b : ByteArray × Int, Ev (fun k => num_Row.f k (rowS (rowR (bytesOf more))).1) b ∧ ((rowS (rowR (bytesOf more))).2.2 = 0 → b.2 = 0 ∧ b.1.size + (rowS (rowR (bytesOf more))).2.1.size ≤ 9223372036854775807 ∧ b.1 ++ (rowS (rowR (bytesOf more))).2.1 = more) := by
  by_cases h0 : (rowR (bytesOf more)).2.2 = 0
  · obtain ⟨e, hu, hl, hr⟩ := rowR_back (l := bytesOf more) (a := (rowR (bytesOf more)).1) (r := (rowR (bytesOf more)).2.1) (bytesOf_bytes more) (Prod.ext rfl (Prod.ext rfl h0))
    have e2 : strOfNums (rowL (rowS (rowR (bytesOf more))).1) ++ (rowS (rowR (bytesOf more))).2.1 = more := by
      simp only [rowS]
      rw [← str_append, ← e, str_bytes]
    refine ⟨_, row_ev hu hl, fun _ => ⟨rfl, ?_, e2⟩⟩
    show (strOfNums (rowL (rowS (rowR (bytesOf more))).1)).size + (rowS (rowR (bytesOf more))).2.1.size ≤ _
    rw [← ByteArray.size_append, e2]
    omega
  · have hn : (rowS (rowR (bytesOf more))).1 = [] := by
      unfold rowR at h0 ⊢
      simp only [rowS]
      split at h0 <;> rename_i h1
      · split at h0 <;> rename_i h2
        · rw [if_pos h1, if_pos h2]
        · rw [if_pos h1, if_neg h2]
          rcases getN_err (getL 0 0 (bytesOf more)).1.toNat (getL 0 0 (bytesOf more)).2.1 [] with g | ⟨_, g, _⟩
          · exact absurd g h0
          · exact g
      · rw [if_neg h1]
    rw [hn]
    exact ⟨_, row_ev U64s.nil (by simp), fun h => absurd h h0⟩
theorem j1_ev (more : ByteArray) (hm : more.size ≤ 140737488351232) : Ev (fun k => spoorlaw01_NumBack.j1 k more) true := by
  obtain ⟨b, hb, b0⟩ := back_row more hm
  obtain ⟨c, hc, c0⟩ := back_text more hm
  refine Ev.succ ?_
  simp only [spoorlaw01_NumBack.j1]
  refine (Ev.bind (getrow_ev more (by omega)) (Ev.bind hb (Ev.bind (gettext_ev more (by omega)) (Ev.bind hc ?_))))
  have text : Ev (fun n => if (textS (textR (bytesOf more))).2.2 = 0 then if c.2 = 0 then if c.1.size + (textS (textR (bytesOf more))).2.1.size ≤ 9223372036854775807 then some ((c.1 ++ (textS (textR (bytesOf more))).2.1).toList == more.toList) else none else some false else some true) true := by
    by_cases h : (textS (textR (bytesOf more))).2.2 = 0
    · obtain ⟨q0, q1, q2⟩ := c0 h
      exact Ev.pos h (Ev.pos q0 (Ev.pos q1 (Ev.const (by rw [q2]; simp))))
    · exact Ev.neg h (Ev.now _)
  by_cases h : (rowS (rowR (bytesOf more))).2.2 = 0
  · obtain ⟨q0, q1, q2⟩ := b0 h
    exact Ev.pos h (Ev.pos q0 (Ev.pos q1 (Ev.pos (by rw [q2]) text)))
  · exact Ev.neg h text
theorem j0_ev (t more : ByteArray) (hm : more.size ≤ 140737488351232) : Ev (fun k => spoorlaw01_NumBack.j0 k t more) true := by
  by_cases h : t.size ≤ 32768
  · have hl : (textL (bytesOf t)).length ≤ 32778 := by
      have := putL_len (n := (bytesOf t).length) (by rw [bytesOf_length]; omega)
      simp only [textL, List.length_append]
      rw [bytesOf_length] at *
      omega
    have hb : Bytes (textL (bytesOf t)) := (putL_bytes _).append (bytesOf_bytes t)
    have e : textR (bytesOf (strOfNums (textL (bytesOf t)) ++ more)) = (bytesOf t, bytesOf more, 0) := by
      rw [bytes_append, bytes_str hb]
      exact textR_put _ (by rw [bytesOf_length]; exact h)
    refine Ev.succ ?_
    simp only [spoorlaw01_NumBack.j0]
    refine (Ev.bind (text_ev h) (Ev.pos rfl (Ev.pos (by rw [strOfNums_size]; omega) ?_)))
    refine Ev.bind (gettext_ev _ (by rw [ByteArray.size_append, strOfNums_size]; omega)) ?_
    rw [e]
    simp only [textS, str_bytes]
    exact Ev.pos trivial (Ev.pos trivial (Ev.pos trivial (j1_ev more hm)))
  · refine Ev.succ ?_
    simp only [spoorlaw01_NumBack.j0]
    exact (Ev.bind (text_long h) (Ev.neg (by decide) (j1_ev more hm)))
theorem NumBack : spoorlaw01_NumBack.Pure := by
  intro l t more _ _ hw h1 h2
  have hu := U64s.of_wf hw
  refine Ev.rounds (g := fun k => spoorlaw01_NumBack.f k l t more) (r := true) ?_
  simp only [spoorlaw01_NumBack.f]
  refine Ev.bind (Ev.of (r := true) spoorlaw01_rows.mono (k := 40) (by decide +kernel)) (Ev.pos rfl ?_)
  by_cases hl : l.length ≤ 4096
  · have hr := rowL_len hu hl
    refine Ev.bind (row_ev hu hl) (Ev.pos rfl (Ev.pos (by rw [strOfNums_size]; omega) ?_))
    have e : rowR (bytesOf (strOfNums (rowL l) ++ more)) = (l, bytesOf more, 0) := by
      rw [bytes_append, bytes_str (rowL_bytes l)]
      exact rowR_put _ hu hl
    refine Ev.bind (getrow_ev _ (by rw [ByteArray.size_append, strOfNums_size]; omega)) ?_
    rw [e]
    simp only [rowS, str_bytes]
    exact Ev.pos trivial (Ev.bind (same_ev l (by omega)) (Ev.pos rfl (Ev.pos trivial (j0_ev t more h2))))
  · exact Ev.bind (row_long hl) (Ev.neg (by decide) (j0_ev t more h2))
end Go.Proofs.Ytnhkmhpibbmmnaa.Pure
