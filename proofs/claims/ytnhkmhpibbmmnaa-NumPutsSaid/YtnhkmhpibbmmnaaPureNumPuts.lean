/- The law NumPuts: any number's bytes are the document's, and it is read from them, whatever is behind. -/
import Derived.Test.YtnhkmhpibbmmnaaQx5
import Derived.Test.YtnhkmhpibbmmnaaQx3
import Derived.Test.YtnhkmhpibbmmnaaNumG
namespace Go.Proofs.Ytnhkmhpibbmmnaa.Pure
set_option linter.unusedVariables false
open Go.RowKit Go.Proofs.Ytnhkmhpibbmmnaa.Q Go.Proofs.YtnhkmhpibbmmnaaW.PrintWords Go.Proofs.YtnhkmhpibbmmnaaW.PrintLast Go.Proofs.Ytnhkmhpibbmmnaa.Base Go.Proofs.Ytnhkmhpibbmmnaa.Num

theorem NumPuts : spoorlaw01_NumPuts.Pure := by
  intro a0 a1 h0 h1
  obtain ⟨n0, n1⟩ := wf_u64 h0
  obtain ⟨n, rfl⟩ := Int.eq_ofNat_of_zero_le n0
  have hn : n < 18446744073709551616 := by omega
  have hl := putL_len hn
  have hsz : (strOfNums (putL n) ++ a1).size ≤ 281474976710656 := by rw [ByteArray.size_append, strOfNums_size]; omega
  refine Ev.rounds (g := fun k => spoorlaw01_NumPuts.f k (n : Int) a1) (r := true) ?_
  simp only [spoorlaw01_NumPuts.f]
  refine Ev.bind (put_ev hn) ?_
  refine Ev.pos (by rw [strOfNums_size]; omega) ?_
  refine Ev.bind (get_ev0 _ hsz) ?_
  refine Ev.bind (Ev.of (r := true) spoorlaw01_numbers.mono (k := 40) (by decide +kernel)) ?_
  refine Ev.pos rfl (Ev.bind (rput_ev n hn) (Ev.pos rfl ?_))
  rw [bytes_append, bytes_str (putL_bytes n), getL_put0 _ hn]
  refine Ev.pos rfl (Ev.pos ?_ (Ev.const rfl))
  simp only [getR, str_bytes]
end Go.Proofs.Ytnhkmhpibbmmnaa.Pure
