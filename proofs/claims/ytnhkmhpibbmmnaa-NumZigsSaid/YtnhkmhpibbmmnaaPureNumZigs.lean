/- The law NumZigs: turned there and back a number is itself, either way. -/
import Derived.Test.YtnhkmhpibbmmnaaQx6
import Derived.Test.YtnhkmhpibbmmnaaQx3
import Derived.Test.YtnhkmhpibbmmnaaBase
namespace Go.Proofs.Ytnhkmhpibbmmnaa.Pure
set_option linter.unusedVariables false
open Go.RowKit Go.Proofs.Ytnhkmhpibbmmnaa.Q Go.Proofs.YtnhkmhpibbmmnaaW.PrintWords Go.Proofs.YtnhkmhpibbmmnaaW.PrintLast Go.Proofs.Ytnhkmhpibbmmnaa.Base

theorem xor0 {x : Int} (h0 : 0 ≤ x) (h1 : x < 18446744073709551616) : Go.bits .xor .u64 x 0 = x := by
  obtain ⟨n, rfl⟩ := Int.eq_ofNat_of_zero_le h0
  have e : (BitVec.ofInt 64 (n : Int) ^^^ BitVec.ofInt 64 0).toNat = n := by
    rw [show BitVec.ofInt 64 0 = 0#64 from rfl, BitVec.xor_zero, BitVec.ofInt_natCast, BitVec.toNat_ofNat]
    omega
  show IntKind.u64.wrap (((BitVec.ofInt 64 (n : Int) ^^^ BitVec.ofInt 64 0).toNat : Nat) : Int) = _
  rw [e, u64w (by omega) (by omega)]
theorem xor1 {x : Int} (h0 : 0 ≤ x) (h1 : x < 18446744073709551616) : Go.bits .xor .u64 x 18446744073709551615 = 18446744073709551615 - x := by
  obtain ⟨n, rfl⟩ := Int.eq_ofNat_of_zero_le h0
  have e : (BitVec.ofInt 64 (n : Int) ^^^ BitVec.ofInt 64 18446744073709551615).toNat = 18446744073709551615 - n := by
    rw [show BitVec.ofInt 64 18446744073709551615 = BitVec.allOnes 64 from rfl, BitVec.xor_allOnes, BitVec.toNat_not, BitVec.ofInt_natCast, BitVec.toNat_ofNat]
    omega
  show IntKind.u64.wrap (((BitVec.ofInt 64 (n : Int) ^^^ BitVec.ofInt 64 18446744073709551615).toNat : Nat) : Int) = _
  rw [e, u64w (by omega) (by omega)]
  omega
theorem xori0 {x : Int} (h0 : 0 ≤ x) (h1 : x < 9223372036854775808) : Go.bits .xor .i64 x 0 = x := by
  obtain ⟨n, rfl⟩ := Int.eq_ofNat_of_zero_le h0
  have e : (BitVec.ofInt 64 (n : Int) ^^^ BitVec.ofInt 64 0).toNat = n := by
    rw [show BitVec.ofInt 64 0 = 0#64 from rfl, BitVec.xor_zero, BitVec.ofInt_natCast, BitVec.toNat_ofNat]
    omega
  show IntKind.i64.wrap (((BitVec.ofInt 64 (n : Int) ^^^ BitVec.ofInt 64 0).toNat : Nat) : Int) = _
  rw [e, IntKind.wrap_i64]
  omega
theorem xori1 {x : Int} (h0 : 0 ≤ x) (h1 : x < 9223372036854775808) : Go.bits .xor .i64 x (-1) = -1 - x := by
  obtain ⟨n, rfl⟩ := Int.eq_ofNat_of_zero_le h0
  have e : (BitVec.ofInt 64 (n : Int) ^^^ BitVec.ofInt 64 (-1)).toNat = 18446744073709551615 - n := by
    rw [show BitVec.ofInt 64 (-1) = BitVec.allOnes 64 from rfl, BitVec.xor_allOnes, BitVec.toNat_not, BitVec.ofInt_natCast, BitVec.toNat_ofNat]
    omega
  show IntKind.i64.wrap (((BitVec.ofInt 64 (n : Int) ^^^ BitVec.ofInt 64 (-1)).toNat : Nat) : Int) = _
  rw [e, IntKind.wrap_i64]
  omega
theorem and1 {x : Int} (h0 : 0 ≤ x) (h1 : x < 18446744073709551616) : Go.bits .and .u64 x 1 = x % 2 :=
  bits_mask .u64 64 (by decide) wraps_u64 1 (by decide) x h0 (by omega)
/-- A number with a sign as one without. -/
def zig (n : Int) : Int := if 0 ≤ n then 2 * n else -2 * n - 1
def zag (u : Int) : Int := if u % 2 = 0 then u / 2 else -(u / 2) - 1
theorem zig_is {n : Int} (h0 : -9223372036854775808 ≤ n) (h1 : n ≤ 9223372036854775807) : num_Zig.f n = some (zig n) := by
  unfold num_Zig.f zig
  congr 1
  rw [u64m, u64m, u64m]
  by_cases h : 0 ≤ n
  · rw [if_pos h, show n / 9223372036854775808 % 18446744073709551616 = 0 by omega, xor0 (by omega) (by omega)]
    omega
  · rw [if_neg h, show n / 9223372036854775808 % 18446744073709551616 = 18446744073709551615 by omega, xor1 (by omega) (by omega)]
    omega
theorem zag_is {u : Int} (h0 : 0 ≤ u) (h1 : u < 18446744073709551616) : num_Zag.f u = some (zag u) := by
  unfold num_Zag.f zag
  congr 1
  rw [and1 h0 h1, w64 (n := u / 2) (by omega) (by omega), w64 (n := u % 2) (by omega) (by omega), w64 (n := -(u % 2)) (by omega) (by omega)]
  by_cases h : u % 2 = 0
  · rw [if_pos h, h]
    exact xori0 (by omega) (by omega)
  · rw [if_neg h, show u % 2 = 1 by omega, xori1 (by omega) (by omega)]
    omega
theorem rzig_is {n : Int} (h0 : -9223372036854775808 ≤ n) (h1 : n ≤ 9223372036854775807) : spoorref01_Zig.f n = some (zig n) := by
  unfold spoorref01_Zig.f zig
  by_cases h : 0 ≤ n
  · rw [if_pos h, if_pos h]
    congr 1
    simp only [u64m]
    omega
  · rw [if_neg h, if_neg h]
    congr 1
    rw [w64 (n := n + 1) (by omega) (by omega), w64 (n := -(n + 1)) (by omega) (by omega)]
    simp only [u64m]
    omega
theorem rzag_is {u : Int} (h0 : 0 ≤ u) (h1 : u < 18446744073709551616) : spoorref01_Zag.f u = some (zag u) := by
  unfold spoorref01_Zag.f zag
  rw [Int.tmod_eq_emod_of_nonneg h0, Int.tdiv_eq_ediv_of_nonneg h0, u64w (n := u / 2) (by omega) (by omega), w64 (n := u / 2) (by omega) (by omega), w64 (n := -(u / 2)) (by omega) (by omega), w64 (by omega) (by omega)]
  split <;> rfl
theorem NumZigs : spoorlaw01_NumZigs.Pure := by
  intro a0 a1 h0 h1
  obtain ⟨n0, n1⟩ := wf_i64 h0
  obtain ⟨u0, u1⟩ := wf_u64 h1
  have z0 : 0 ≤ zig a0 ∧ zig a0 < 18446744073709551616 := by unfold zig; split <;> omega
  have z1 : -9223372036854775808 ≤ zag a1 ∧ zag a1 ≤ 9223372036854775807 := by unfold zag; split <;> omega
  have e0 : zag (zig a0) = a0 := by unfold zag zig; split <;> split <;> omega
  have e1 : zig (zag a1) = a1 := by unfold zag zig; split <;> split <;> omega
  refine Ev.rounds (g := fun k => spoorlaw01_NumZigs.f k a0 a1) (r := true) ?_
  simp only [spoorlaw01_NumZigs.f, zig_is n0 n1, rzig_is n0 n1, zag_is u0 u1, rzag_is u0 u1, Option.bind_some, zag_is z0.1 z0.2, zig_is z1.1 z1.2, e0, e1]
  refine Ev.bind (Ev.of (r := true) spoorlaw01_numbers.mono (k := 40) (by decide +kernel)) ?_
  refine Ev.pos rfl (Ev.pos trivial (Ev.pos trivial (Ev.pos trivial (Ev.pos trivial (Ev.const ?_)))))
  rw [Int.tmod_eq_emod_of_nonneg z0.1]
  congr 1
  unfold zig
  by_cases h : 0 ≤ a0
  · rw [if_pos h, show 2 * a0 % 2 = 0 by omega, decide_eq_false (show ¬ a0 < 0 by omega)]; rfl
  · rw [if_neg h, show (-2 * a0 - 1) % 2 = 1 by omega, decide_eq_true (show a0 < 0 by omega)]; rfl
end Go.Proofs.Ytnhkmhpibbmmnaa.Pure
