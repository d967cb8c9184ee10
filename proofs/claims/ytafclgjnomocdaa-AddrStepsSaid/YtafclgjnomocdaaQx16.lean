-- Printed by this session's program wip/tools/mp.sh out of the translation.
import Derived.Test.YtafclgjnomocdaaQx0
import Derived.Test.YtafclgjnomocdaaQx4
namespace Go.Proofs.Ytafclgjnomocdaa.Q
open Go.RowKit Go.Proofs.YtafclgjnomocdaaW.PrintWords Go.Proofs.YtafclgjnomocdaaW.PrintLast Go.Proofs.YtafclgjnomocdaaW.PrintMore
attribute [local go_sem] max2_int min2_int max_two min_two max_three min_three max_four min_four   -- for this text's walks alone
set_option linter.unusedVariables false
set_option linter.unusedSimpArgs false

/-! ### spoorref09_Check: function 21 -/
mutual
def spoorref09_Check.j0 : Nat → Bool → Bool → Int → Int → Int → Option (Int)
 | 0, _, _, _, _, _ => none
 | k + 1, x23, x267000, x267001, x267002, x267003 => if x23 = true then (some 2) else ((spoorref09_bits.f k x267000 x267001 x267002).bind fun t269 => (spoorref09_Check.l0 k t269 (t269.length : Int) 0 x267000 x267001 x267002 x267003))
def spoorref09_Check.l0 : Nat → List Int → Int → Int → Bool → Int → Int → Int → Option (Int)
 | 0, _, _, _, _, _, _, _ => none
 | k + 1, x28, x29, x30, x267000, x267001, x267002, x267003 => if x30 < x29 then (if 0 ≤ x30 then (if x30 < (x28.length : Int) then (if x30 ≥ x267003 then (if (rd x28 x30) = 0 then (spoorref09_Check.l0 k x28 x29 (wrap64 (x30 + 1)) x267000 x267001 x267002 x267003) else (some 2)) else (spoorref09_Check.l0 k x28 x29 (wrap64 (x30 + 1)) x267000 x267001 x267002 x267003)) else (none)) else (none)) else (some 0)
end
def spoorref09_Check.f (k : Nat) (a0_0 : Bool) (a0_1 : Int) (a0_2 : Int) (a0_3 : Int) : Option (Int) := if a0_3 < 0 then (spoorref09_Check.j0 k true a0_0 a0_1 a0_2 a0_3) else ((spoorref09_Wide.f a0_0).bind fun t267 => (if a0_3 > t267 then (spoorref09_Check.j0 k true a0_0 a0_1 a0_2 a0_3) else ((spoorref09_Right.f a0_0 a0_1 a0_2).bind fun t268 => (spoorref09_Check.j0 k (!t268) a0_0 a0_1 a0_2 a0_3))))
theorem spoorref09_Check.mono_l : ∀ k, (∀ y0 y1 y2 y3 y4, LeO (spoorref09_Check.j0 k y0 y1 y2 y3 y4) (spoorref09_Check.j0 (k + 1) y0 y1 y2 y3 y4)) ∧ (∀ y0 y1 y2 y3 y4 y5 y6, LeO (spoorref09_Check.l0 k y0 y1 y2 y3 y4 y5 y6) (spoorref09_Check.l0 (k + 1) y0 y1 y2 y3 y4 y5 y6))
 | 0 => ⟨fun _ _ _ _ _ r h => by simp [spoorref09_Check.j0] at h, fun _ _ _ _ _ _ _ r h => by simp [spoorref09_Check.l0] at h⟩
 | k + 1 => by
  obtain ⟨ih0, ih1⟩ := spoorref09_Check.mono_l k
  refine ⟨?_, ?_⟩
  ·intro y0 y1 y2 y3 y4
   unfold spoorref09_Check.j0
   repeat' first
   | (with_reducible exact ih0 _ _ _ _ _)
   | (with_reducible exact ih1 _ _ _ _ _ _ _)
   | (with_reducible exact spoorref09_bits.mono _ _ _ _)
   | (with_reducible exact LeO.refl _)
   | (with_reducible exact LeO.none _)
   | (with_reducible refine LeO.ite ?_ ?_)
   | (with_reducible refine LeO.bind ?_ (fun _ => ?_))
   | exact ih0 _ _ _ _ _
   | exact ih1 _ _ _ _ _ _ _
   | exact spoorref09_bits.mono _ _ _ _
   | exact LeO.none _
   | refine LeO.ite ?_ ?_
   | refine LeO.bind ?_ (fun _ => ?_)
  ·intro y0 y1 y2 y3 y4 y5 y6
   unfold spoorref09_Check.l0
   repeat' first
   | (with_reducible exact ih0 _ _ _ _ _)
   | (with_reducible exact ih1 _ _ _ _ _ _ _)
   | (with_reducible exact spoorref09_bits.mono _ _ _ _)
   | (with_reducible exact LeO.refl _)
   | (with_reducible exact LeO.none _)
   | (with_reducible refine LeO.ite ?_ ?_)
   | (with_reducible refine LeO.bind ?_ (fun _ => ?_))
   | exact ih0 _ _ _ _ _
   | exact ih1 _ _ _ _ _ _ _
   | exact spoorref09_bits.mono _ _ _ _
   | exact LeO.none _
   | refine LeO.ite ?_ ?_
   | refine LeO.bind ?_ (fun _ => ?_)
theorem spoorref09_Check.mono : ∀ a0 a1 a2 a3 k, LeO (spoorref09_Check.f k a0 a1 a2 a3) (spoorref09_Check.f (k + 1) a0 a1 a2 a3) := by
 intro a0 a1 a2 a3 k
 obtain ⟨ih0, ih1⟩ := spoorref09_Check.mono_l k
 unfold spoorref09_Check.f
 repeat' first
   | (with_reducible exact ih0 _ _ _ _ _)
   | (with_reducible exact ih1 _ _ _ _ _ _ _)
   | (with_reducible exact spoorref09_bits.mono _ _ _ _)
   | (with_reducible exact LeO.refl _)
   | (with_reducible exact LeO.none _)
   | (with_reducible refine LeO.ite ?_ ?_)
   | (with_reducible refine LeO.bind ?_ (fun _ => ?_))
   | exact ih0 _ _ _ _ _
   | exact ih1 _ _ _ _ _ _ _
   | exact spoorref09_bits.mono _ _ _ _
   | exact LeO.none _
   | refine LeO.ite ?_ ?_
   | refine LeO.bind ?_ (fun _ => ?_)
def spoorref09_Check.T1 : Bool × List (List Nat × List Nat) := (true, [([], []), ([0], [0]), ([1], [1]), ([2], [2]), ([3], [3]), ([4, 3], [3, 4]), ([3], [3]), ([6, 3], [3, 6]), ([7, 3, 3], [3, 7]), ([5, 8, 3], [3, 5, 8]), ([3, 9], [3, 9]), ([10, 8], [10]), ([11], [11]), ([12, 11], [11, 12]), ([11], [11]), ([14, 11], [11, 14]), ([13, 15, 11, 11], [11, 13, 15]), ([16, 11], [11, 16]), ([11, 17], [11, 17])])
def spoorref09_Check.B1 : List Nat := [0, 1, 3, 7, 15, 31, 15, 79, 207, 511, 1023, 2047, 4095, 8191, 4095, 20479, 65535, 131071, 262143]
theorem spoorref09_Check.tab1 : rtab .any (opsOf Try.f21 1) = spoorref09_Check.T1 := by kernel_rfl
theorem spoorref09_Check.bits1 : waitsOk spoorref09_Check.T1.2 spoorref09_Check.B1 = true := by kernel_rfl

end Go.Proofs.Ytafclgjnomocdaa.Q
