-- Printed by this session's program wip/tools/mp.sh out of the translation.
import Derived.Test.YtafclgjnomocdaaQx0
import Derived.Test.YtafclgjnomocdaaQx4
import Derived.Test.YtafclgjnomocdaaQx16
namespace Go.Proofs.Ytafclgjnomocdaa.Q
open Go.RowKit Go.Proofs.YtafclgjnomocdaaW.PrintWords Go.Proofs.YtafclgjnomocdaaW.PrintLast Go.Proofs.YtafclgjnomocdaaW.PrintMore
attribute [local go_sem] max2_int min2_int max_two min_two max_three min_three max_four min_four   -- for this text's walks alone
set_option linter.unusedVariables false
set_option linter.unusedSimpArgs false

/-! ### spoorref09_Has: function 23 -/
mutual
def spoorref09_Has.j0 : Nat → Bool → Bool → Bool → Int → Int → Int → Int → Int → Option (Bool)
 | 0, _, _, _, _, _, _, _, _ => none
 | k + 1, x1, x24, x294000, x294001, x294002, x294003, x295000, x295001 => if x24 = true then (some false) else ((spoorref09_bits.f k x1 x294001 x294002).bind fun t297 => ((spoorref09_bits.f k x1 x295000 x295001).bind fun t300 => (spoorref09_Has.l0 k t297 t300 0 x294000 x294001 x294002 x294003)))
def spoorref09_Has.l0 : Nat → List Int → List Int → Int → Bool → Int → Int → Int → Option (Bool)
 | 0, _, _, _, _, _, _, _ => none
 | k + 1, x7, x8, x9, x294000, x294001, x294002, x294003 => if x9 < x294003 then (if 0 ≤ x9 then (if x9 < (x7.length : Int) then (if x9 < (x8.length : Int) then (if (rd x7 x9) = (rd x8 x9) then (spoorref09_Has.l0 k x7 x8 (wrap64 (x9 + 1)) x294000 x294001 x294002 x294003) else (some false)) else (none)) else (none)) else (none)) else (some true)
end
def spoorref09_Has.f (k : Nat) (a0_0 : Bool) (a0_1 : Int) (a0_2 : Int) (a0_3 : Int) (a1 : Bool) (a2_0 : Int) (a2_1 : Int) : Option (Bool) := (spoorref09_Check.f k a0_0 a0_1 a0_2 a0_3).bind fun t295 => (if t295 = 0 then (if (a0_0 != a1) = true then (spoorref09_Has.j0 k a1 true a0_0 a0_1 a0_2 a0_3 a2_0 a2_1) else ((spoorref09_Right.f a1 a2_0 a2_1).bind fun t296 => (spoorref09_Has.j0 k a1 (!t296) a0_0 a0_1 a0_2 a0_3 a2_0 a2_1))) else (spoorref09_Has.j0 k a1 true a0_0 a0_1 a0_2 a0_3 a2_0 a2_1))
theorem spoorref09_Has.mono_l : ∀ k, (∀ y0 y1 y2 y3 y4 y5 y6 y7, LeO (spoorref09_Has.j0 k y0 y1 y2 y3 y4 y5 y6 y7) (spoorref09_Has.j0 (k + 1) y0 y1 y2 y3 y4 y5 y6 y7)) ∧ (∀ y0 y1 y2 y3 y4 y5 y6, LeO (spoorref09_Has.l0 k y0 y1 y2 y3 y4 y5 y6) (spoorref09_Has.l0 (k + 1) y0 y1 y2 y3 y4 y5 y6))
 | 0 => ⟨fun _ _ _ _ _ _ _ _ r h => by simp [spoorref09_Has.j0] at h, fun _ _ _ _ _ _ _ r h => by simp [spoorref09_Has.l0] at h⟩
 | k + 1 => by
  obtain ⟨ih0, ih1⟩ := spoorref09_Has.mono_l k
  refine ⟨?_, ?_⟩
  ·intro y0 y1 y2 y3 y4 y5 y6 y7
   unfold spoorref09_Has.j0
   repeat' first
   | (with_reducible exact ih0 _ _ _ _ _ _ _ _)
   | (with_reducible exact ih1 _ _ _ _ _ _ _)
   | (with_reducible exact spoorref09_Check.mono _ _ _ _ _)
   | (with_reducible exact spoorref09_bits.mono _ _ _ _)
   | (with_reducible exact LeO.refl _)
   | (with_reducible exact LeO.none _)
   | (with_reducible refine LeO.ite ?_ ?_)
   | (with_reducible refine LeO.bind ?_ (fun _ => ?_))
   | exact ih0 _ _ _ _ _ _ _ _
   | exact ih1 _ _ _ _ _ _ _
   | exact spoorref09_Check.mono _ _ _ _ _
   | exact spoorref09_bits.mono _ _ _ _
   | exact LeO.none _
   | refine LeO.ite ?_ ?_
   | refine LeO.bind ?_ (fun _ => ?_)
  ·intro y0 y1 y2 y3 y4 y5 y6
   unfold spoorref09_Has.l0
   repeat' first
   | (with_reducible exact ih0 _ _ _ _ _ _ _ _)
   | (with_reducible exact ih1 _ _ _ _ _ _ _)
   | (with_reducible exact spoorref09_Check.mono _ _ _ _ _)
   | (with_reducible exact spoorref09_bits.mono _ _ _ _)
   | (with_reducible exact LeO.refl _)
   | (with_reducible exact LeO.none _)
   | (with_reducible refine LeO.ite ?_ ?_)
   | (with_reducible refine LeO.bind ?_ (fun _ => ?_))
   | exact ih0 _ _ _ _ _ _ _ _
   | exact ih1 _ _ _ _ _ _ _
   | exact spoorref09_Check.mono _ _ _ _ _
   | exact spoorref09_bits.mono _ _ _ _
   | exact LeO.none _
   | refine LeO.ite ?_ ?_
   | refine LeO.bind ?_ (fun _ => ?_)
theorem spoorref09_Has.mono : ∀ a0 a1 a2 a3 a4 a5 a6 k, LeO (spoorref09_Has.f k a0 a1 a2 a3 a4 a5 a6) (spoorref09_Has.f (k + 1) a0 a1 a2 a3 a4 a5 a6) := by
 intro a0 a1 a2 a3 a4 a5 a6 k
 obtain ⟨ih0, ih1⟩ := spoorref09_Has.mono_l k
 unfold spoorref09_Has.f
 repeat' first
   | (with_reducible exact ih0 _ _ _ _ _ _ _ _)
   | (with_reducible exact ih1 _ _ _ _ _ _ _)
   | (with_reducible exact spoorref09_Check.mono _ _ _ _ _)
   | (with_reducible exact spoorref09_bits.mono _ _ _ _)
   | (with_reducible exact LeO.refl _)
   | (with_reducible exact LeO.none _)
   | (with_reducible refine LeO.ite ?_ ?_)
   | (with_reducible refine LeO.bind ?_ (fun _ => ?_))
   | exact ih0 _ _ _ _ _ _ _ _
   | exact ih1 _ _ _ _ _ _ _
   | exact spoorref09_Check.mono _ _ _ _ _
   | exact spoorref09_bits.mono _ _ _ _
   | exact LeO.none _
   | refine LeO.ite ?_ ?_
   | refine LeO.bind ?_ (fun _ => ?_)
def spoorref09_Has.T3 : Bool × List (List Nat × List Nat) := (true, [([], []), ([], []), ([1], [1]), ([0, 2], [0, 2]), ([], []), ([], []), ([4, 5, 3], [4, 5]), ([3, 6, 0, 1, 2, 3], [3]), ([6, 7, 0, 1, 2, 3, 4, 5, 6, 7], [6])])
def spoorref09_Has.B3 : List Nat := [0, 0, 2, 7, 0, 0, 63, 127, 255]
theorem spoorref09_Has.tab3 : rtab .any (opsOf Try.f23 3) = spoorref09_Has.T3 := by kernel_rfl
theorem spoorref09_Has.bits3 : waitsOk spoorref09_Has.T3.2 spoorref09_Has.B3 = true := by kernel_rfl
def spoorref09_Has.T7 : Bool × List (List Nat × List Nat) := (true, [([], []), ([], []), ([0, 1], [0, 1]), ([2], [2]), ([], []), ([], []), ([4, 5], [4, 5]), ([6], [6]), ([3, 7], [3, 7])])
def spoorref09_Has.B7 : List Nat := [0, 0, 3, 7, 0, 0, 48, 112, 255]
theorem spoorref09_Has.tab7 : rtab .any (opsOf Try.f23 7) = spoorref09_Has.T7 := by kernel_rfl
theorem spoorref09_Has.bits7 : waitsOk spoorref09_Has.T7.2 spoorref09_Has.B7 = true := by kernel_rfl

end Go.Proofs.Ytafclgjnomocdaa.Q
