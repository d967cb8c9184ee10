-- Printed by this session's program wip/tools/mp.sh out of the translation.
import Derived.Test.YtafclgjnomocdaaQx0
import Derived.Test.YtafclgjnomocdaaQx3
import Derived.Test.YtafclgjnomocdaaQx7
import Derived.Test.YtafclgjnomocdaaQx10
import Derived.Test.YtafclgjnomocdaaQx12
namespace Go.Proofs.Ytafclgjnomocdaa.Q
open Go.RowKit Go.Proofs.YtafclgjnomocdaaW.PrintWords Go.Proofs.YtafclgjnomocdaaW.PrintLast Go.Proofs.YtafclgjnomocdaaW.PrintMore
attribute [local go_sem] max2_int min2_int max_two min_two max_three min_three max_four min_four   -- for this text's walks alone
set_option linter.unusedVariables false
set_option linter.unusedSimpArgs false

/-! ### spoorlaw09_AddrBetween: function 5 -/
mutual
def spoorlaw09_AddrBetween.j0 : Nat → Bool → Bool → Int → Int → Int → Bool → Int → Int → Int → Int → Int → Int → Int → Option (Bool)
 | 0, _, _, _, _, _, _, _, _, _, _, _, _, _ => none
 | k + 1, x26, x350000, x350001, x350002, x350003, x351000, x351001, x351002, x351003, x352000, x352001, x357000, x357001 => if x26 = true then ((addr_Has.f k x350000 x350001 x350002 x350003 x350000 x352000 x352001).bind fun t358 => (some (!t358))) else ((addr_Has.f k x350000 x350001 x350002 x350003 x350000 x352000 x352001).bind fun t359 => ((addr_Cmp.f k x350001 x350002 x352000 x352001).bind fun t360 => (if t360 ≤ 0 then ((addr_Cmp.f k x352000 x352001 x357000 x357001).bind fun t361 => (if (t359 != (decide (t361 ≤ 0))) = true then (spoorlaw09_AddrBetween.j1 k true x350000 x350001 x350002 x350003 x351000 x351001 x351002 x351003) else ((addr_Has.f k x350000 x350001 x350002 x350003 (!x350000) x352000 x352001).bind fun t362 => (spoorlaw09_AddrBetween.j1 k t362 x350000 x350001 x350002 x350003 x351000 x351001 x351002 x351003)))) else (if (t359 != false) = true then (spoorlaw09_AddrBetween.j1 k true x350000 x350001 x350002 x350003 x351000 x351001 x351002 x351003) else ((addr_Has.f k x350000 x350001 x350002 x350003 (!x350000) x352000 x352001).bind fun t363 => (spoorlaw09_AddrBetween.j1 k t363 x350000 x350001 x350002 x350003 x351000 x351001 x351002 x351003))))))
def spoorlaw09_AddrBetween.j1 : Nat → Bool → Bool → Int → Int → Int → Bool → Int → Int → Int → Option (Bool)
 | 0, _, _, _, _, _, _, _, _, _ => none
 | k + 1, x57, x350000, x350001, x350002, x350003, x351000, x351001, x351002, x351003 => if x57 = true then (none) else ((addr_Last.f k x351000 x351001 x351002 x351003).bind fun bt364 => (if bt364.2.2 = 0 then (spoorlaw09_AddrBetween.j2 k (x351000 != x350000) x350000 x350001 x350002 x350003 x351000 x351001 x351002 x351003 bt364.1 bt364.2.1) else (spoorlaw09_AddrBetween.j2 k true x350000 x350001 x350002 x350003 x351000 x351001 x351002 x351003 bt364.1 bt364.2.1)))
def spoorlaw09_AddrBetween.j2 : Nat → Bool → Bool → Int → Int → Int → Bool → Int → Int → Int → Int → Int → Option (Bool)
 | 0, _, _, _, _, _, _, _, _, _, _, _ => none
 | k + 1, x71, x350000, x350001, x350002, x350003, x351000, x351001, x351002, x351003, x368000, x368001 => if x71 = true then ((addr_Covers.f k x350000 x350001 x350002 x350003 x351000 x351001 x351002 x351003).bind fun t368 => (if t368 = true then (none) else ((addr_Covers.f k x351000 x351001 x351002 x351003 x350000 x350001 x350002 x350003).bind fun t369 => (some (!t369))))) else ((addr_Covers.f k x350000 x350001 x350002 x350003 x351000 x351001 x351002 x351003).bind fun t370 => ((addr_Has.f k x350000 x350001 x350002 x350003 x350000 x351001 x351002).bind fun t371 => (if t371 = true then ((addr_Has.f k x350000 x350001 x350002 x350003 x350000 x368000 x368001).bind fun t372 => (if (t370 == t372) = true then ((addr_Covers.f k x350000 x350001 x350002 x350003 x351000 x351001 x351002 x351003).bind fun t373 => (if t373 = true then (some (decide (x350003 ≤ x351003))) else (some true))) else (none))) else (if (t370 == false) = true then ((addr_Covers.f k x350000 x350001 x350002 x350003 x351000 x351001 x351002 x351003).bind fun t374 => (if t374 = true then (some (decide (x350003 ≤ x351003))) else (some true))) else (none)))))
end
def spoorlaw09_AddrBetween.f (k : Nat) (a0_0 : Bool) (a0_1 : Int) (a0_2 : Int) (a0_3 : Int) (a1_0 : Bool) (a1_1 : Int) (a1_2 : Int) (a1_3 : Int) (a2_0 : Int) (a2_1 : Int) : Option (Bool) := (spoorlaw09_steps.f k).bind fun t352 => (if t352 = true then ((addr_Last.f k a0_0 a0_1 a0_2 a0_3).bind fun bt353 => (if bt353.2.2 = 0 then ((addr_Right.f a0_0 a2_0 a2_1).bind fun t357 => (spoorlaw09_AddrBetween.j0 k (!t357) a0_0 a0_1 a0_2 a0_3 a1_0 a1_1 a1_2 a1_3 a2_0 a2_1 bt353.1 bt353.2.1)) else (spoorlaw09_AddrBetween.j0 k true a0_0 a0_1 a0_2 a0_3 a1_0 a1_1 a1_2 a1_3 a2_0 a2_1 bt353.1 bt353.2.1))) else (none))
theorem spoorlaw09_AddrBetween.mono_l : ∀ k, (∀ y0 y1 y2 y3 y4 y5 y6 y7 y8 y9 y10 y11 y12, LeO (spoorlaw09_AddrBetween.j0 k y0 y1 y2 y3 y4 y5 y6 y7 y8 y9 y10 y11 y12) (spoorlaw09_AddrBetween.j0 (k + 1) y0 y1 y2 y3 y4 y5 y6 y7 y8 y9 y10 y11 y12)) ∧ (∀ y0 y1 y2 y3 y4 y5 y6 y7 y8, LeO (spoorlaw09_AddrBetween.j1 k y0 y1 y2 y3 y4 y5 y6 y7 y8) (spoorlaw09_AddrBetween.j1 (k + 1) y0 y1 y2 y3 y4 y5 y6 y7 y8)) ∧ (∀ y0 y1 y2 y3 y4 y5 y6 y7 y8 y9 y10, LeO (spoorlaw09_AddrBetween.j2 k y0 y1 y2 y3 y4 y5 y6 y7 y8 y9 y10) (spoorlaw09_AddrBetween.j2 (k + 1) y0 y1 y2 y3 y4 y5 y6 y7 y8 y9 y10))
 | 0 => ⟨fun _ _ _ _ _ _ _ _ _ _ _ _ _ r h => by simp [spoorlaw09_AddrBetween.j0] at h, fun _ _ _ _ _ _ _ _ _ r h => by simp [spoorlaw09_AddrBetween.j1] at h, fun _ _ _ _ _ _ _ _ _ _ _ r h => by simp [spoorlaw09_AddrBetween.j2] at h⟩
 | k + 1 => by
  obtain ⟨ih0, ih1, ih2⟩ := spoorlaw09_AddrBetween.mono_l k
  refine ⟨?_, ?_, ?_⟩
  ·intro y0 y1 y2 y3 y4 y5 y6 y7 y8 y9 y10 y11 y12
   unfold spoorlaw09_AddrBetween.j0
   repeat' first
   | (with_reducible exact ih0 _ _ _ _ _ _ _ _ _ _ _ _ _)
   | (with_reducible exact ih1 _ _ _ _ _ _ _ _ _)
   | (with_reducible exact ih2 _ _ _ _ _ _ _ _ _ _ _)
   | (with_reducible exact addr_Cmp.mono _ _ _ _ _)
   | (with_reducible exact addr_Covers.mono _ _ _ _ _ _ _ _ _)
   | (with_reducible exact addr_Has.mono _ _ _ _ _ _ _ _)
   | (with_reducible exact addr_Last.mono _ _ _ _ _)
   | (with_reducible exact spoorlaw09_steps.mono _)
   | (with_reducible exact LeO.refl _)
   | (with_reducible exact LeO.none _)
   | (with_reducible refine LeO.ite ?_ ?_)
   | (with_reducible refine LeO.bind ?_ (fun _ => ?_))
   | exact ih0 _ _ _ _ _ _ _ _ _ _ _ _ _
   | exact ih1 _ _ _ _ _ _ _ _ _
   | exact ih2 _ _ _ _ _ _ _ _ _ _ _
   | exact addr_Cmp.mono _ _ _ _ _
   | exact addr_Covers.mono _ _ _ _ _ _ _ _ _
   | exact addr_Has.mono _ _ _ _ _ _ _ _
   | exact addr_Last.mono _ _ _ _ _
   | exact spoorlaw09_steps.mono _
   | exact LeO.none _
   | refine LeO.ite ?_ ?_
   | refine LeO.bind ?_ (fun _ => ?_)
  ·intro y0 y1 y2 y3 y4 y5 y6 y7 y8
   unfold spoorlaw09_AddrBetween.j1
   repeat' first
   | (with_reducible exact ih0 _ _ _ _ _ _ _ _ _ _ _ _ _)
   | (with_reducible exact ih1 _ _ _ _ _ _ _ _ _)
   | (with_reducible exact ih2 _ _ _ _ _ _ _ _ _ _ _)
   | (with_reducible exact addr_Cmp.mono _ _ _ _ _)
   | (with_reducible exact addr_Covers.mono _ _ _ _ _ _ _ _ _)
   | (with_reducible exact addr_Has.mono _ _ _ _ _ _ _ _)
   | (with_reducible exact addr_Last.mono _ _ _ _ _)
   | (with_reducible exact spoorlaw09_steps.mono _)
   | (with_reducible exact LeO.refl _)
   | (with_reducible exact LeO.none _)
   | (with_reducible refine LeO.ite ?_ ?_)
   | (with_reducible refine LeO.bind ?_ (fun _ => ?_))
   | exact ih0 _ _ _ _ _ _ _ _ _ _ _ _ _
   | exact ih1 _ _ _ _ _ _ _ _ _
   | exact ih2 _ _ _ _ _ _ _ _ _ _ _
   | exact addr_Cmp.mono _ _ _ _ _
   | exact addr_Covers.mono _ _ _ _ _ _ _ _ _
   | exact addr_Has.mono _ _ _ _ _ _ _ _
   | exact addr_Last.mono _ _ _ _ _
   | exact spoorlaw09_steps.mono _
   | exact LeO.none _
   | refine LeO.ite ?_ ?_
   | refine LeO.bind ?_ (fun _ => ?_)
  ·intro y0 y1 y2 y3 y4 y5 y6 y7 y8 y9 y10
   unfold spoorlaw09_AddrBetween.j2
   repeat' first
   | (with_reducible exact ih0 _ _ _ _ _ _ _ _ _ _ _ _ _)
   | (with_reducible exact ih1 _ _ _ _ _ _ _ _ _)
   | (with_reducible exact ih2 _ _ _ _ _ _ _ _ _ _ _)
   | (with_reducible exact addr_Cmp.mono _ _ _ _ _)
   | (with_reducible exact addr_Covers.mono _ _ _ _ _ _ _ _ _)
   | (with_reducible exact addr_Has.mono _ _ _ _ _ _ _ _)
   | (with_reducible exact addr_Last.mono _ _ _ _ _)
   | (with_reducible exact spoorlaw09_steps.mono _)
   | (with_reducible exact LeO.refl _)
   | (with_reducible exact LeO.none _)
   | (with_reducible refine LeO.ite ?_ ?_)
   | (with_reducible refine LeO.bind ?_ (fun _ => ?_))
   | exact ih0 _ _ _ _ _ _ _ _ _ _ _ _ _
   | exact ih1 _ _ _ _ _ _ _ _ _
   | exact ih2 _ _ _ _ _ _ _ _ _ _ _
   | exact addr_Cmp.mono _ _ _ _ _
   | exact addr_Covers.mono _ _ _ _ _ _ _ _ _
   | exact addr_Has.mono _ _ _ _ _ _ _ _
   | exact addr_Last.mono _ _ _ _ _
   | exact spoorlaw09_steps.mono _
   | exact LeO.none _
   | refine LeO.ite ?_ ?_
   | refine LeO.bind ?_ (fun _ => ?_)
theorem spoorlaw09_AddrBetween.mono : ∀ a0 a1 a2 a3 a4 a5 a6 a7 a8 a9 k, LeO (spoorlaw09_AddrBetween.f k a0 a1 a2 a3 a4 a5 a6 a7 a8 a9) (spoorlaw09_AddrBetween.f (k + 1) a0 a1 a2 a3 a4 a5 a6 a7 a8 a9) := by
 intro a0 a1 a2 a3 a4 a5 a6 a7 a8 a9 k
 obtain ⟨ih0, ih1, ih2⟩ := spoorlaw09_AddrBetween.mono_l k
 unfold spoorlaw09_AddrBetween.f
 repeat' first
   | (with_reducible exact ih0 _ _ _ _ _ _ _ _ _ _ _ _ _)
   | (with_reducible exact ih1 _ _ _ _ _ _ _ _ _)
   | (with_reducible exact ih2 _ _ _ _ _ _ _ _ _ _ _)
   | (with_reducible exact addr_Cmp.mono _ _ _ _ _)
   | (with_reducible exact addr_Covers.mono _ _ _ _ _ _ _ _ _)
   | (with_reducible exact addr_Has.mono _ _ _ _ _ _ _ _)
   | (with_reducible exact addr_Last.mono _ _ _ _ _)
   | (with_reducible exact spoorlaw09_steps.mono _)
   | (with_reducible exact LeO.refl _)
   | (with_reducible exact LeO.none _)
   | (with_reducible refine LeO.ite ?_ ?_)
   | (with_reducible refine LeO.bind ?_ (fun _ => ?_))
   | exact ih0 _ _ _ _ _ _ _ _ _ _ _ _ _
   | exact ih1 _ _ _ _ _ _ _ _ _
   | exact ih2 _ _ _ _ _ _ _ _ _ _ _
   | exact addr_Cmp.mono _ _ _ _ _
   | exact addr_Covers.mono _ _ _ _ _ _ _ _ _
   | exact addr_Has.mono _ _ _ _ _ _ _ _
   | exact addr_Last.mono _ _ _ _ _
   | exact spoorlaw09_steps.mono _
   | exact LeO.none _
   | refine LeO.ite ?_ ?_
   | refine LeO.bind ?_ (fun _ => ?_)
def spoorlaw09_AddrBetween.T6 : Bool × List (List Nat × List Nat) := (true, [([], []), ([], []), ([1], [1]), ([], []), ([0, 2, 3], [0, 2, 3]), ([], []), ([5], [5]), ([], []), ([6, 7, 4], [6, 7]), ([8], [8]), ([9, 8], [9]), ([10], [10]), ([10], [10]), ([11, 12, 10, 10], [10, 11, 12]), ([13, 10], [10, 13]), ([10, 14], [10, 14]), ([4, 15], [4, 15]), ([16, 13], [16]), ([17], [17]), ([17], [17]), ([19, 17], [17, 19]), ([20, 17], [17, 20]), ([17], [17]), ([18, 21, 22, 17, 17], [17, 18, 21, 22]), ([17, 23], [17, 23])])
def spoorlaw09_AddrBetween.B6 : List Nat := [0, 0, 2, 0, 15, 0, 32, 0, 255, 511, 1023, 2047, 2047, 8191, 16383, 32767, 65535, 131071, 262143, 262143, 786431, 1835007, 262143, 8388607, 16777215]
theorem spoorlaw09_AddrBetween.tab6 : rtab .any (opsOf Try.f5 6) = spoorlaw09_AddrBetween.T6 := by kernel_rfl
theorem spoorlaw09_AddrBetween.bits6 : waitsOk spoorlaw09_AddrBetween.T6.2 spoorlaw09_AddrBetween.B6 = true := by kernel_rfl
def spoorlaw09_AddrBetween.T11 : Bool × List (List Nat × List Nat) := (true, [([], []), ([], []), ([0, 1], [0, 1]), ([], []), ([], []), ([4], [4]), ([], []), ([6], [6]), ([3, 5, 7, 2], [3, 5, 7]), ([8, 8], [8]), ([9], [9]), ([9], [9]), ([11, 9], [9, 11]), ([9], [9]), ([10, 12, 13, 9, 9], [9, 10, 12, 13]), ([9, 14], [9, 14]), ([2, 15], [2, 15]), ([16, 14], [16]), ([17], [17]), ([17], [17]), ([18, 19, 17, 17], [17, 18, 19]), ([20, 17], [17, 20]), ([21, 20, 17], [17, 21]), ([22], [22]), ([23, 22], [22, 23]), ([22], [22]), ([25, 22], [22, 25]), ([24, 26, 22], [22, 24, 26]), ([22, 27, 17], [17, 22, 27]), ([17, 28], [17, 28]), ([29, 22, 0, 1, 2, 3, 4, 5, 6, 7, 8, 9, 10, 11, 12, 13, 14, 15, 16, 17, 18, 19, 20, 21, 22, 23, 24, 25, 26, 27, 28, 29], [29])])
def spoorlaw09_AddrBetween.B11 : List Nat := [0, 0, 3, 0, 0, 16, 0, 64, 255, 511, 1023, 1023, 3071, 1023, 16383, 32767, 65535, 131071, 262143, 262143, 1048575, 2097151, 4194303, 8388607, 16777215, 8388607, 41943039, 134217727, 268435455, 536870911, 1073741823]
theorem spoorlaw09_AddrBetween.tab11 : rtab .any (opsOf Try.f5 11) = spoorlaw09_AddrBetween.T11 := by kernel_rfl
theorem spoorlaw09_AddrBetween.bits11 : waitsOk spoorlaw09_AddrBetween.T11.2 spoorlaw09_AddrBetween.B11 = true := by kernel_rfl

end Go.Proofs.Ytafclgjnomocdaa.Q
