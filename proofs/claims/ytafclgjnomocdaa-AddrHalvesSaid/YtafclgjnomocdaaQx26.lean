-- Printed by this session's program wip/tools/mp.sh out of the translation.
import Derived.Test.YtafclgjnomocdaaQx0
import Derived.Test.YtafclgjnomocdaaQx1
import Derived.Test.YtafclgjnomocdaaQx3
import Derived.Test.YtafclgjnomocdaaQx10
import Derived.Test.YtafclgjnomocdaaQx12
namespace Go.Proofs.Ytafclgjnomocdaa.Q
open Go.RowKit Go.Proofs.YtafclgjnomocdaaW.PrintWords Go.Proofs.YtafclgjnomocdaaW.PrintLast Go.Proofs.YtafclgjnomocdaaW.PrintMore
attribute [local go_sem] max2_int min2_int max_two min_two max_three min_three max_four min_four   -- for this text's walks alone
set_option linter.unusedVariables false
set_option linter.unusedSimpArgs false

attribute [local go_sem high] eqA24
/-! ### spoorlaw09_AddrHalves: function 6 -/
def spoorlaw09_AddrHalves.f (k : Nat) (a0_0 : Bool) (a0_1 : Int) (a0_2 : Int) (a0_3 : Int) (a1_0 : Int) (a1_1 : Int) : Option (Bool) := (spoorlaw09_steps.f k).bind fun t377 => (if t377 = true then ((addr_Halves.f k a0_0 a0_1 a0_2 a0_3).bind fun bt378 => (if bt378.2.2.2.2.2.2.2.2 = 0 then ((addr_Last.f k bt378.1 bt378.2.1 bt378.2.2.1 bt378.2.2.2.1).bind fun bt389 => ((addr_Next.f a0_0 bt389.1 bt389.2.1).bind fun bt393 => ((addr_Last.f k bt378.2.2.2.2.1 bt378.2.2.2.2.2.1 bt378.2.2.2.2.2.2.1 bt378.2.2.2.2.2.2.2.1).bind fun bt397 => ((addr_Last.f k a0_0 a0_1 a0_2 a0_3).bind fun bt401 => ((addr_Has.f k bt378.1 bt378.2.1 bt378.2.2.1 bt378.2.2.2.1 a0_0 a1_0 a1_1).bind fun t405 => ((addr_Has.f k bt378.2.2.2.2.1 bt378.2.2.2.2.2.1 bt378.2.2.2.2.2.2.1 bt378.2.2.2.2.2.2.2.1 a0_0 a1_0 a1_1).bind fun t406 => (if bt389.2.2 = 0 then (if bt393.2.2 = 0 then (if (bt393.1 == bt378.2.2.2.2.2.1 && (bt393.2.1 == bt378.2.2.2.2.2.2.1)) = true then (if bt397.2.2 = 0 then (if bt401.2.2 = 0 then (if (bt397.1 == bt401.1 && (bt397.2.1 == bt401.2.1)) = true then (if (bt378.2.1 == a0_1 && (bt378.2.2.1 == a0_2)) = true then ((addr_Has.f k a0_0 a0_1 a0_2 a0_3 a0_0 a1_0 a1_1).bind fun t407 => (if t405 = true then (if (t407 == true) = true then (some (!t406)) else (none)) else (if (t407 == t406) = true then (some (!false)) else (none)))) else (none)) else (none)) else (none)) else (none)) else (none)) else (none)) else (none)))))))) else (if bt378.2.2.2.2.2.2.2.2 = 2 then (some true) else (some (decide (a0_3 ≥ 32)))))) else (none))
theorem spoorlaw09_AddrHalves.mono : ∀ a0 a1 a2 a3 a4 a5 k, LeO (spoorlaw09_AddrHalves.f k a0 a1 a2 a3 a4 a5) (spoorlaw09_AddrHalves.f (k + 1) a0 a1 a2 a3 a4 a5) := by
 intro a0 a1 a2 a3 a4 a5 k
 unfold spoorlaw09_AddrHalves.f
 repeat' first
   | (with_reducible exact addr_Halves.mono _ _ _ _ _)
   | (with_reducible exact addr_Has.mono _ _ _ _ _ _ _ _)
   | (with_reducible exact addr_Last.mono _ _ _ _ _)
   | (with_reducible exact spoorlaw09_steps.mono _)
   | (with_reducible exact LeO.refl _)
   | (with_reducible exact LeO.none _)
   | (with_reducible refine LeO.ite ?_ ?_)
   | (with_reducible refine LeO.bind ?_ (fun _ => ?_))
   | exact addr_Halves.mono _ _ _ _ _
   | exact addr_Has.mono _ _ _ _ _ _ _ _
   | exact addr_Last.mono _ _ _ _ _
   | exact spoorlaw09_steps.mono _
   | exact LeO.none _
   | refine LeO.ite ?_ ?_
   | refine LeO.bind ?_ (fun _ => ?_)
def spoorlaw09_AddrHalves.T10 : Bool × List (List Nat × List Nat) := (true, [([], []), ([], []), ([1], [1]), ([], []), ([0, 2, 3], [0, 2, 3]), ([], []), ([], []), ([6], [6]), ([], []), ([5, 7, 8, 4], [5, 7, 8]), ([4, 9, 0, 1, 2, 3, 4], [4]), ([9, 10, 0, 1, 2, 3, 4, 5, 6, 7, 8, 9, 10], [9])])
def spoorlaw09_AddrHalves.B10 : List Nat := [0, 0, 2, 0, 15, 0, 0, 64, 0, 511, 1023, 2047]
theorem spoorlaw09_AddrHalves.tab10 : rtab .any (opsOf Try.f6 10) = spoorlaw09_AddrHalves.T10 := by kernel_rfl
theorem spoorlaw09_AddrHalves.bits10 : waitsOk spoorlaw09_AddrHalves.T10.2 spoorlaw09_AddrHalves.B10 = true := by kernel_rfl

end Go.Proofs.Ytafclgjnomocdaa.Q
