-- Printed by this session's program wip/tools/mp.sh out of the translation.
import Derived.Test.YtafclgjnomocdaaQx0
import Derived.Test.YtafclgjnomocdaaQx1
import Derived.Test.YtafclgjnomocdaaQx2
import Derived.Test.YtafclgjnomocdaaQx8
import Derived.Test.YtafclgjnomocdaaQx9
import Derived.Test.YtafclgjnomocdaaQx10
import Derived.Test.YtafclgjnomocdaaQx11
import Derived.Test.YtafclgjnomocdaaQx12
import Derived.Test.YtafclgjnomocdaaQx13
import Derived.Test.YtafclgjnomocdaaQx16
import Derived.Test.YtafclgjnomocdaaQx17
import Derived.Test.YtafclgjnomocdaaQx18
import Derived.Test.YtafclgjnomocdaaQx19
import Derived.Test.YtafclgjnomocdaaQx20
import Derived.Test.YtafclgjnomocdaaQx21
import Derived.Test.YtafclgjnomocdaaQx22
namespace Go.Proofs.Ytafclgjnomocdaa.Q
open Go.RowKit Go.Proofs.YtafclgjnomocdaaW.PrintWords Go.Proofs.YtafclgjnomocdaaW.PrintLast Go.Proofs.YtafclgjnomocdaaW.PrintMore
attribute [local go_sem] max2_int min2_int max_two min_two max_three min_three max_four min_four   -- for this text's walks alone
set_option linter.unusedVariables false
set_option linter.unusedSimpArgs false

attribute [local go_sem high] eqA24 eqA33
/-! ### spoorlaw09_AddrPrefixes: function 4 -/
set_option maxHeartbeats 8000000 in
set_option maxRecDepth 100000 in
theorem spoorlaw09_AddrPrefixes.calls (k : Nat) (a0_0 : Bool) (a0_1 : Int) (a0_2 : Int) (a0_3 : Int) (a1_0 : Bool) (a1_1 : Int) (a1_2 : Int) (a1_3 : Int) (a2 : Bool) (a3_0 : Int) (a3_1 : Int) (r : Bool) (w : World) (h : spoorlaw09_AddrPrefixes.f k a0_0 a0_1 a0_2 a0_3 a1_0 a1_1 a1_2 a1_3 a2 a3_0 a3_1 = some r) :
  Calls Try.prog 4 #[.agg #[.bool a0_0, .int .u64 a0_1, .int .u64 a0_2, .int .i64 a0_3], .agg #[.bool a1_0, .int .u64 a1_1, .int .u64 a1_2, .int .i64 a1_3], .bool a2, .agg #[.int .u64 a3_0, .int .u64 a3_1]] w fun e w' => e = .returned (.bool r) ∧ Below w.heap.size w w' := by
 have hu33 := Try.underlying33
 have hu24 := Try.underlying24
 have HB := Ax (Below.refl w.heap.size w)
 have H : ((addr_Last.f k a0_0 a0_1 a0_2 a0_3).bind fun bt312 => ((spoorref09_Last.f k a0_0 a0_1 a0_2 a0_3).bind fun bt316 => ((addr_Halves.f k a0_0 a0_1 a0_2 a0_3).bind fun bt320 => ((spoorref09_Halves.f k a0_0 a0_1 a0_2 a0_3).bind fun bt331 => ((spoorlaw09_steps.f k).bind fun t342 => (if t342 = true then ((addr_Check.f k a0_0 a0_1 a0_2 a0_3).bind fun t343 => ((spoorref09_Check.f k a0_0 a0_1 a0_2 a0_3).bind fun t344 => (if t343 = t344 then (if (bt312.1 == bt316.1 && (bt312.2.1 == bt316.2.1)) = true then (if bt312.2.2 = bt316.2.2 then (if (bt320.1 == bt331.1 && ((bt320.2.1 == bt331.2.1 && (bt320.2.2.1 == bt331.2.2.1)) && (bt320.2.2.2.1 == bt331.2.2.2.1))) = true then (if (bt320.2.2.2.2.1 == bt331.2.2.2.2.1 && ((bt320.2.2.2.2.2.1 == bt331.2.2.2.2.2.1 && (bt320.2.2.2.2.2.2.1 == bt331.2.2.2.2.2.2.1)) && (bt320.2.2.2.2.2.2.2.1 == bt331.2.2.2.2.2.2.2.1))) = true then (if bt320.2.2.2.2.2.2.2.2 = bt331.2.2.2.2.2.2.2.2 then ((addr_Has.f k a0_0 a0_1 a0_2 a0_3 a2 a3_0 a3_1).bind fun t345 => ((spoorref09_Has.f k a0_0 a0_1 a0_2 a0_3 a2 a3_0 a3_1).bind fun t346 => (if (t345 == t346) = true then ((addr_Covers.f k a0_0 a0_1 a0_2 a0_3 a1_0 a1_1 a1_2 a1_3).bind fun t347 => ((spoorref09_Covers.f k a0_0 a0_1 a0_2 a0_3 a1_0 a1_1 a1_2 a1_3).bind fun t348 => (some (t347 == t348)))) else (none)))) else (none)) else (none)) else (none)) else (none)) else (none)) else (none)))) else (none))))))) = some r := h
 clear h
 replace H := Option.bind_eq_some_iff.mp H
 obtain ⟨⟨t312, t313, t314⟩, A50, H⟩ := H
 replace H : ((spoorref09_Last.f k a0_0 a0_1 a0_2 a0_3).bind fun bt316 => ((addr_Halves.f k a0_0 a0_1 a0_2 a0_3).bind fun bt320 => ((spoorref09_Halves.f k a0_0 a0_1 a0_2 a0_3).bind fun bt331 => ((spoorlaw09_steps.f k).bind fun t342 => (if t342 = true then ((addr_Check.f k a0_0 a0_1 a0_2 a0_3).bind fun t343 => ((spoorref09_Check.f k a0_0 a0_1 a0_2 a0_3).bind fun t344 => (if t343 = t344 then (if (t312 == bt316.1 && (t313 == bt316.2.1)) = true then (if t314 = bt316.2.2 then (if (bt320.1 == bt331.1 && ((bt320.2.1 == bt331.2.1 && (bt320.2.2.1 == bt331.2.2.1)) && (bt320.2.2.2.1 == bt331.2.2.2.1))) = true then (if (bt320.2.2.2.2.1 == bt331.2.2.2.2.1 && ((bt320.2.2.2.2.2.1 == bt331.2.2.2.2.2.1 && (bt320.2.2.2.2.2.2.1 == bt331.2.2.2.2.2.2.1)) && (bt320.2.2.2.2.2.2.2.1 == bt331.2.2.2.2.2.2.2.1))) = true then (if bt320.2.2.2.2.2.2.2.2 = bt331.2.2.2.2.2.2.2.2 then ((addr_Has.f k a0_0 a0_1 a0_2 a0_3 a2 a3_0 a3_1).bind fun t345 => ((spoorref09_Has.f k a0_0 a0_1 a0_2 a0_3 a2 a3_0 a3_1).bind fun t346 => (if (t345 == t346) = true then ((addr_Covers.f k a0_0 a0_1 a0_2 a0_3 a1_0 a1_1 a1_2 a1_3).bind fun t347 => ((spoorref09_Covers.f k a0_0 a0_1 a0_2 a0_3 a1_0 a1_1 a1_2 a1_3).bind fun t348 => (some (t347 == t348)))) else (none)))) else (none)) else (none)) else (none)) else (none)) else (none)) else (none)))) else (none)))))) = some r := H
 have A5 := Ax A50
 clear A50
 replace H := Option.bind_eq_some_iff.mp H
 obtain ⟨⟨t316, t317, t318⟩, A60, H⟩ := H
 replace H : ((addr_Halves.f k a0_0 a0_1 a0_2 a0_3).bind fun bt320 => ((spoorref09_Halves.f k a0_0 a0_1 a0_2 a0_3).bind fun bt331 => ((spoorlaw09_steps.f k).bind fun t342 => (if t342 = true then ((addr_Check.f k a0_0 a0_1 a0_2 a0_3).bind fun t343 => ((spoorref09_Check.f k a0_0 a0_1 a0_2 a0_3).bind fun t344 => (if t343 = t344 then (if (t312 == t316 && (t313 == t317)) = true then (if t314 = t318 then (if (bt320.1 == bt331.1 && ((bt320.2.1 == bt331.2.1 && (bt320.2.2.1 == bt331.2.2.1)) && (bt320.2.2.2.1 == bt331.2.2.2.1))) = true then (if (bt320.2.2.2.2.1 == bt331.2.2.2.2.1 && ((bt320.2.2.2.2.2.1 == bt331.2.2.2.2.2.1 && (bt320.2.2.2.2.2.2.1 == bt331.2.2.2.2.2.2.1)) && (bt320.2.2.2.2.2.2.2.1 == bt331.2.2.2.2.2.2.2.1))) = true then (if bt320.2.2.2.2.2.2.2.2 = bt331.2.2.2.2.2.2.2.2 then ((addr_Has.f k a0_0 a0_1 a0_2 a0_3 a2 a3_0 a3_1).bind fun t345 => ((spoorref09_Has.f k a0_0 a0_1 a0_2 a0_3 a2 a3_0 a3_1).bind fun t346 => (if (t345 == t346) = true then ((addr_Covers.f k a0_0 a0_1 a0_2 a0_3 a1_0 a1_1 a1_2 a1_3).bind fun t347 => ((spoorref09_Covers.f k a0_0 a0_1 a0_2 a0_3 a1_0 a1_1 a1_2 a1_3).bind fun t348 => (some (t347 == t348)))) else (none)))) else (none)) else (none)) else (none)) else (none)) else (none)) else (none)))) else (none))))) = some r := H
 have A6 := Ax A60
 clear A60
 replace H := Option.bind_eq_some_iff.mp H
 obtain ⟨⟨t320, t321, t322, t323, t324, t325, t326, t327, t328⟩, A70, H⟩ := H
 replace H : ((spoorref09_Halves.f k a0_0 a0_1 a0_2 a0_3).bind fun bt331 => ((spoorlaw09_steps.f k).bind fun t342 => (if t342 = true then ((addr_Check.f k a0_0 a0_1 a0_2 a0_3).bind fun t343 => ((spoorref09_Check.f k a0_0 a0_1 a0_2 a0_3).bind fun t344 => (if t343 = t344 then (if (t312 == t316 && (t313 == t317)) = true then (if t314 = t318 then (if (t320 == bt331.1 && ((t321 == bt331.2.1 && (t322 == bt331.2.2.1)) && (t323 == bt331.2.2.2.1))) = true then (if (t324 == bt331.2.2.2.2.1 && ((t325 == bt331.2.2.2.2.2.1 && (t326 == bt331.2.2.2.2.2.2.1)) && (t327 == bt331.2.2.2.2.2.2.2.1))) = true then (if t328 = bt331.2.2.2.2.2.2.2.2 then ((addr_Has.f k a0_0 a0_1 a0_2 a0_3 a2 a3_0 a3_1).bind fun t345 => ((spoorref09_Has.f k a0_0 a0_1 a0_2 a0_3 a2 a3_0 a3_1).bind fun t346 => (if (t345 == t346) = true then ((addr_Covers.f k a0_0 a0_1 a0_2 a0_3 a1_0 a1_1 a1_2 a1_3).bind fun t347 => ((spoorref09_Covers.f k a0_0 a0_1 a0_2 a0_3 a1_0 a1_1 a1_2 a1_3).bind fun t348 => (some (t347 == t348)))) else (none)))) else (none)) else (none)) else (none)) else (none)) else (none)) else (none)))) else (none)))) = some r := H
 have A7 := Ax A70
 clear A70
 replace H := Option.bind_eq_some_iff.mp H
 obtain ⟨⟨t331, t332, t333, t334, t335, t336, t337, t338, t339⟩, A80, H⟩ := H
 replace H : ((spoorlaw09_steps.f k).bind fun t342 => (if t342 = true then ((addr_Check.f k a0_0 a0_1 a0_2 a0_3).bind fun t343 => ((spoorref09_Check.f k a0_0 a0_1 a0_2 a0_3).bind fun t344 => (if t343 = t344 then (if (t312 == t316 && (t313 == t317)) = true then (if t314 = t318 then (if (t320 == t331 && ((t321 == t332 && (t322 == t333)) && (t323 == t334))) = true then (if (t324 == t335 && ((t325 == t336 && (t326 == t337)) && (t327 == t338))) = true then (if t328 = t339 then ((addr_Has.f k a0_0 a0_1 a0_2 a0_3 a2 a3_0 a3_1).bind fun t345 => ((spoorref09_Has.f k a0_0 a0_1 a0_2 a0_3 a2 a3_0 a3_1).bind fun t346 => (if (t345 == t346) = true then ((addr_Covers.f k a0_0 a0_1 a0_2 a0_3 a1_0 a1_1 a1_2 a1_3).bind fun t347 => ((spoorref09_Covers.f k a0_0 a0_1 a0_2 a0_3 a1_0 a1_1 a1_2 a1_3).bind fun t348 => (some (t347 == t348)))) else (none)))) else (none)) else (none)) else (none)) else (none)) else (none)) else (none)))) else (none))) = some r := H
 have A8 := Ax A80
 clear A80
 replace H := Option.bind_eq_some_iff.mp H
 obtain ⟨t342, A90, H⟩ := H
 replace H : (if t342 = true then ((addr_Check.f k a0_0 a0_1 a0_2 a0_3).bind fun t343 => ((spoorref09_Check.f k a0_0 a0_1 a0_2 a0_3).bind fun t344 => (if t343 = t344 then (if (t312 == t316 && (t313 == t317)) = true then (if t314 = t318 then (if (t320 == t331 && ((t321 == t332 && (t322 == t333)) && (t323 == t334))) = true then (if (t324 == t335 && ((t325 == t336 && (t326 == t337)) && (t327 == t338))) = true then (if t328 = t339 then ((addr_Has.f k a0_0 a0_1 a0_2 a0_3 a2 a3_0 a3_1).bind fun t345 => ((spoorref09_Has.f k a0_0 a0_1 a0_2 a0_3 a2 a3_0 a3_1).bind fun t346 => (if (t345 == t346) = true then ((addr_Covers.f k a0_0 a0_1 a0_2 a0_3 a1_0 a1_1 a1_2 a1_3).bind fun t347 => ((spoorref09_Covers.f k a0_0 a0_1 a0_2 a0_3 a1_0 a1_1 a1_2 a1_3).bind fun t348 => (some (t347 == t348)))) else (none)))) else (none)) else (none)) else (none)) else (none)) else (none)) else (none)))) else (none)) = some r := H
 have A9 := Ax A90
 clear A90
 by_cases c10 : t342 = true
 ·subst c10
  have H1 : ((addr_Check.f k a0_0 a0_1 a0_2 a0_3).bind fun t343 => ((spoorref09_Check.f k a0_0 a0_1 a0_2 a0_3).bind fun t344 => (if t343 = t344 then (if (t312 == t316 && (t313 == t317)) = true then (if t314 = t318 then (if (t320 == t331 && ((t321 == t332 && (t322 == t333)) && (t323 == t334))) = true then (if (t324 == t335 && ((t325 == t336 && (t326 == t337)) && (t327 == t338))) = true then (if t328 = t339 then ((addr_Has.f k a0_0 a0_1 a0_2 a0_3 a2 a3_0 a3_1).bind fun t345 => ((spoorref09_Has.f k a0_0 a0_1 a0_2 a0_3 a2 a3_0 a3_1).bind fun t346 => (if (t345 == t346) = true then ((addr_Covers.f k a0_0 a0_1 a0_2 a0_3 a1_0 a1_1 a1_2 a1_3).bind fun t347 => ((spoorref09_Covers.f k a0_0 a0_1 a0_2 a0_3 a1_0 a1_1 a1_2 a1_3).bind fun t348 => (some (t347 == t348)))) else (none)))) else (none)) else (none)) else (none)) else (none)) else (none)) else (none)))) = some r := by rw [if_pos rfl] at H; exact H
  clear H
  have H := H1
  clear H1
  replace H := Option.bind_eq_some_iff.mp H
  obtain ⟨t343, A110, H⟩ := H
  replace H : ((spoorref09_Check.f k a0_0 a0_1 a0_2 a0_3).bind fun t344 => (if t343 = t344 then (if (t312 == t316 && (t313 == t317)) = true then (if t314 = t318 then (if (t320 == t331 && ((t321 == t332 && (t322 == t333)) && (t323 == t334))) = true then (if (t324 == t335 && ((t325 == t336 && (t326 == t337)) && (t327 == t338))) = true then (if t328 = t339 then ((addr_Has.f k a0_0 a0_1 a0_2 a0_3 a2 a3_0 a3_1).bind fun t345 => ((spoorref09_Has.f k a0_0 a0_1 a0_2 a0_3 a2 a3_0 a3_1).bind fun t346 => (if (t345 == t346) = true then ((addr_Covers.f k a0_0 a0_1 a0_2 a0_3 a1_0 a1_1 a1_2 a1_3).bind fun t347 => ((spoorref09_Covers.f k a0_0 a0_1 a0_2 a0_3 a1_0 a1_1 a1_2 a1_3).bind fun t348 => (some (t347 == t348)))) else (none)))) else (none)) else (none)) else (none)) else (none)) else (none)) else (none))) = some r := H
  have A11 := Ax A110
  clear A110
  replace H := Option.bind_eq_some_iff.mp H
  obtain ⟨t344, A120, H⟩ := H
  replace H : (if t343 = t344 then (if (t312 == t316 && (t313 == t317)) = true then (if t314 = t318 then (if (t320 == t331 && ((t321 == t332 && (t322 == t333)) && (t323 == t334))) = true then (if (t324 == t335 && ((t325 == t336 && (t326 == t337)) && (t327 == t338))) = true then (if t328 = t339 then ((addr_Has.f k a0_0 a0_1 a0_2 a0_3 a2 a3_0 a3_1).bind fun t345 => ((spoorref09_Has.f k a0_0 a0_1 a0_2 a0_3 a2 a3_0 a3_1).bind fun t346 => (if (t345 == t346) = true then ((addr_Covers.f k a0_0 a0_1 a0_2 a0_3 a1_0 a1_1 a1_2 a1_3).bind fun t347 => ((spoorref09_Covers.f k a0_0 a0_1 a0_2 a0_3 a1_0 a1_1 a1_2 a1_3).bind fun t348 => (some (t347 == t348)))) else (none)))) else (none)) else (none)) else (none)) else (none)) else (none)) else (none)) = some r := H
  have A12 := Ax A120
  clear A120
  by_cases c13 : t343 = t344
  ·rw [if_pos c13] at H
   have c13b0 : (t343 == t344) = true := beq_iff_eq.mpr c13
   have c13b1 : (t343 != t344) = false := bne_eq_false_iff_eq.mpr c13
   clear c13
   by_cases c14 : (t312 == t316 && (t313 == t317)) = true
   ·rw [if_pos c14] at H
    have c14b0 : (t312 == t316 && (t313 == t317)) = true := c14
    (try (have c14b1 : decide (t312 = t316 && (t313 == t317)) = true := by simpa using c14))
    (try (have c14b2 : (t312 == t316 && (t313 == t317)) = true := by simpa using c14))
    clear c14
    by_cases c15 : t314 = t318
    ·rw [if_pos c15] at H
     have c15b0 : (t314 == t318) = true := beq_iff_eq.mpr c15
     have c15b1 : (t314 != t318) = false := bne_eq_false_iff_eq.mpr c15
     clear c15
     by_cases c16 : (t320 == t331 && ((t321 == t332 && (t322 == t333)) && (t323 == t334))) = true
     ·rw [if_pos c16] at H
      have c16b0 : (t320 == t331 && ((t321 == t332 && (t322 == t333)) && (t323 == t334))) = true := c16
      (try (have c16b1 : decide (t320 = t331 && ((t321 == t332 && (t322 == t333)) && (t323 == t334))) = true := by simpa using c16))
      (try (have c16b2 : (t320 == t331 && ((t321 == t332 && (t322 == t333)) && (t323 == t334))) = true := by simpa using c16))
      clear c16
      by_cases c17 : (t324 == t335 && ((t325 == t336 && (t326 == t337)) && (t327 == t338))) = true
      ·rw [if_pos c17] at H
       have c17b0 : (t324 == t335 && ((t325 == t336 && (t326 == t337)) && (t327 == t338))) = true := c17
       (try (have c17b1 : decide (t324 = t335 && ((t325 == t336 && (t326 == t337)) && (t327 == t338))) = true := by simpa using c17))
       (try (have c17b2 : (t324 == t335 && ((t325 == t336 && (t326 == t337)) && (t327 == t338))) = true := by simpa using c17))
       clear c17
       by_cases c18 : t328 = t339
       ·rw [if_pos c18] at H
        have c18b0 : (t328 == t339) = true := beq_iff_eq.mpr c18
        have c18b1 : (t328 != t339) = false := bne_eq_false_iff_eq.mpr c18
        clear c18
        replace H := Option.bind_eq_some_iff.mp H
        obtain ⟨t345, A190, H⟩ := H
        replace H : ((spoorref09_Has.f k a0_0 a0_1 a0_2 a0_3 a2 a3_0 a3_1).bind fun t346 => (if (t345 == t346) = true then ((addr_Covers.f k a0_0 a0_1 a0_2 a0_3 a1_0 a1_1 a1_2 a1_3).bind fun t347 => ((spoorref09_Covers.f k a0_0 a0_1 a0_2 a0_3 a1_0 a1_1 a1_2 a1_3).bind fun t348 => (some (t347 == t348)))) else (none))) = some r := H
        have A19 := Ax A190
        clear A190
        replace H := Option.bind_eq_some_iff.mp H
        obtain ⟨t346, A200, H⟩ := H
        replace H : (if (t345 == t346) = true then ((addr_Covers.f k a0_0 a0_1 a0_2 a0_3 a1_0 a1_1 a1_2 a1_3).bind fun t347 => ((spoorref09_Covers.f k a0_0 a0_1 a0_2 a0_3 a1_0 a1_1 a1_2 a1_3).bind fun t348 => (some (t347 == t348)))) else (none)) = some r := H
        have A20 := Ax A200
        clear A200
        by_cases c21 : (t345 == t346) = true
        ·rw [if_pos c21] at H
         have c21b0 : (t345 == t346) = true := c21
         (try (have c21b1 : decide (t345 = t346) = true := by simpa using c21))
         (try (have c21b2 : (t345 == t346) = true := by simpa using c21))
         clear c21
         replace H := Option.bind_eq_some_iff.mp H
         obtain ⟨t347, A220, H⟩ := H
         replace H : ((spoorref09_Covers.f k a0_0 a0_1 a0_2 a0_3 a1_0 a1_1 a1_2 a1_3).bind fun t348 => (some (t347 == t348))) = some r := H
         have A22 := Ax A220
         clear A220
         replace H := Option.bind_eq_some_iff.mp H
         obtain ⟨t348, A230, H⟩ := H
         replace H : (some (t347 == t348)) = some r := H
         have A23 := Ax A230
         clear A230
         obtain rfl := Option.some.inj H
         go_enter Try.func4, Try.ntmps4
         try go_wp2_with (first | ((with_reducible refine gate_dst (N := 4) rfl ?_); refine box_event ?hg (N := 4) ?hd (cs := #[.bool a0_0, .int .u64 a0_1, .int .u64 a0_2, .int .i64 a0_3]) (t := 33) ?hr ?_; (case hd => rfl); (case hg => rfl); (case hr => first | (go_simp; done) | (go_simp; rfl)); intro gb309 hg w24 hbox hb; have n0_ := Ax (below_step (bw0 HB.out) hb); have n1_ := Ax (hbox); have n2_ := Ax ((by rw [hg]; exact (below_size (bw0 HB.out)) : w.heap.size ≤ gb309)); have n3_ := Ax ((by rw [hg]; exact (below_size (bw0 HB.out)) : w.heap.size ≤ gb309)); clear HB; have HB := n0_; have BK309 := n1_; have GW309 := n2_; have GE309 := n3_; clear n0_ n1_ n2_ n3_; clear hb hbox hg) | ((with_reducible refine gate_dst (N := 5) rfl ?_); refine box_event ?hg (N := 5) ?hd (cs := #[.bool a1_0, .int .u64 a1_1, .int .u64 a1_2, .int .i64 a1_3]) (t := 33) ?hr ?_; (case hd => rfl); (case hg => rfl); (case hr => first | (go_simp; done) | (go_simp; rfl)); intro gb310 hg w25 hbox hb; have n0_ := Ax (blk_below (g := gb309) (o := .cells #[.bool a0_0, .int .u64 a0_1, .int .u64 a0_2, .int .i64 a0_3] 33 (0, 0)) (bf0 BK309.out) hb); have n1_ := Ax (below_step (bw1 HB.out GE309.out) hb); have n2_ := Ax (hbox); have n3_ := Ax ((by rw [hg]; exact (below_size (bw1 HB.out GE309.out)) : w.heap.size ≤ gb310)); have n4_ := Ax ((by rw [hg]; exact (below_size (bw1 HB.out GE309.out)) : w.heap.size ≤ gb310)); have n5_ := Ax ((by rw [hg]; exact Nat.ne_of_lt (blk_lt (g := gb309) (o := .cells #[.bool a0_0, .int .u64 a0_1, .int .u64 a0_2, .int .i64 a0_3] 33 (0, 0)) (bf0 BK309.out)) : gb309 ≠ gb310)); have n6_ := Ax ((by rw [hg]; exact Nat.ne_of_gt (blk_lt (g := gb309) (o := .cells #[.bool a0_0, .int .u64 a0_1, .int .u64 a0_2, .int .i64 a0_3] 33 (0, 0)) (bf0 BK309.out)) : gb310 ≠ gb309)); clear BK309; clear HB; have BK309 := n0_; have HB := n1_; have BK310 := n2_; have GW310 := n3_; have GE310 := n4_; have NB309_310 := n5_; have NB310_309 := n6_; clear n0_ n1_ n2_ n3_ n4_ n5_ n6_; clear hb hbox hg) | ((with_reducible refine gate_dst (N := 7) rfl ?_); refine box_event ?hg (N := 7) ?hd (cs := #[.int .u64 a3_0, .int .u64 a3_1]) (t := 24) ?hr ?_; (case hd => rfl); (case hg => rfl); (case hr => first | (go_simp; done) | (go_simp; rfl)); intro gb311 hg w26 hbox hb; have n0_ := Ax (blk_below (g := gb309) (o := .cells #[.bool a0_0, .int .u64 a0_1, .int .u64 a0_2, .int .i64 a0_3] 33 (0, 0)) (bf0 BK309.out) hb); have n1_ := Ax (blk_below (g := gb310) (o := .cells #[.bool a1_0, .int .u64 a1_1, .int .u64 a1_2, .int .i64 a1_3] 33 (0, 0)) (bf0 BK310.out) hb); have n2_ := Ax (below_step (bw2 HB.out GE309.out GE310.out) hb); have n3_ := Ax (hbox); have n4_ := Ax ((by rw [hg]; exact (below_size (bw2 HB.out GE309.out GE310.out)) : w.heap.size ≤ gb311)); have n5_ := Ax ((by rw [hg]; exact (below_size (bw2 HB.out GE309.out GE310.out)) : w.heap.size ≤ gb311)); have n6_ := Ax ((by rw [hg]; exact Nat.ne_of_lt (blk_lt (g := gb309) (o := .cells #[.bool a0_0, .int .u64 a0_1, .int .u64 a0_2, .int .i64 a0_3] 33 (0, 0)) (bf0 BK309.out)) : gb309 ≠ gb311)); have n7_ := Ax ((by rw [hg]; exact Nat.ne_of_gt (blk_lt (g := gb309) (o := .cells #[.bool a0_0, .int .u64 a0_1, .int .u64 a0_2, .int .i64 a0_3] 33 (0, 0)) (bf0 BK309.out)) : gb311 ≠ gb309)); have n8_ := Ax ((by rw [hg]; exact Nat.ne_of_lt (blk_lt (g := gb310) (o := .cells #[.bool a1_0, .int .u64 a1_1, .int .u64 a1_2, .int .i64 a1_3] 33 (0, 0)) (bf0 BK310.out)) : gb310 ≠ gb311)); have n9_ := Ax ((by rw [hg]; exact Nat.ne_of_gt (blk_lt (g := gb310) (o := .cells #[.bool a1_0, .int .u64 a1_1, .int .u64 a1_2, .int .i64 a1_3] 33 (0, 0)) (bf0 BK310.out)) : gb311 ≠ gb310)); clear BK309; clear BK310; clear HB; have BK309 := n0_; have BK310 := n1_; have HB := n2_; have BK311 := n3_; have GW311 := n4_; have GE311 := n5_; have NB309_311 := n6_; have NB311_309 := n7_; have NB310_311 := n8_; have NB311_310 := n9_; clear n0_ n1_ n2_ n3_ n4_ n5_ n6_ n7_ n8_ n9_; clear hb hbox hg; have hnb27 := NB309_310.out; have hnc27 := NB310_309.out; have hnb28 := NB309_311.out; have hnc28 := NB311_309.out; have hcz29_0 : w26.cell? ⟨gb309, 0, none⟩ = some (.bool a0_0) := (blk_cell BK309.out 0).trans rfl; have hcz29_1 : w26.cell? ⟨gb309, 1, none⟩ = some (.int .u64 a0_1) := (blk_cell BK309.out 1).trans rfl; have hcz29_2 : w26.cell? ⟨gb309, 2, none⟩ = some (.int .u64 a0_2) := (blk_cell BK309.out 2).trans rfl; have hcz29_3 : w26.cell? ⟨gb309, 3, none⟩ = some (.int .i64 a0_3) := (blk_cell BK309.out 3).trans rfl; have hfz29_0 := blk_frozen BK309.out 0; have hfz29_1 := blk_frozen BK309.out 1; have hfz29_2 := blk_frozen BK309.out 2; have hfz29_3 := blk_frozen BK309.out 3) | ((with_reducible refine gate_callee (f := 16) rfl ?_); refine goesL_ (some 21) rfl rfl Try.func16 (by kernel_rfl) rfl #[.agg #[.bool a0_0, .int .u64 a0_1, .int .u64 a0_2, .int .i64 a0_3]] rfl gS ?_; (with_reducible refine (addr_Last.calls k a0_0 a0_1 a0_2 a0_3 t312 t313 t314 _ A5.out).mono ?_); rintro e w30 ⟨rfl, hb⟩; refine ⟨_, rfl, ?_⟩; have n0_ := Ax (blk_below (g := gb309) (o := .cells #[.bool a0_0, .int .u64 a0_1, .int .u64 a0_2, .int .i64 a0_3] 33 (0, 0)) (bf0 BK309.out) hb); have n1_ := Ax (blk_below (g := gb310) (o := .cells #[.bool a1_0, .int .u64 a1_1, .int .u64 a1_2, .int .i64 a1_3] 33 (0, 0)) (bf0 BK310.out) hb); have n2_ := Ax (blk_below (g := gb311) (o := .cells #[.int .u64 a3_0, .int .u64 a3_1] 24 (0, 0)) (bf0 BK311.out) hb); have n3_ := Ax (below_step (bw3 HB.out GE309.out GE310.out GE311.out) hb); clear BK309; clear BK310; clear BK311; clear HB; have BK309 := n0_; have BK310 := n1_; have BK311 := n2_; have HB := n3_; clear n0_ n1_ n2_ n3_; (try clear hb); (try clear hb2); (try clear hk); (try clear hi)) | ((with_reducible refine gate_dst (N := 9) rfl ?_); refine box_event ?hg (N := 9) ?hd (cs := #[.int .u64 0, .int .u64 0]) (t := 24) ?hr ?_; (case hd => rfl); (case hg => rfl); (case hr => first | (go_simp; done) | (go_simp; rfl)); intro gb315 hg w31 hbox hb; have n0_ := Ax (blk_below (g := gb309) (o := .cells #[.bool a0_0, .int .u64 a0_1, .int .u64 a0_2, .int .i64 a0_3] 33 (0, 0)) (bf0 BK309.out) hb); have n1_ := Ax (blk_below (g := gb310) (o := .cells #[.bool a1_0, .int .u64 a1_1, .int .u64 a1_2, .int .i64 a1_3] 33 (0, 0)) (bf0 BK310.out) hb); have n2_ := Ax (blk_below (g := gb311) (o := .cells #[.int .u64 a3_0, .int .u64 a3_1] 24 (0, 0)) (bf0 BK311.out) hb); have n3_ := Ax (below_step (bw3 HB.out GE309.out GE310.out GE311.out) hb); have n4_ := Ax (hbox); have n5_ := Ax ((by rw [hg]; exact (below_size (bw3 HB.out GE309.out GE310.out GE311.out)) : w.heap.size ≤ gb315)); have n6_ := Ax ((by rw [hg]; exact (below_size (bw3 HB.out GE309.out GE310.out GE311.out)) : w.heap.size ≤ gb315)); have n7_ := Ax ((by rw [hg]; exact Nat.ne_of_lt (blk_lt (g := gb309) (o := .cells #[.bool a0_0, .int .u64 a0_1, .int .u64 a0_2, .int .i64 a0_3] 33 (0, 0)) (bf0 BK309.out)) : gb309 ≠ gb315)); have n8_ := Ax ((by rw [hg]; exact Nat.ne_of_gt (blk_lt (g := gb309) (o := .cells #[.bool a0_0, .int .u64 a0_1, .int .u64 a0_2, .int .i64 a0_3] 33 (0, 0)) (bf0 BK309.out)) : gb315 ≠ gb309)); have n9_ := Ax ((by rw [hg]; exact Nat.ne_of_lt (blk_lt (g := gb310) (o := .cells #[.bool a1_0, .int .u64 a1_1, .int .u64 a1_2, .int .i64 a1_3] 33 (0, 0)) (bf0 BK310.out)) : gb310 ≠ gb315)); have n10_ := Ax ((by rw [hg]; exact Nat.ne_of_gt (blk_lt (g := gb310) (o := .cells #[.bool a1_0, .int .u64 a1_1, .int .u64 a1_2, .int .i64 a1_3] 33 (0, 0)) (bf0 BK310.out)) : gb315 ≠ gb310)); have n11_ := Ax ((by rw [hg]; exact Nat.ne_of_lt (blk_lt (g := gb311) (o := .cells #[.int .u64 a3_0, .int .u64 a3_1] 24 (0, 0)) (bf0 BK311.out)) : gb311 ≠ gb315)); have n12_ := Ax ((by rw [hg]; exact Nat.ne_of_gt (blk_lt (g := gb311) (o := .cells #[.int .u64 a3_0, .int .u64 a3_1] 24 (0, 0)) (bf0 BK311.out)) : gb315 ≠ gb311)); clear BK309; clear BK310; clear BK311; clear HB; have BK309 := n0_; have BK310 := n1_; have BK311 := n2_; have HB := n3_; have BK315 := n4_; have GW315 := n5_; have GE315 := n6_; have NB309_315 := n7_; have NB315_309 := n8_; have NB310_315 := n9_; have NB315_310 := n10_; have NB311_315 := n11_; have NB315_311 := n12_; clear n0_ n1_ n2_ n3_ n4_ n5_ n6_ n7_ n8_ n9_ n10_ n11_ n12_; clear hb hbox hg; have hnb32 := NB315_309.out; have hnc32 := NB309_315.out; have hnb33 := NB315_310.out; have hnc33 := NB310_315.out; have hnb34 := NB315_311.out; have hnc34 := NB311_315.out; have hcz35_0 : w31.cell? ⟨gb315, 0, none⟩ = some (.int .u64 0) := (blk_cell BK315.out 0).trans rfl; have hcz35_1 : w31.cell? ⟨gb315, 1, none⟩ = some (.int .u64 0) := (blk_cell BK315.out 1).trans rfl; have hfz35_0 := blk_frozen BK315.out 0; have hfz35_1 := blk_frozen BK315.out 1; have hcz36_0 : w31.cell? ⟨gb309, 0, none⟩ = some (.bool a0_0) := (blk_cell BK309.out 0).trans rfl; have hcz36_1 : w31.cell? ⟨gb309, 1, none⟩ = some (.int .u64 a0_1) := (blk_cell BK309.out 1).trans rfl; have hcz36_2 : w31.cell? ⟨gb309, 2, none⟩ = some (.int .u64 a0_2) := (blk_cell BK309.out 2).trans rfl; have hcz36_3 : w31.cell? ⟨gb309, 3, none⟩ = some (.int .i64 a0_3) := (blk_cell BK309.out 3).trans rfl; have hfz36_0 := blk_frozen BK309.out 0; have hfz36_1 := blk_frozen BK309.out 1; have hfz36_2 := blk_frozen BK309.out 2; have hfz36_3 := blk_frozen BK309.out 3) | ((with_reducible refine gate_callee (f := 17) rfl ?_); refine goesL_ (some 26) rfl rfl Try.func17 (by kernel_rfl) rfl #[.agg #[.bool a0_0, .int .u64 a0_1, .int .u64 a0_2, .int .i64 a0_3]] rfl gS ?_; (with_reducible refine (spoorref09_Last.calls k a0_0 a0_1 a0_2 a0_3 t316 t317 t318 _ A6.out).mono ?_); rintro e w37 ⟨rfl, hb⟩; refine ⟨_, rfl, ?_⟩; have n0_ := Ax (blk_below (g := gb309) (o := .cells #[.bool a0_0, .int .u64 a0_1, .int .u64 a0_2, .int .i64 a0_3] 33 (0, 0)) (bf2 BK309.out NB309_315.out NB309_315.out) hb); have n1_ := Ax (blk_below (g := gb310) (o := .cells #[.bool a1_0, .int .u64 a1_1, .int .u64 a1_2, .int .i64 a1_3] 33 (0, 0)) (bf2 BK310.out NB310_315.out NB310_315.out) hb); have n2_ := Ax (blk_below (g := gb311) (o := .cells #[.int .u64 a3_0, .int .u64 a3_1] 24 (0, 0)) (bf2 BK311.out NB311_315.out NB311_315.out) hb); have n3_ := Ax (blk_below (g := gb315) (o := .cells #[.int .u64 t312, .int .u64 t313] 24 (0, 0)) (by (with_reducible repeat (first | refine blk_drewN ?_ _ | refine blk_drew ?_ | refine blk_alloc ?_ _)); refine blk_put (cs := #[.int .u64 t312, .int .u64 0]) ?_ 1 _ rfl; (with_reducible repeat (first | refine blk_drewN ?_ _ | refine blk_drew ?_ | refine blk_alloc ?_ _)); refine blk_put (cs := #[.int .u64 0, .int .u64 0]) ?_ 0 _ rfl; (with_reducible repeat (first | refine blk_drewN ?_ _ | refine blk_drew ?_ | refine blk_alloc ?_ _)); exact BK315.out) hb); have n4_ := Ax (below_step (bw4 HB.out GE309.out GE310.out GE311.out GE315.out) hb); clear BK309; clear BK310; clear BK311; clear BK315; clear HB; have BK309 := n0_; have BK310 := n1_; have BK311 := n2_; have BK315 := n3_; have HB := n4_; clear n0_ n1_ n2_ n3_ n4_; (try clear hb); (try clear hb2); (try clear hk); (try clear hi)) | ((with_reducible refine gate_dst (N := 11) rfl ?_); refine box_event ?hg (N := 11) ?hd (cs := #[.int .u64 0, .int .u64 0]) (t := 24) ?hr ?_; (case hd => rfl); (case hg => rfl); (case hr => first | (go_simp; done) | (go_simp; rfl)); intro gb319 hg w38 hbox hb; have n0_ := Ax (blk_below (g := gb309) (o := .cells #[.bool a0_0, .int .u64 a0_1, .int .u64 a0_2, .int .i64 a0_3] 33 (0, 0)) (bf0 BK309.out) hb); have n1_ := Ax (blk_below (g := gb310) (o := .cells #[.bool a1_0, .int .u64 a1_1, .int .u64 a1_2, .int .i64 a1_3] 33 (0, 0)) (bf0 BK310.out) hb); have n2_ := Ax (blk_below (g := gb311) (o := .cells #[.int .u64 a3_0, .int .u64 a3_1] 24 (0, 0)) (bf0 BK311.out) hb); have n3_ := Ax (blk_below (g := gb315) (o := .cells #[.int .u64 t312, .int .u64 t313] 24 (0, 0)) (bf0 BK315.out) hb); have n4_ := Ax (below_step (bw4 HB.out GE309.out GE310.out GE311.out GE315.out) hb); have n5_ := Ax (hbox); have n6_ := Ax ((by rw [hg]; exact (below_size (bw4 HB.out GE309.out GE310.out GE311.out GE315.out)) : w.heap.size ≤ gb319)); have n7_ := Ax ((by rw [hg]; exact (below_size (bw4 HB.out GE309.out GE310.out GE311.out GE315.out)) : w.heap.size ≤ gb319)); have n8_ := Ax ((by rw [hg]; exact Nat.ne_of_lt (blk_lt (g := gb309) (o := .cells #[.bool a0_0, .int .u64 a0_1, .int .u64 a0_2, .int .i64 a0_3] 33 (0, 0)) (bf0 BK309.out)) : gb309 ≠ gb319)); have n9_ := Ax ((by rw [hg]; exact Nat.ne_of_gt (blk_lt (g := gb309) (o := .cells #[.bool a0_0, .int .u64 a0_1, .int .u64 a0_2, .int .i64 a0_3] 33 (0, 0)) (bf0 BK309.out)) : gb319 ≠ gb309)); have n10_ := Ax ((by rw [hg]; exact Nat.ne_of_lt (blk_lt (g := gb310) (o := .cells #[.bool a1_0, .int .u64 a1_1, .int .u64 a1_2, .int .i64 a1_3] 33 (0, 0)) (bf0 BK310.out)) : gb310 ≠ gb319)); have n11_ := Ax ((by rw [hg]; exact Nat.ne_of_gt (blk_lt (g := gb310) (o := .cells #[.bool a1_0, .int .u64 a1_1, .int .u64 a1_2, .int .i64 a1_3] 33 (0, 0)) (bf0 BK310.out)) : gb319 ≠ gb310)); have n12_ := Ax ((by rw [hg]; exact Nat.ne_of_lt (blk_lt (g := gb311) (o := .cells #[.int .u64 a3_0, .int .u64 a3_1] 24 (0, 0)) (bf0 BK311.out)) : gb311 ≠ gb319)); have n13_ := Ax ((by rw [hg]; exact Nat.ne_of_gt (blk_lt (g := gb311) (o := .cells #[.int .u64 a3_0, .int .u64 a3_1] 24 (0, 0)) (bf0 BK311.out)) : gb319 ≠ gb311)); have n14_ := Ax ((by rw [hg]; exact Nat.ne_of_lt (blk_lt (g := gb315) (o := .cells #[.int .u64 t312, .int .u64 t313] 24 (0, 0)) (bf0 BK315.out)) : gb315 ≠ gb319)); have n15_ := Ax ((by rw [hg]; exact Nat.ne_of_gt (blk_lt (g := gb315) (o := .cells #[.int .u64 t312, .int .u64 t313] 24 (0, 0)) (bf0 BK315.out)) : gb319 ≠ gb315)); clear BK309; clear BK310; clear BK311; clear BK315; clear HB; have BK309 := n0_; have BK310 := n1_; have BK311 := n2_; have BK315 := n3_; have HB := n4_; have BK319 := n5_; have GW319 := n6_; have GE319 := n7_; have NB309_319 := n8_; have NB319_309 := n9_; have NB310_319 := n10_; have NB319_310 := n11_; have NB311_319 := n12_; have NB319_311 := n13_; have NB315_319 := n14_; have NB319_315 := n15_; clear n0_ n1_ n2_ n3_ n4_ n5_ n6_ n7_ n8_ n9_ n10_ n11_ n12_ n13_ n14_ n15_; clear hb hbox hg; have hnb39 := NB319_309.out; have hnc39 := NB309_319.out; have hnb40 := NB319_310.out; have hnc40 := NB310_319.out; have hnb41 := NB319_311.out; have hnc41 := NB311_319.out; have hnb42 := NB319_315.out; have hnc42 := NB315_319.out; have hcz43_0 : w38.cell? ⟨gb319, 0, none⟩ = some (.int .u64 0) := (blk_cell BK319.out 0).trans rfl; have hcz43_1 : w38.cell? ⟨gb319, 1, none⟩ = some (.int .u64 0) := (blk_cell BK319.out 1).trans rfl; have hfz43_0 := blk_frozen BK319.out 0; have hfz43_1 := blk_frozen BK319.out 1; have hcz44_0 : w38.cell? ⟨gb309, 0, none⟩ = some (.bool a0_0) := (blk_cell BK309.out 0).trans rfl; have hcz44_1 : w38.cell? ⟨gb309, 1, none⟩ = some (.int .u64 a0_1) := (blk_cell BK309.out 1).trans rfl; have hcz44_2 : w38.cell? ⟨gb309, 2, none⟩ = some (.int .u64 a0_2) := (blk_cell BK309.out 2).trans rfl; have hcz44_3 : w38.cell? ⟨gb309, 3, none⟩ = some (.int .i64 a0_3) := (blk_cell BK309.out 3).trans rfl; have hfz44_0 := blk_frozen BK309.out 0; have hfz44_1 := blk_frozen BK309.out 1; have hfz44_2 := blk_frozen BK309.out 2; have hfz44_3 := blk_frozen BK309.out 3) | ((with_reducible refine gate_callee (f := 18) rfl ?_); refine goesL_ (some 31) rfl rfl Try.func18 (by kernel_rfl) rfl #[.agg #[.bool a0_0, .int .u64 a0_1, .int .u64 a0_2, .int .i64 a0_3]] rfl gS ?_; (with_reducible refine (addr_Halves.calls k a0_0 a0_1 a0_2 a0_3 t320 t321 t322 t323 t324 t325 t326 t327 t328 _ A7.out).mono ?_); rintro e w45 ⟨rfl, hb⟩; refine ⟨_, rfl, ?_⟩; have n0_ := Ax (blk_below (g := gb309) (o := .cells #[.bool a0_0, .int .u64 a0_1, .int .u64 a0_2, .int .i64 a0_3] 33 (0, 0)) (bf2 BK309.out NB309_319.out NB309_319.out) hb); have n1_ := Ax (blk_below (g := gb310) (o := .cells #[.bool a1_0, .int .u64 a1_1, .int .u64 a1_2, .int .i64 a1_3] 33 (0, 0)) (bf2 BK310.out NB310_319.out NB310_319.out) hb); have n2_ := Ax (blk_below (g := gb311) (o := .cells #[.int .u64 a3_0, .int .u64 a3_1] 24 (0, 0)) (bf2 BK311.out NB311_319.out NB311_319.out) hb); have n3_ := Ax (blk_below (g := gb315) (o := .cells #[.int .u64 t312, .int .u64 t313] 24 (0, 0)) (bf2 BK315.out NB315_319.out NB315_319.out) hb); have n4_ := Ax (blk_below (g := gb319) (o := .cells #[.int .u64 t316, .int .u64 t317] 24 (0, 0)) (by (with_reducible repeat (first | refine blk_drewN ?_ _ | refine blk_drew ?_ | refine blk_alloc ?_ _)); refine blk_put (cs := #[.int .u64 t316, .int .u64 0]) ?_ 1 _ rfl; (with_reducible repeat (first | refine blk_drewN ?_ _ | refine blk_drew ?_ | refine blk_alloc ?_ _)); refine blk_put (cs := #[.int .u64 0, .int .u64 0]) ?_ 0 _ rfl; (with_reducible repeat (first | refine blk_drewN ?_ _ | refine blk_drew ?_ | refine blk_alloc ?_ _)); exact BK319.out) hb); have n5_ := Ax (below_step (bw5 HB.out GE309.out GE310.out GE311.out GE315.out GE319.out) hb); clear BK309; clear BK310; clear BK311; clear BK315; clear BK319; clear HB; have BK309 := n0_; have BK310 := n1_; have BK311 := n2_; have BK315 := n3_; have BK319 := n4_; have HB := n5_; clear n0_ n1_ n2_ n3_ n4_ n5_; (try clear hb); (try clear hb2); (try clear hk); (try clear hi)) | ((with_reducible refine gate_dst (N := 13) rfl ?_); refine box_event ?hg (N := 13) ?hd (cs := #[.bool false, .int .u64 0, .int .u64 0, .int .i64 0]) (t := 33) ?hr ?_; (case hd => rfl); (case hg => rfl); (case hr => first | (go_simp; done) | (go_simp; rfl)); intro gb329 hg w46 hbox hb; have n0_ := Ax (blk_below (g := gb309) (o := .cells #[.bool a0_0, .int .u64 a0_1, .int .u64 a0_2, .int .i64 a0_3] 33 (0, 0)) (bf0 BK309.out) hb); have n1_ := Ax (blk_below (g := gb310) (o := .cells #[.bool a1_0, .int .u64 a1_1, .int .u64 a1_2, .int .i64 a1_3] 33 (0, 0)) (bf0 BK310.out) hb); have n2_ := Ax (blk_below (g := gb311) (o := .cells #[.int .u64 a3_0, .int .u64 a3_1] 24 (0, 0)) (bf0 BK311.out) hb); have n3_ := Ax (blk_below (g := gb315) (o := .cells #[.int .u64 t312, .int .u64 t313] 24 (0, 0)) (bf0 BK315.out) hb); have n4_ := Ax (blk_below (g := gb319) (o := .cells #[.int .u64 t316, .int .u64 t317] 24 (0, 0)) (bf0 BK319.out) hb); have n5_ := Ax (below_step (bw5 HB.out GE309.out GE310.out GE311.out GE315.out GE319.out) hb); have n6_ := Ax (hbox); have n7_ := Ax ((by rw [hg]; exact (below_size (bw5 HB.out GE309.out GE310.out GE311.out GE315.out GE319.out)) : w.heap.size ≤ gb329)); have n8_ := Ax ((by rw [hg]; exact (below_size (bw5 HB.out GE309.out GE310.out GE311.out GE315.out GE319.out)) : w.heap.size ≤ gb329)); have n9_ := Ax ((by rw [hg]; exact Nat.ne_of_lt (blk_lt (g := gb309) (o := .cells #[.bool a0_0, .int .u64 a0_1, .int .u64 a0_2, .int .i64 a0_3] 33 (0, 0)) (bf0 BK309.out)) : gb309 ≠ gb329)); have n10_ := Ax ((by rw [hg]; exact Nat.ne_of_gt (blk_lt (g := gb309) (o := .cells #[.bool a0_0, .int .u64 a0_1, .int .u64 a0_2, .int .i64 a0_3] 33 (0, 0)) (bf0 BK309.out)) : gb329 ≠ gb309)); have n11_ := Ax ((by rw [hg]; exact Nat.ne_of_lt (blk_lt (g := gb310) (o := .cells #[.bool a1_0, .int .u64 a1_1, .int .u64 a1_2, .int .i64 a1_3] 33 (0, 0)) (bf0 BK310.out)) : gb310 ≠ gb329)); have n12_ := Ax ((by rw [hg]; exact Nat.ne_of_gt (blk_lt (g := gb310) (o := .cells #[.bool a1_0, .int .u64 a1_1, .int .u64 a1_2, .int .i64 a1_3] 33 (0, 0)) (bf0 BK310.out)) : gb329 ≠ gb310)); have n13_ := Ax ((by rw [hg]; exact Nat.ne_of_lt (blk_lt (g := gb311) (o := .cells #[.int .u64 a3_0, .int .u64 a3_1] 24 (0, 0)) (bf0 BK311.out)) : gb311 ≠ gb329)); have n14_ := Ax ((by rw [hg]; exact Nat.ne_of_gt (blk_lt (g := gb311) (o := .cells #[.int .u64 a3_0, .int .u64 a3_1] 24 (0, 0)) (bf0 BK311.out)) : gb329 ≠ gb311)); have n15_ := Ax ((by rw [hg]; exact Nat.ne_of_lt (blk_lt (g := gb315) (o := .cells #[.int .u64 t312, .int .u64 t313] 24 (0, 0)) (bf0 BK315.out)) : gb315 ≠ gb329)); have n16_ := Ax ((by rw [hg]; exact Nat.ne_of_gt (blk_lt (g := gb315) (o := .cells #[.int .u64 t312, .int .u64 t313] 24 (0, 0)) (bf0 BK315.out)) : gb329 ≠ gb315)); have n17_ := Ax ((by rw [hg]; exact Nat.ne_of_lt (blk_lt (g := gb319) (o := .cells #[.int .u64 t316, .int .u64 t317] 24 (0, 0)) (bf0 BK319.out)) : gb319 ≠ gb329)); have n18_ := Ax ((by rw [hg]; exact Nat.ne_of_gt (blk_lt (g := gb319) (o := .cells #[.int .u64 t316, .int .u64 t317] 24 (0, 0)) (bf0 BK319.out)) : gb329 ≠ gb319)); clear BK309; clear BK310; clear BK311; clear BK315; clear BK319; clear HB; have BK309 := n0_; have BK310 := n1_; have BK311 := n2_; have BK315 := n3_; have BK319 := n4_; have HB := n5_; have BK329 := n6_; have GW329 := n7_; have GE329 := n8_; have NB309_329 := n9_; have NB329_309 := n10_; have NB310_329 := n11_; have NB329_310 := n12_; have NB311_329 := n13_; have NB329_311 := n14_; have NB315_329 := n15_; have NB329_315 := n16_; have NB319_329 := n17_; have NB329_319 := n18_; clear n0_ n1_ n2_ n3_ n4_ n5_ n6_ n7_ n8_ n9_ n10_ n11_ n12_ n13_ n14_ n15_ n16_ n17_ n18_; clear hb hbox hg) | ((with_reducible refine gate_dst (N := 14) rfl ?_); refine box_event ?hg (N := 14) ?hd (cs := #[.bool false, .int .u64 0, .int .u64 0, .int .i64 0]) (t := 33) ?hr ?_; (case hd => rfl); (case hg => rfl); (case hr => first | (go_simp; done) | (go_simp; rfl)); intro gb330 hg w47 hbox hb; have n0_ := Ax (blk_below (g := gb309) (o := .cells #[.bool a0_0, .int .u64 a0_1, .int .u64 a0_2, .int .i64 a0_3] 33 (0, 0)) (bf0 BK309.out) hb); have n1_ := Ax (blk_below (g := gb310) (o := .cells #[.bool a1_0, .int .u64 a1_1, .int .u64 a1_2, .int .i64 a1_3] 33 (0, 0)) (bf0 BK310.out) hb); have n2_ := Ax (blk_below (g := gb311) (o := .cells #[.int .u64 a3_0, .int .u64 a3_1] 24 (0, 0)) (bf0 BK311.out) hb); have n3_ := Ax (blk_below (g := gb315) (o := .cells #[.int .u64 t312, .int .u64 t313] 24 (0, 0)) (bf0 BK315.out) hb); have n4_ := Ax (blk_below (g := gb319) (o := .cells #[.int .u64 t316, .int .u64 t317] 24 (0, 0)) (bf0 BK319.out) hb); have n5_ := Ax (blk_below (g := gb329) (o := .cells #[.bool false, .int .u64 0, .int .u64 0, .int .i64 0] 33 (0, 0)) (bf0 BK329.out) hb); have n6_ := Ax (below_step (bw6 HB.out GE309.out GE310.out GE311.out GE315.out GE319.out GE329.out) hb); have n7_ := Ax (hbox); have n8_ := Ax ((by rw [hg]; exact (below_size (bw6 HB.out GE309.out GE310.out GE311.out GE315.out GE319.out GE329.out)) : w.heap.size ≤ gb330)); have n9_ := Ax ((by rw [hg]; exact (below_size (bw6 HB.out GE309.out GE310.out GE311.out GE315.out GE319.out GE329.out)) : w.heap.size ≤ gb330)); have n10_ := Ax ((by rw [hg]; exact Nat.ne_of_lt (blk_lt (g := gb309) (o := .cells #[.bool a0_0, .int .u64 a0_1, .int .u64 a0_2, .int .i64 a0_3] 33 (0, 0)) (bf0 BK309.out)) : gb309 ≠ gb330)); have n11_ := Ax ((by rw [hg]; exact Nat.ne_of_gt (blk_lt (g := gb309) (o := .cells #[.bool a0_0, .int .u64 a0_1, .int .u64 a0_2, .int .i64 a0_3] 33 (0, 0)) (bf0 BK309.out)) : gb330 ≠ gb309)); have n12_ := Ax ((by rw [hg]; exact Nat.ne_of_lt (blk_lt (g := gb310) (o := .cells #[.bool a1_0, .int .u64 a1_1, .int .u64 a1_2, .int .i64 a1_3] 33 (0, 0)) (bf0 BK310.out)) : gb310 ≠ gb330)); have n13_ := Ax ((by rw [hg]; exact Nat.ne_of_gt (blk_lt (g := gb310) (o := .cells #[.bool a1_0, .int .u64 a1_1, .int .u64 a1_2, .int .i64 a1_3] 33 (0, 0)) (bf0 BK310.out)) : gb330 ≠ gb310)); have n14_ := Ax ((by rw [hg]; exact Nat.ne_of_lt (blk_lt (g := gb311) (o := .cells #[.int .u64 a3_0, .int .u64 a3_1] 24 (0, 0)) (bf0 BK311.out)) : gb311 ≠ gb330)); have n15_ := Ax ((by rw [hg]; exact Nat.ne_of_gt (blk_lt (g := gb311) (o := .cells #[.int .u64 a3_0, .int .u64 a3_1] 24 (0, 0)) (bf0 BK311.out)) : gb330 ≠ gb311)); have n16_ := Ax ((by rw [hg]; exact Nat.ne_of_lt (blk_lt (g := gb315) (o := .cells #[.int .u64 t312, .int .u64 t313] 24 (0, 0)) (bf0 BK315.out)) : gb315 ≠ gb330)); have n17_ := Ax ((by rw [hg]; exact Nat.ne_of_gt (blk_lt (g := gb315) (o := .cells #[.int .u64 t312, .int .u64 t313] 24 (0, 0)) (bf0 BK315.out)) : gb330 ≠ gb315)); have n18_ := Ax ((by rw [hg]; exact Nat.ne_of_lt (blk_lt (g := gb319) (o := .cells #[.int .u64 t316, .int .u64 t317] 24 (0, 0)) (bf0 BK319.out)) : gb319 ≠ gb330)); have n19_ := Ax ((by rw [hg]; exact Nat.ne_of_gt (blk_lt (g := gb319) (o := .cells #[.int .u64 t316, .int .u64 t317] 24 (0, 0)) (bf0 BK319.out)) : gb330 ≠ gb319)); have n20_ := Ax ((by rw [hg]; exact Nat.ne_of_lt (blk_lt (g := gb329) (o := .cells #[.bool false, .int .u64 0, .int .u64 0, .int .i64 0] 33 (0, 0)) (bf0 BK329.out)) : gb329 ≠ gb330)); have n21_ := Ax ((by rw [hg]; exact Nat.ne_of_gt (blk_lt (g := gb329) (o := .cells #[.bool false, .int .u64 0, .int .u64 0, .int .i64 0] 33 (0, 0)) (bf0 BK329.out)) : gb330 ≠ gb329)); clear BK309; clear BK310; clear BK311; clear BK315; clear BK319; clear BK329; clear HB; have BK309 := n0_; have BK310 := n1_; have BK311 := n2_; have BK315 := n3_; have BK319 := n4_; have BK329 := n5_; have HB := n6_; have BK330 := n7_; have GW330 := n8_; have GE330 := n9_; have NB309_330 := n10_; have NB330_309 := n11_; have NB310_330 := n12_; have NB330_310 := n13_; have NB311_330 := n14_; have NB330_311 := n15_; have NB315_330 := n16_; have NB330_315 := n17_; have NB319_330 := n18_; have NB330_319 := n19_; have NB329_330 := n20_; have NB330_329 := n21_; clear n0_ n1_ n2_ n3_ n4_ n5_ n6_ n7_ n8_ n9_ n10_ n11_ n12_ n13_ n14_ n15_ n16_ n17_ n18_ n19_ n20_ n21_; clear hb hbox hg; have hnb48 := NB329_309.out; have hnc48 := NB309_329.out; have hnb49 := NB329_310.out; have hnc49 := NB310_329.out; have hnb50 := NB329_311.out; have hnc50 := NB311_329.out; have hnb51 := NB329_315.out; have hnc51 := NB315_329.out; have hnb52 := NB329_319.out; have hnc52 := NB319_329.out; have hnb53 := NB329_330.out; have hnc53 := NB330_329.out; have hcz54_0 : w47.cell? ⟨gb329, 0, none⟩ = some (.bool false) := (blk_cell BK329.out 0).trans rfl; have hcz54_1 : w47.cell? ⟨gb329, 1, none⟩ = some (.int .u64 0) := (blk_cell BK329.out 1).trans rfl; have hcz54_2 : w47.cell? ⟨gb329, 2, none⟩ = some (.int .u64 0) := (blk_cell BK329.out 2).trans rfl; have hcz54_3 : w47.cell? ⟨gb329, 3, none⟩ = some (.int .i64 0) := (blk_cell BK329.out 3).trans rfl; have hfz54_0 := blk_frozen BK329.out 0; have hfz54_1 := blk_frozen BK329.out 1; have hfz54_2 := blk_frozen BK329.out 2; have hfz54_3 := blk_frozen BK329.out 3; have hnb55 := NB330_309.out; have hnc55 := NB309_330.out; have hnb56 := NB330_310.out; have hnc56 := NB310_330.out; have hnb57 := NB330_311.out; have hnc57 := NB311_330.out; have hnb58 := NB330_315.out; have hnc58 := NB315_330.out; have hnb59 := NB330_319.out; have hnc59 := NB319_330.out; have hcz60_0 : w47.cell? ⟨gb330, 0, none⟩ = some (.bool false) := (blk_cell BK330.out 0).trans rfl; have hcz60_1 : w47.cell? ⟨gb330, 1, none⟩ = some (.int .u64 0) := (blk_cell BK330.out 1).trans rfl; have hcz60_2 : w47.cell? ⟨gb330, 2, none⟩ = some (.int .u64 0) := (blk_cell BK330.out 2).trans rfl; have hcz60_3 : w47.cell? ⟨gb330, 3, none⟩ = some (.int .i64 0) := (blk_cell BK330.out 3).trans rfl; have hfz60_0 := blk_frozen BK330.out 0; have hfz60_1 := blk_frozen BK330.out 1; have hfz60_2 := blk_frozen BK330.out 2; have hfz60_3 := blk_frozen BK330.out 3; have hcz61_0 : w47.cell? ⟨gb309, 0, none⟩ = some (.bool a0_0) := (blk_cell BK309.out 0).trans rfl; have hcz61_1 : w47.cell? ⟨gb309, 1, none⟩ = some (.int .u64 a0_1) := (blk_cell BK309.out 1).trans rfl; have hcz61_2 : w47.cell? ⟨gb309, 2, none⟩ = some (.int .u64 a0_2) := (blk_cell BK309.out 2).trans rfl; have hcz61_3 : w47.cell? ⟨gb309, 3, none⟩ = some (.int .i64 a0_3) := (blk_cell BK309.out 3).trans rfl; have hfz61_0 := blk_frozen BK309.out 0; have hfz61_1 := blk_frozen BK309.out 1; have hfz61_2 := blk_frozen BK309.out 2; have hfz61_3 := blk_frozen BK309.out 3) | ((with_reducible refine gate_callee (f := 19) rfl ?_); refine goesL_ (some 37) rfl rfl Try.func19 (by kernel_rfl) rfl #[.agg #[.bool a0_0, .int .u64 a0_1, .int .u64 a0_2, .int .i64 a0_3]] rfl gS ?_; (with_reducible refine (spoorref09_Halves.calls k a0_0 a0_1 a0_2 a0_3 t331 t332 t333 t334 t335 t336 t337 t338 t339 _ A8.out).mono ?_); rintro e w62 ⟨rfl, hb⟩; refine ⟨_, rfl, ?_⟩; have n0_ := Ax (blk_below (g := gb309) (o := .cells #[.bool a0_0, .int .u64 a0_1, .int .u64 a0_2, .int .i64 a0_3] 33 (0, 0)) (bf8 BK309.out NB309_330.out NB309_330.out NB309_330.out NB309_330.out NB309_329.out NB309_329.out NB309_329.out NB309_329.out) hb); have n1_ := Ax (blk_below (g := gb310) (o := .cells #[.bool a1_0, .int .u64 a1_1, .int .u64 a1_2, .int .i64 a1_3] 33 (0, 0)) (bf8 BK310.out NB310_330.out NB310_330.out NB310_330.out NB310_330.out NB310_329.out NB310_329.out NB310_329.out NB310_329.out) hb); have n2_ := Ax (blk_below (g := gb311) (o := .cells #[.int .u64 a3_0, .int .u64 a3_1] 24 (0, 0)) (bf8 BK311.out NB311_330.out NB311_330.out NB311_330.out NB311_330.out NB311_329.out NB311_329.out NB311_329.out NB311_329.out) hb); have n3_ := Ax (blk_below (g := gb315) (o := .cells #[.int .u64 t312, .int .u64 t313] 24 (0, 0)) (bf8 BK315.out NB315_330.out NB315_330.out NB315_330.out NB315_330.out NB315_329.out NB315_329.out NB315_329.out NB315_329.out) hb); have n4_ := Ax (blk_below (g := gb319) (o := .cells #[.int .u64 t316, .int .u64 t317] 24 (0, 0)) (bf8 BK319.out NB319_330.out NB319_330.out NB319_330.out NB319_330.out NB319_329.out NB319_329.out NB319_329.out NB319_329.out) hb); have n5_ := Ax (blk_below (g := gb329) (o := .cells #[.bool t320, .int .u64 t321, .int .u64 t322, .int .i64 t323] 33 (0, 0)) (by (with_reducible repeat (first | refine blk_drewN ?_ _ | refine blk_drew ?_ | refine blk_alloc ?_ _)); refine blk_far ?_ NB329_330.out _; (with_reducible repeat (first | refine blk_drewN ?_ _ | refine blk_drew ?_ | refine blk_alloc ?_ _)); refine blk_far ?_ NB329_330.out _; (with_reducible repeat (first | refine blk_drewN ?_ _ | refine blk_drew ?_ | refine blk_alloc ?_ _)); refine blk_far ?_ NB329_330.out _; (with_reducible repeat (first | refine blk_drewN ?_ _ | refine blk_drew ?_ | refine blk_alloc ?_ _)); refine blk_far ?_ NB329_330.out _; (with_reducible repeat (first | refine blk_drewN ?_ _ | refine blk_drew ?_ | refine blk_alloc ?_ _)); refine blk_put (cs := #[.bool t320, .int .u64 t321, .int .u64 t322, .int .i64 0]) ?_ 3 _ rfl; (with_reducible repeat (first | refine blk_drewN ?_ _ | refine blk_drew ?_ | refine blk_alloc ?_ _)); refine blk_put (cs := #[.bool t320, .int .u64 t321, .int .u64 0, .int .i64 0]) ?_ 2 _ rfl; (with_reducible repeat (first | refine blk_drewN ?_ _ | refine blk_drew ?_ | refine blk_alloc ?_ _)); refine blk_put (cs := #[.bool t320, .int .u64 0, .int .u64 0, .int .i64 0]) ?_ 1 _ rfl; (with_reducible repeat (first | refine blk_drewN ?_ _ | refine blk_drew ?_ | refine blk_alloc ?_ _)); refine blk_put (cs := #[.bool false, .int .u64 0, .int .u64 0, .int .i64 0]) ?_ 0 _ rfl; (with_reducible repeat (first | refine blk_drewN ?_ _ | refine blk_drew ?_ | refine blk_alloc ?_ _)); exact BK329.out) hb); have n6_ := Ax (blk_below (g := gb330) (o := .cells #[.bool t324, .int .u64 t325, .int .u64 t326, .int .i64 t327] 33 (0, 0)) (by (with_reducible repeat (first | refine blk_drewN ?_ _ | refine blk_drew ?_ | refine blk_alloc ?_ _)); refine blk_put (cs := #[.bool t324, .int .u64 t325, .int .u64 t326, .int .i64 0]) ?_ 3 _ rfl; (with_reducible repeat (first | refine blk_drewN ?_ _ | refine blk_drew ?_ | refine blk_alloc ?_ _)); refine blk_put (cs := #[.bool t324, .int .u64 t325, .int .u64 0, .int .i64 0]) ?_ 2 _ rfl; (with_reducible repeat (first | refine blk_drewN ?_ _ | refine blk_drew ?_ | refine blk_alloc ?_ _)); refine blk_put (cs := #[.bool t324, .int .u64 0, .int .u64 0, .int .i64 0]) ?_ 1 _ rfl; (with_reducible repeat (first | refine blk_drewN ?_ _ | refine blk_drew ?_ | refine blk_alloc ?_ _)); refine blk_put (cs := #[.bool false, .int .u64 0, .int .u64 0, .int .i64 0]) ?_ 0 _ rfl; (with_reducible repeat (first | refine blk_drewN ?_ _ | refine blk_drew ?_ | refine blk_alloc ?_ _)); refine blk_far ?_ NB330_329.out _; (with_reducible repeat (first | refine blk_drewN ?_ _ | refine blk_drew ?_ | refine blk_alloc ?_ _)); refine blk_far ?_ NB330_329.out _; (with_reducible repeat (first | refine blk_drewN ?_ _ | refine blk_drew ?_ | refine blk_alloc ?_ _)); refine blk_far ?_ NB330_329.out _; (with_reducible repeat (first | refine blk_drewN ?_ _ | refine blk_drew ?_ | refine blk_alloc ?_ _)); refine blk_far ?_ NB330_329.out _; (with_reducible repeat (first | refine blk_drewN ?_ _ | refine blk_drew ?_ | refine blk_alloc ?_ _)); exact BK330.out) hb); have n7_ := Ax (below_step (bw7 HB.out GE309.out GE310.out GE311.out GE315.out GE319.out GE329.out GE330.out) hb); clear BK309; clear BK310; clear BK311; clear BK315; clear BK319; clear BK329; clear BK330; clear HB; have BK309 := n0_; have BK310 := n1_; have BK311 := n2_; have BK315 := n3_; have BK319 := n4_; have BK329 := n5_; have BK330 := n6_; have HB := n7_; clear n0_ n1_ n2_ n3_ n4_ n5_ n6_ n7_; (try clear hb); (try clear hb2); (try clear hk); (try clear hi)) | ((with_reducible refine gate_dst (N := 16) rfl ?_); refine box_event ?hg (N := 16) ?hd (cs := #[.bool false, .int .u64 0, .int .u64 0, .int .i64 0]) (t := 33) ?hr ?_; (case hd => rfl); (case hg => rfl); (case hr => first | (go_simp; done) | (go_simp; rfl)); intro gb340 hg w63 hbox hb; have n0_ := Ax (blk_below (g := gb309) (o := .cells #[.bool a0_0, .int .u64 a0_1, .int .u64 a0_2, .int .i64 a0_3] 33 (0, 0)) (bf0 BK309.out) hb); have n1_ := Ax (blk_below (g := gb310) (o := .cells #[.bool a1_0, .int .u64 a1_1, .int .u64 a1_2, .int .i64 a1_3] 33 (0, 0)) (bf0 BK310.out) hb); have n2_ := Ax (blk_below (g := gb311) (o := .cells #[.int .u64 a3_0, .int .u64 a3_1] 24 (0, 0)) (bf0 BK311.out) hb); have n3_ := Ax (blk_below (g := gb315) (o := .cells #[.int .u64 t312, .int .u64 t313] 24 (0, 0)) (bf0 BK315.out) hb); have n4_ := Ax (blk_below (g := gb319) (o := .cells #[.int .u64 t316, .int .u64 t317] 24 (0, 0)) (bf0 BK319.out) hb); have n5_ := Ax (blk_below (g := gb329) (o := .cells #[.bool t320, .int .u64 t321, .int .u64 t322, .int .i64 t323] 33 (0, 0)) (bf0 BK329.out) hb); have n6_ := Ax (blk_below (g := gb330) (o := .cells #[.bool t324, .int .u64 t325, .int .u64 t326, .int .i64 t327] 33 (0, 0)) (bf0 BK330.out) hb); have n7_ := Ax (below_step (bw7 HB.out GE309.out GE310.out GE311.out GE315.out GE319.out GE329.out GE330.out) hb); have n8_ := Ax (hbox); have n9_ := Ax ((by rw [hg]; exact (below_size (bw7 HB.out GE309.out GE310.out GE311.out GE315.out GE319.out GE329.out GE330.out)) : w.heap.size ≤ gb340)); have n10_ := Ax ((by rw [hg]; exact (below_size (bw7 HB.out GE309.out GE310.out GE311.out GE315.out GE319.out GE329.out GE330.out)) : w.heap.size ≤ gb340)); have n11_ := Ax ((by rw [hg]; exact Nat.ne_of_lt (blk_lt (g := gb309) (o := .cells #[.bool a0_0, .int .u64 a0_1, .int .u64 a0_2, .int .i64 a0_3] 33 (0, 0)) (bf0 BK309.out)) : gb309 ≠ gb340)); have n12_ := Ax ((by rw [hg]; exact Nat.ne_of_gt (blk_lt (g := gb309) (o := .cells #[.bool a0_0, .int .u64 a0_1, .int .u64 a0_2, .int .i64 a0_3] 33 (0, 0)) (bf0 BK309.out)) : gb340 ≠ gb309)); have n13_ := Ax ((by rw [hg]; exact Nat.ne_of_lt (blk_lt (g := gb310) (o := .cells #[.bool a1_0, .int .u64 a1_1, .int .u64 a1_2, .int .i64 a1_3] 33 (0, 0)) (bf0 BK310.out)) : gb310 ≠ gb340)); have n14_ := Ax ((by rw [hg]; exact Nat.ne_of_gt (blk_lt (g := gb310) (o := .cells #[.bool a1_0, .int .u64 a1_1, .int .u64 a1_2, .int .i64 a1_3] 33 (0, 0)) (bf0 BK310.out)) : gb340 ≠ gb310)); have n15_ := Ax ((by rw [hg]; exact Nat.ne_of_lt (blk_lt (g := gb311) (o := .cells #[.int .u64 a3_0, .int .u64 a3_1] 24 (0, 0)) (bf0 BK311.out)) : gb311 ≠ gb340)); have n16_ := Ax ((by rw [hg]; exact Nat.ne_of_gt (blk_lt (g := gb311) (o := .cells #[.int .u64 a3_0, .int .u64 a3_1] 24 (0, 0)) (bf0 BK311.out)) : gb340 ≠ gb311)); have n17_ := Ax ((by rw [hg]; exact Nat.ne_of_lt (blk_lt (g := gb315) (o := .cells #[.int .u64 t312, .int .u64 t313] 24 (0, 0)) (bf0 BK315.out)) : gb315 ≠ gb340)); have n18_ := Ax ((by rw [hg]; exact Nat.ne_of_gt (blk_lt (g := gb315) (o := .cells #[.int .u64 t312, .int .u64 t313] 24 (0, 0)) (bf0 BK315.out)) : gb340 ≠ gb315)); have n19_ := Ax ((by rw [hg]; exact Nat.ne_of_lt (blk_lt (g := gb319) (o := .cells #[.int .u64 t316, .int .u64 t317] 24 (0, 0)) (bf0 BK319.out)) : gb319 ≠ gb340)); have n20_ := Ax ((by rw [hg]; exact Nat.ne_of_gt (blk_lt (g := gb319) (o := .cells #[.int .u64 t316, .int .u64 t317] 24 (0, 0)) (bf0 BK319.out)) : gb340 ≠ gb319)); have n21_ := Ax ((by rw [hg]; exact Nat.ne_of_lt (blk_lt (g := gb329) (o := .cells #[.bool t320, .int .u64 t321, .int .u64 t322, .int .i64 t323] 33 (0, 0)) (bf0 BK329.out)) : gb329 ≠ gb340)); have n22_ := Ax ((by rw [hg]; exact Nat.ne_of_gt (blk_lt (g := gb329) (o := .cells #[.bool t320, .int .u64 t321, .int .u64 t322, .int .i64 t323] 33 (0, 0)) (bf0 BK329.out)) : gb340 ≠ gb329)); have n23_ := Ax ((by rw [hg]; exact Nat.ne_of_lt (blk_lt (g := gb330) (o := .cells #[.bool t324, .int .u64 t325, .int .u64 t326, .int .i64 t327] 33 (0, 0)) (bf0 BK330.out)) : gb330 ≠ gb340)); have n24_ := Ax ((by rw [hg]; exact Nat.ne_of_gt (blk_lt (g := gb330) (o := .cells #[.bool t324, .int .u64 t325, .int .u64 t326, .int .i64 t327] 33 (0, 0)) (bf0 BK330.out)) : gb340 ≠ gb330)); clear BK309; clear BK310; clear BK311; clear BK315; clear BK319; clear BK329; clear BK330; clear HB; have BK309 := n0_; have BK310 := n1_; have BK311 := n2_; have BK315 := n3_; have BK319 := n4_; have BK329 := n5_; have BK330 := n6_; have HB := n7_; have BK340 := n8_; have GW340 := n9_; have GE340 := n10_; have NB309_340 := n11_; have NB340_309 := n12_; have NB310_340 := n13_; have NB340_310 := n14_; have NB311_340 := n15_; have NB340_311 := n16_; have NB315_340 := n17_; have NB340_315 := n18_; have NB319_340 := n19_; have NB340_319 := n20_; have NB329_340 := n21_; have NB340_329 := n22_; have NB330_340 := n23_; have NB340_330 := n24_; clear n0_ n1_ n2_ n3_ n4_ n5_ n6_ n7_ n8_ n9_ n10_ n11_ n12_ n13_ n14_ n15_ n16_ n17_ n18_ n19_ n20_ n21_ n22_ n23_ n24_; clear hb hbox hg) | ((with_reducible refine gate_dst (N := 17) rfl ?_); refine box_event ?hg (N := 17) ?hd (cs := #[.bool false, .int .u64 0, .int .u64 0, .int .i64 0]) (t := 33) ?hr ?_; (case hd => rfl); (case hg => rfl); (case hr => first | (go_simp; done) | (go_simp; rfl)); intro gb341 hg w64 hbox hb; have n0_ := Ax (blk_below (g := gb309) (o := .cells #[.bool a0_0, .int .u64 a0_1, .int .u64 a0_2, .int .i64 a0_3] 33 (0, 0)) (bf0 BK309.out) hb); have n1_ := Ax (blk_below (g := gb310) (o := .cells #[.bool a1_0, .int .u64 a1_1, .int .u64 a1_2, .int .i64 a1_3] 33 (0, 0)) (bf0 BK310.out) hb); have n2_ := Ax (blk_below (g := gb311) (o := .cells #[.int .u64 a3_0, .int .u64 a3_1] 24 (0, 0)) (bf0 BK311.out) hb); have n3_ := Ax (blk_below (g := gb315) (o := .cells #[.int .u64 t312, .int .u64 t313] 24 (0, 0)) (bf0 BK315.out) hb); have n4_ := Ax (blk_below (g := gb319) (o := .cells #[.int .u64 t316, .int .u64 t317] 24 (0, 0)) (bf0 BK319.out) hb); have n5_ := Ax (blk_below (g := gb329) (o := .cells #[.bool t320, .int .u64 t321, .int .u64 t322, .int .i64 t323] 33 (0, 0)) (bf0 BK329.out) hb); have n6_ := Ax (blk_below (g := gb330) (o := .cells #[.bool t324, .int .u64 t325, .int .u64 t326, .int .i64 t327] 33 (0, 0)) (bf0 BK330.out) hb); have n7_ := Ax (blk_below (g := gb340) (o := .cells #[.bool false, .int .u64 0, .int .u64 0, .int .i64 0] 33 (0, 0)) (bf0 BK340.out) hb); have n8_ := Ax (below_step (bw8 HB.out GE309.out GE310.out GE311.out GE315.out GE319.out GE329.out GE330.out GE340.out) hb); have n9_ := Ax (hbox); have n10_ := Ax ((by rw [hg]; exact (below_size (bw8 HB.out GE309.out GE310.out GE311.out GE315.out GE319.out GE329.out GE330.out GE340.out)) : w.heap.size ≤ gb341)); have n11_ := Ax ((by rw [hg]; exact (below_size (bw8 HB.out GE309.out GE310.out GE311.out GE315.out GE319.out GE329.out GE330.out GE340.out)) : w.heap.size ≤ gb341)); have n12_ := Ax ((by rw [hg]; exact Nat.ne_of_lt (blk_lt (g := gb309) (o := .cells #[.bool a0_0, .int .u64 a0_1, .int .u64 a0_2, .int .i64 a0_3] 33 (0, 0)) (bf0 BK309.out)) : gb309 ≠ gb341)); have n13_ := Ax ((by rw [hg]; exact Nat.ne_of_gt (blk_lt (g := gb309) (o := .cells #[.bool a0_0, .int .u64 a0_1, .int .u64 a0_2, .int .i64 a0_3] 33 (0, 0)) (bf0 BK309.out)) : gb341 ≠ gb309)); have n14_ := Ax ((by rw [hg]; exact Nat.ne_of_lt (blk_lt (g := gb310) (o := .cells #[.bool a1_0, .int .u64 a1_1, .int .u64 a1_2, .int .i64 a1_3] 33 (0, 0)) (bf0 BK310.out)) : gb310 ≠ gb341)); have n15_ := Ax ((by rw [hg]; exact Nat.ne_of_gt (blk_lt (g := gb310) (o := .cells #[.bool a1_0, .int .u64 a1_1, .int .u64 a1_2, .int .i64 a1_3] 33 (0, 0)) (bf0 BK310.out)) : gb341 ≠ gb310)); have n16_ := Ax ((by rw [hg]; exact Nat.ne_of_lt (blk_lt (g := gb311) (o := .cells #[.int .u64 a3_0, .int .u64 a3_1] 24 (0, 0)) (bf0 BK311.out)) : gb311 ≠ gb341)); have n17_ := Ax ((by rw [hg]; exact Nat.ne_of_gt (blk_lt (g := gb311) (o := .cells #[.int .u64 a3_0, .int .u64 a3_1] 24 (0, 0)) (bf0 BK311.out)) : gb341 ≠ gb311)); have n18_ := Ax ((by rw [hg]; exact Nat.ne_of_lt (blk_lt (g := gb315) (o := .cells #[.int .u64 t312, .int .u64 t313] 24 (0, 0)) (bf0 BK315.out)) : gb315 ≠ gb341)); have n19_ := Ax ((by rw [hg]; exact Nat.ne_of_gt (blk_lt (g := gb315) (o := .cells #[.int .u64 t312, .int .u64 t313] 24 (0, 0)) (bf0 BK315.out)) : gb341 ≠ gb315)); have n20_ := Ax ((by rw [hg]; exact Nat.ne_of_lt (blk_lt (g := gb319) (o := .cells #[.int .u64 t316, .int .u64 t317] 24 (0, 0)) (bf0 BK319.out)) : gb319 ≠ gb341)); have n21_ := Ax ((by rw [hg]; exact Nat.ne_of_gt (blk_lt (g := gb319) (o := .cells #[.int .u64 t316, .int .u64 t317] 24 (0, 0)) (bf0 BK319.out)) : gb341 ≠ gb319)); have n22_ := Ax ((by rw [hg]; exact Nat.ne_of_lt (blk_lt (g := gb329) (o := .cells #[.bool t320, .int .u64 t321, .int .u64 t322, .int .i64 t323] 33 (0, 0)) (bf0 BK329.out)) : gb329 ≠ gb341)); have n23_ := Ax ((by rw [hg]; exact Nat.ne_of_gt (blk_lt (g := gb329) (o := .cells #[.bool t320, .int .u64 t321, .int .u64 t322, .int .i64 t323] 33 (0, 0)) (bf0 BK329.out)) : gb341 ≠ gb329)); have n24_ := Ax ((by rw [hg]; exact Nat.ne_of_lt (blk_lt (g := gb330) (o := .cells #[.bool t324, .int .u64 t325, .int .u64 t326, .int .i64 t327] 33 (0, 0)) (bf0 BK330.out)) : gb330 ≠ gb341)); have n25_ := Ax ((by rw [hg]; exact Nat.ne_of_gt (blk_lt (g := gb330) (o := .cells #[.bool t324, .int .u64 t325, .int .u64 t326, .int .i64 t327] 33 (0, 0)) (bf0 BK330.out)) : gb341 ≠ gb330)); have n26_ := Ax ((by rw [hg]; exact Nat.ne_of_lt (blk_lt (g := gb340) (o := .cells #[.bool false, .int .u64 0, .int .u64 0, .int .i64 0] 33 (0, 0)) (bf0 BK340.out)) : gb340 ≠ gb341)); have n27_ := Ax ((by rw [hg]; exact Nat.ne_of_gt (blk_lt (g := gb340) (o := .cells #[.bool false, .int .u64 0, .int .u64 0, .int .i64 0] 33 (0, 0)) (bf0 BK340.out)) : gb341 ≠ gb340)); clear BK309; clear BK310; clear BK311; clear BK315; clear BK319; clear BK329; clear BK330; clear BK340; clear HB; have BK309 := n0_; have BK310 := n1_; have BK311 := n2_; have BK315 := n3_; have BK319 := n4_; have BK329 := n5_; have BK330 := n6_; have BK340 := n7_; have HB := n8_; have BK341 := n9_; have GW341 := n10_; have GE341 := n11_; have NB309_341 := n12_; have NB341_309 := n13_; have NB310_341 := n14_; have NB341_310 := n15_; have NB311_341 := n16_; have NB341_311 := n17_; have NB315_341 := n18_; have NB341_315 := n19_; have NB319_341 := n20_; have NB341_319 := n21_; have NB329_341 := n22_; have NB341_329 := n23_; have NB330_341 := n24_; have NB341_330 := n25_; have NB340_341 := n26_; have NB341_340 := n27_; clear n0_ n1_ n2_ n3_ n4_ n5_ n6_ n7_ n8_ n9_ n10_ n11_ n12_ n13_ n14_ n15_ n16_ n17_ n18_ n19_ n20_ n21_ n22_ n23_ n24_ n25_ n26_ n27_; clear hb hbox hg; have hnb65 := NB340_309.out; have hnc65 := NB309_340.out; have hnb66 := NB340_310.out; have hnc66 := NB310_340.out; have hnb67 := NB340_311.out; have hnc67 := NB311_340.out; have hnb68 := NB340_315.out; have hnc68 := NB315_340.out; have hnb69 := NB340_319.out; have hnc69 := NB319_340.out; have hnb70 := NB340_329.out; have hnc70 := NB329_340.out; have hnb71 := NB340_330.out; have hnc71 := NB330_340.out; have hnb72 := NB340_341.out; have hnc72 := NB341_340.out; have hcz73_0 : w64.cell? ⟨gb340, 0, none⟩ = some (.bool false) := (blk_cell BK340.out 0).trans rfl; have hcz73_1 : w64.cell? ⟨gb340, 1, none⟩ = some (.int .u64 0) := (blk_cell BK340.out 1).trans rfl; have hcz73_2 : w64.cell? ⟨gb340, 2, none⟩ = some (.int .u64 0) := (blk_cell BK340.out 2).trans rfl; have hcz73_3 : w64.cell? ⟨gb340, 3, none⟩ = some (.int .i64 0) := (blk_cell BK340.out 3).trans rfl; have hfz73_0 := blk_frozen BK340.out 0; have hfz73_1 := blk_frozen BK340.out 1; have hfz73_2 := blk_frozen BK340.out 2; have hfz73_3 := blk_frozen BK340.out 3; have hnb74 := NB341_309.out; have hnc74 := NB309_341.out; have hnb75 := NB341_310.out; have hnc75 := NB310_341.out; have hnb76 := NB341_311.out; have hnc76 := NB311_341.out; have hnb77 := NB341_315.out; have hnc77 := NB315_341.out; have hnb78 := NB341_319.out; have hnc78 := NB319_341.out; have hnb79 := NB341_329.out; have hnc79 := NB329_341.out; have hnb80 := NB341_330.out; have hnc80 := NB330_341.out; have hcz81_0 : w64.cell? ⟨gb341, 0, none⟩ = some (.bool false) := (blk_cell BK341.out 0).trans rfl; have hcz81_1 : w64.cell? ⟨gb341, 1, none⟩ = some (.int .u64 0) := (blk_cell BK341.out 1).trans rfl; have hcz81_2 : w64.cell? ⟨gb341, 2, none⟩ = some (.int .u64 0) := (blk_cell BK341.out 2).trans rfl; have hcz81_3 : w64.cell? ⟨gb341, 3, none⟩ = some (.int .i64 0) := (blk_cell BK341.out 3).trans rfl; have hfz81_0 := blk_frozen BK341.out 0; have hfz81_1 := blk_frozen BK341.out 1; have hfz81_2 := blk_frozen BK341.out 2; have hfz81_3 := blk_frozen BK341.out 3))
         have n0_ : Aside0 (((((((((w64.setCell ⟨gb340, 0, none⟩ (.bool t331)).setCell ⟨gb340, 1, none⟩ (.int .u64 t332)).setCell ⟨gb340, 2, none⟩ (.int .u64 t333)).setCell ⟨gb340, 3, none⟩ (.int .i64 t334)).setCell ⟨gb341, 0, none⟩ (.bool t335)).setCell ⟨gb341, 1, none⟩ (.int .u64 t336)).setCell ⟨gb341, 2, none⟩ (.int .u64 t337)).setCell ⟨gb341, 3, none⟩ (.int .i64 t338)).heap[gb309]? = some (.cells #[.bool a0_0, .int .u64 a0_1, .int .u64 a0_2, .int .i64 a0_3] 33 (0, 0))) := ⟨bf8 BK309.out NB309_341.out NB309_341.out NB309_341.out NB309_341.out NB309_340.out NB309_340.out NB309_340.out NB309_340.out⟩
         have n1_ : Aside0 (((((((((w64.setCell ⟨gb340, 0, none⟩ (.bool t331)).setCell ⟨gb340, 1, none⟩ (.int .u64 t332)).setCell ⟨gb340, 2, none⟩ (.int .u64 t333)).setCell ⟨gb340, 3, none⟩ (.int .i64 t334)).setCell ⟨gb341, 0, none⟩ (.bool t335)).setCell ⟨gb341, 1, none⟩ (.int .u64 t336)).setCell ⟨gb341, 2, none⟩ (.int .u64 t337)).setCell ⟨gb341, 3, none⟩ (.int .i64 t338)).heap[gb310]? = some (.cells #[.bool a1_0, .int .u64 a1_1, .int .u64 a1_2, .int .i64 a1_3] 33 (0, 0))) := ⟨bf8 BK310.out NB310_341.out NB310_341.out NB310_341.out NB310_341.out NB310_340.out NB310_340.out NB310_340.out NB310_340.out⟩
         have n2_ : Aside0 (((((((((w64.setCell ⟨gb340, 0, none⟩ (.bool t331)).setCell ⟨gb340, 1, none⟩ (.int .u64 t332)).setCell ⟨gb340, 2, none⟩ (.int .u64 t333)).setCell ⟨gb340, 3, none⟩ (.int .i64 t334)).setCell ⟨gb341, 0, none⟩ (.bool t335)).setCell ⟨gb341, 1, none⟩ (.int .u64 t336)).setCell ⟨gb341, 2, none⟩ (.int .u64 t337)).setCell ⟨gb341, 3, none⟩ (.int .i64 t338)).heap[gb311]? = some (.cells #[.int .u64 a3_0, .int .u64 a3_1] 24 (0, 0))) := ⟨bf8 BK311.out NB311_341.out NB311_341.out NB311_341.out NB311_341.out NB311_340.out NB311_340.out NB311_340.out NB311_340.out⟩
         have n3_ : Aside0 (((((((((w64.setCell ⟨gb340, 0, none⟩ (.bool t331)).setCell ⟨gb340, 1, none⟩ (.int .u64 t332)).setCell ⟨gb340, 2, none⟩ (.int .u64 t333)).setCell ⟨gb340, 3, none⟩ (.int .i64 t334)).setCell ⟨gb341, 0, none⟩ (.bool t335)).setCell ⟨gb341, 1, none⟩ (.int .u64 t336)).setCell ⟨gb341, 2, none⟩ (.int .u64 t337)).setCell ⟨gb341, 3, none⟩ (.int .i64 t338)).heap[gb315]? = some (.cells #[.int .u64 t312, .int .u64 t313] 24 (0, 0))) := ⟨bf8 BK315.out NB315_341.out NB315_341.out NB315_341.out NB315_341.out NB315_340.out NB315_340.out NB315_340.out NB315_340.out⟩
         have n4_ : Aside0 (((((((((w64.setCell ⟨gb340, 0, none⟩ (.bool t331)).setCell ⟨gb340, 1, none⟩ (.int .u64 t332)).setCell ⟨gb340, 2, none⟩ (.int .u64 t333)).setCell ⟨gb340, 3, none⟩ (.int .i64 t334)).setCell ⟨gb341, 0, none⟩ (.bool t335)).setCell ⟨gb341, 1, none⟩ (.int .u64 t336)).setCell ⟨gb341, 2, none⟩ (.int .u64 t337)).setCell ⟨gb341, 3, none⟩ (.int .i64 t338)).heap[gb319]? = some (.cells #[.int .u64 t316, .int .u64 t317] 24 (0, 0))) := ⟨bf8 BK319.out NB319_341.out NB319_341.out NB319_341.out NB319_341.out NB319_340.out NB319_340.out NB319_340.out NB319_340.out⟩
         have n5_ : Aside0 (((((((((w64.setCell ⟨gb340, 0, none⟩ (.bool t331)).setCell ⟨gb340, 1, none⟩ (.int .u64 t332)).setCell ⟨gb340, 2, none⟩ (.int .u64 t333)).setCell ⟨gb340, 3, none⟩ (.int .i64 t334)).setCell ⟨gb341, 0, none⟩ (.bool t335)).setCell ⟨gb341, 1, none⟩ (.int .u64 t336)).setCell ⟨gb341, 2, none⟩ (.int .u64 t337)).setCell ⟨gb341, 3, none⟩ (.int .i64 t338)).heap[gb329]? = some (.cells #[.bool t320, .int .u64 t321, .int .u64 t322, .int .i64 t323] 33 (0, 0))) := ⟨bf8 BK329.out NB329_341.out NB329_341.out NB329_341.out NB329_341.out NB329_340.out NB329_340.out NB329_340.out NB329_340.out⟩
         have n6_ : Aside0 (((((((((w64.setCell ⟨gb340, 0, none⟩ (.bool t331)).setCell ⟨gb340, 1, none⟩ (.int .u64 t332)).setCell ⟨gb340, 2, none⟩ (.int .u64 t333)).setCell ⟨gb340, 3, none⟩ (.int .i64 t334)).setCell ⟨gb341, 0, none⟩ (.bool t335)).setCell ⟨gb341, 1, none⟩ (.int .u64 t336)).setCell ⟨gb341, 2, none⟩ (.int .u64 t337)).setCell ⟨gb341, 3, none⟩ (.int .i64 t338)).heap[gb330]? = some (.cells #[.bool t324, .int .u64 t325, .int .u64 t326, .int .i64 t327] 33 (0, 0))) := ⟨bf8 BK330.out NB330_341.out NB330_341.out NB330_341.out NB330_341.out NB330_340.out NB330_340.out NB330_340.out NB330_340.out⟩
         have n7_ : Aside0 (((((((((w64.setCell ⟨gb340, 0, none⟩ (.bool t331)).setCell ⟨gb340, 1, none⟩ (.int .u64 t332)).setCell ⟨gb340, 2, none⟩ (.int .u64 t333)).setCell ⟨gb340, 3, none⟩ (.int .i64 t334)).setCell ⟨gb341, 0, none⟩ (.bool t335)).setCell ⟨gb341, 1, none⟩ (.int .u64 t336)).setCell ⟨gb341, 2, none⟩ (.int .u64 t337)).setCell ⟨gb341, 3, none⟩ (.int .i64 t338)).heap[gb340]? = some (.cells #[.bool t331, .int .u64 t332, .int .u64 t333, .int .i64 t334] 33 (0, 0))) := ⟨by (with_reducible repeat (first | refine blk_drewN ?_ _ | refine blk_drew ?_ | refine blk_alloc ?_ _)); refine blk_far ?_ NB340_341.out _; (with_reducible repeat (first | refine blk_drewN ?_ _ | refine blk_drew ?_ | refine blk_alloc ?_ _)); refine blk_far ?_ NB340_341.out _; (with_reducible repeat (first | refine blk_drewN ?_ _ | refine blk_drew ?_ | refine blk_alloc ?_ _)); refine blk_far ?_ NB340_341.out _; (with_reducible repeat (first | refine blk_drewN ?_ _ | refine blk_drew ?_ | refine blk_alloc ?_ _)); refine blk_far ?_ NB340_341.out _; (with_reducible repeat (first | refine blk_drewN ?_ _ | refine blk_drew ?_ | refine blk_alloc ?_ _)); refine blk_put (cs := #[.bool t331, .int .u64 t332, .int .u64 t333, .int .i64 0]) ?_ 3 _ rfl; (with_reducible repeat (first | refine blk_drewN ?_ _ | refine blk_drew ?_ | refine blk_alloc ?_ _)); refine blk_put (cs := #[.bool t331, .int .u64 t332, .int .u64 0, .int .i64 0]) ?_ 2 _ rfl; (with_reducible repeat (first | refine blk_drewN ?_ _ | refine blk_drew ?_ | refine blk_alloc ?_ _)); refine blk_put (cs := #[.bool t331, .int .u64 0, .int .u64 0, .int .i64 0]) ?_ 1 _ rfl; (with_reducible repeat (first | refine blk_drewN ?_ _ | refine blk_drew ?_ | refine blk_alloc ?_ _)); refine blk_put (cs := #[.bool false, .int .u64 0, .int .u64 0, .int .i64 0]) ?_ 0 _ rfl; (with_reducible repeat (first | refine blk_drewN ?_ _ | refine blk_drew ?_ | refine blk_alloc ?_ _)); exact BK340.out⟩
         have n8_ : Aside0 (((((((((w64.setCell ⟨gb340, 0, none⟩ (.bool t331)).setCell ⟨gb340, 1, none⟩ (.int .u64 t332)).setCell ⟨gb340, 2, none⟩ (.int .u64 t333)).setCell ⟨gb340, 3, none⟩ (.int .i64 t334)).setCell ⟨gb341, 0, none⟩ (.bool t335)).setCell ⟨gb341, 1, none⟩ (.int .u64 t336)).setCell ⟨gb341, 2, none⟩ (.int .u64 t337)).setCell ⟨gb341, 3, none⟩ (.int .i64 t338)).heap[gb341]? = some (.cells #[.bool t335, .int .u64 t336, .int .u64 t337, .int .i64 t338] 33 (0, 0))) := ⟨by (with_reducible repeat (first | refine blk_drewN ?_ _ | refine blk_drew ?_ | refine blk_alloc ?_ _)); refine blk_put (cs := #[.bool t335, .int .u64 t336, .int .u64 t337, .int .i64 0]) ?_ 3 _ rfl; (with_reducible repeat (first | refine blk_drewN ?_ _ | refine blk_drew ?_ | refine blk_alloc ?_ _)); refine blk_put (cs := #[.bool t335, .int .u64 t336, .int .u64 0, .int .i64 0]) ?_ 2 _ rfl; (with_reducible repeat (first | refine blk_drewN ?_ _ | refine blk_drew ?_ | refine blk_alloc ?_ _)); refine blk_put (cs := #[.bool t335, .int .u64 0, .int .u64 0, .int .i64 0]) ?_ 1 _ rfl; (with_reducible repeat (first | refine blk_drewN ?_ _ | refine blk_drew ?_ | refine blk_alloc ?_ _)); refine blk_put (cs := #[.bool false, .int .u64 0, .int .u64 0, .int .i64 0]) ?_ 0 _ rfl; (with_reducible repeat (first | refine blk_drewN ?_ _ | refine blk_drew ?_ | refine blk_alloc ?_ _)); refine blk_far ?_ NB341_340.out _; (with_reducible repeat (first | refine blk_drewN ?_ _ | refine blk_drew ?_ | refine blk_alloc ?_ _)); refine blk_far ?_ NB341_340.out _; (with_reducible repeat (first | refine blk_drewN ?_ _ | refine blk_drew ?_ | refine blk_alloc ?_ _)); refine blk_far ?_ NB341_340.out _; (with_reducible repeat (first | refine blk_drewN ?_ _ | refine blk_drew ?_ | refine blk_alloc ?_ _)); refine blk_far ?_ NB341_340.out _; (with_reducible repeat (first | refine blk_drewN ?_ _ | refine blk_drew ?_ | refine blk_alloc ?_ _)); exact BK341.out⟩
         have n9_ : Aside0 (Below w.heap.size w ((((((((w64.setCell ⟨gb340, 0, none⟩ (.bool t331)).setCell ⟨gb340, 1, none⟩ (.int .u64 t332)).setCell ⟨gb340, 2, none⟩ (.int .u64 t333)).setCell ⟨gb340, 3, none⟩ (.int .i64 t334)).setCell ⟨gb341, 0, none⟩ (.bool t335)).setCell ⟨gb341, 1, none⟩ (.int .u64 t336)).setCell ⟨gb341, 2, none⟩ (.int .u64 t337)).setCell ⟨gb341, 3, none⟩ (.int .i64 t338))) := ⟨by repeat (first | (with_reducible first | exact HB.out | apply below_alloc | apply pw_below_drewN | apply below_drew1 | refine below_set ?_ GE309.out | refine below_set ?_ GE310.out | refine below_set ?_ GE311.out | refine below_set ?_ GE315.out | refine below_set ?_ GE319.out | refine below_set ?_ GE329.out | refine below_set ?_ GE330.out | refine below_set ?_ GE340.out | refine below_set ?_ GE341.out) | exact HB.out)⟩
         (try clear BK309)
         (try clear BK310)
         (try clear BK311)
         (try clear BK315)
         (try clear BK319)
         (try clear BK329)
         (try clear BK330)
         (try clear BK340)
         (try clear BK341)
         (try clear HB)
         generalize ((((((((w64.setCell ⟨gb340, 0, none⟩ (.bool t331)).setCell ⟨gb340, 1, none⟩ (.int .u64 t332)).setCell ⟨gb340, 2, none⟩ (.int .u64 t333)).setCell ⟨gb340, 3, none⟩ (.int .i64 t334)).setCell ⟨gb341, 0, none⟩ (.bool t335)).setCell ⟨gb341, 1, none⟩ (.int .u64 t336)).setCell ⟨gb341, 2, none⟩ (.int .u64 t337)).setCell ⟨gb341, 3, none⟩ (.int .i64 t338)) = w82 at n0_ n1_ n2_ n3_ n4_ n5_ n6_ n7_ n8_ n9_ ⊢
         have BK309 := n0_
         have BK310 := n1_
         have BK311 := n2_
         have BK315 := n3_
         have BK319 := n4_
         have BK329 := n5_
         have BK330 := n6_
         have BK340 := n7_
         have BK341 := n8_
         have HB := n9_
         clear n0_ n1_ n2_ n3_ n4_ n5_ n6_ n7_ n8_ n9_
         have n0_ := Ax (blk_drew BK309.out)
         have n1_ := Ax (blk_drew BK310.out)
         have n2_ := Ax (blk_drew BK311.out)
         have n3_ := Ax (blk_drew BK315.out)
         have n4_ := Ax (blk_drew BK319.out)
         have n5_ := Ax (blk_drew BK329.out)
         have n6_ := Ax (blk_drew BK330.out)
         have n7_ := Ax (blk_drew BK340.out)
         have n8_ := Ax (blk_drew BK341.out)
         have n9_ := Ax (below_drew1 HB.out)
         clear BK309
         clear BK310
         clear BK311
         clear BK315
         clear BK319
         clear BK329
         clear BK330
         clear BK340
         clear BK341
         clear HB
         have BK309 := n0_
         have BK310 := n1_
         have BK311 := n2_
         have BK315 := n3_
         have BK319 := n4_
         have BK329 := n5_
         have BK330 := n6_
         have BK340 := n7_
         have BK341 := n8_
         have HB := n9_
         clear n0_ n1_ n2_ n3_ n4_ n5_ n6_ n7_ n8_ n9_
         refine start_ (n := 54) (S := fun w' => w'.cell? ⟨gb309, 0, none⟩ = some (.bool a0_0) ∧ w'.cell? ⟨gb309, 1, none⟩ = some (.int .u64 a0_1) ∧ w'.cell? ⟨gb309, 2, none⟩ = some (.int .u64 a0_2) ∧ w'.cell? ⟨gb309, 3, none⟩ = some (.int .i64 a0_3) ∧ w'.cell? ⟨gb315, 0, none⟩ = some (.int .u64 t312) ∧ w'.cell? ⟨gb315, 1, none⟩ = some (.int .u64 t313) ∧ w'.cell? ⟨gb319, 0, none⟩ = some (.int .u64 t316) ∧ w'.cell? ⟨gb319, 1, none⟩ = some (.int .u64 t317) ∧ w'.cell? ⟨gb329, 0, none⟩ = some (.bool t320) ∧ w'.cell? ⟨gb329, 1, none⟩ = some (.int .u64 t321) ∧ w'.cell? ⟨gb329, 2, none⟩ = some (.int .u64 t322) ∧ w'.cell? ⟨gb329, 3, none⟩ = some (.int .i64 t323) ∧ w'.cell? ⟨gb340, 0, none⟩ = some (.bool t331) ∧ w'.cell? ⟨gb340, 1, none⟩ = some (.int .u64 t332) ∧ w'.cell? ⟨gb340, 2, none⟩ = some (.int .u64 t333) ∧ w'.cell? ⟨gb340, 3, none⟩ = some (.int .i64 t334) ∧ w'.cell? ⟨gb330, 0, none⟩ = some (.bool t324) ∧ w'.cell? ⟨gb330, 1, none⟩ = some (.int .u64 t325) ∧ w'.cell? ⟨gb330, 2, none⟩ = some (.int .u64 t326) ∧ w'.cell? ⟨gb330, 3, none⟩ = some (.int .i64 t327) ∧ w'.cell? ⟨gb341, 0, none⟩ = some (.bool t335) ∧ w'.cell? ⟨gb341, 1, none⟩ = some (.int .u64 t336) ∧ w'.cell? ⟨gb341, 2, none⟩ = some (.int .u64 t337) ∧ w'.cell? ⟨gb341, 3, none⟩ = some (.int .i64 t338) ∧ w'.cell? ⟨gb311, 0, none⟩ = some (.int .u64 a3_0) ∧ w'.cell? ⟨gb311, 1, none⟩ = some (.int .u64 a3_1) ∧ w'.cell? ⟨gb310, 0, none⟩ = some (.bool a1_0) ∧ w'.cell? ⟨gb310, 1, none⟩ = some (.int .u64 a1_1) ∧ w'.cell? ⟨gb310, 2, none⟩ = some (.int .u64 a1_2) ∧ w'.cell? ⟨gb310, 3, none⟩ = some (.int .i64 a1_3)) (ds := []) #[fa,fa,fa,fa,fa,fa,fa,fa,fa,fa,fa,fa,fa,fa,fa,fa,fa,fa,fa,fa,fa,fa,fa,fa,fa,fa,fa,fa,fa,fa,fa,fa,fa,fa,fa,fa,fa,fa,fa,fa,fa,fa,fa,fa,fa,fa,fa,fa,fa,fa,fa,fa,fa,fa] (by kernel_rfl) rfl rfl ⟨(blk_cell BK309.out 0).trans rfl, (blk_cell BK309.out 1).trans rfl, (blk_cell BK309.out 2).trans rfl, (blk_cell BK309.out 3).trans rfl, (blk_cell BK315.out 0).trans rfl, (blk_cell BK315.out 1).trans rfl, (blk_cell BK319.out 0).trans rfl, (blk_cell BK319.out 1).trans rfl, (blk_cell BK329.out 0).trans rfl, (blk_cell BK329.out 1).trans rfl, (blk_cell BK329.out 2).trans rfl, (blk_cell BK329.out 3).trans rfl, (blk_cell BK340.out 0).trans rfl, (blk_cell BK340.out 1).trans rfl, (blk_cell BK340.out 2).trans rfl, (blk_cell BK340.out 3).trans rfl, (blk_cell BK330.out 0).trans rfl, (blk_cell BK330.out 1).trans rfl, (blk_cell BK330.out 2).trans rfl, (blk_cell BK330.out 3).trans rfl, (blk_cell BK341.out 0).trans rfl, (blk_cell BK341.out 1).trans rfl, (blk_cell BK341.out 2).trans rfl, (blk_cell BK341.out 3).trans rfl, (blk_cell BK311.out 0).trans rfl, (blk_cell BK311.out 1).trans rfl, (blk_cell BK310.out 0).trans rfl, (blk_cell BK310.out 1).trans rfl, (blk_cell BK310.out 2).trans rfl, (blk_cell BK310.out 3).trans rfl⟩ (fun hHeld => ?_); refine with_tabW spoorlaw09_AddrPrefixes.tab5 spoorlaw09_AddrPrefixes.bits5 (fun HT_ HW_ => ?_)
         generalize w82.drew = w83 at BK309 BK310 BK311 BK315 BK319 BK329 BK330 BK340 BK341 HB hHeld ⊢
         refine one_ (i := 0) (N := some 41) #[tr,fa,fa,fa,fa,fa,fa,fa,fa,fa,fa,fa,fa,fa,fa,fa,fa,fa,fa,fa,fa,fa,fa,fa,fa,fa,fa,fa,fa,fa,fa,fa,fa,fa,fa,fa,fa,fa,fa,fa,fa,fa,fa,fa,fa,fa,fa,fa,fa,fa,fa,fa,fa,fa] rfl rfl (one_of HT_.out (by kernel_rfl)) (by decide) (fun K hK => ?_)
         refine goes_ Try.func11 (by kernel_rfl) rfl #[] (by rfl) rfl rfl gS ?_
         with_reducible refine (spoorlaw09_steps.calls k  true _ A9.out).mono ?_
         rintro e w84 ⟨rfl, hb⟩
         refine ⟨_, rfl, ?_⟩
         have n0_ := Ax (blk_below (g := gb309) (o := .cells #[.bool a0_0, .int .u64 a0_1, .int .u64 a0_2, .int .i64 a0_3] 33 (0, 0)) (bf0 BK309.out) hb)
         have n1_ := Ax (blk_below (g := gb310) (o := .cells #[.bool a1_0, .int .u64 a1_1, .int .u64 a1_2, .int .i64 a1_3] 33 (0, 0)) (bf0 BK310.out) hb)
         have n2_ := Ax (blk_below (g := gb311) (o := .cells #[.int .u64 a3_0, .int .u64 a3_1] 24 (0, 0)) (bf0 BK311.out) hb)
         have n3_ := Ax (blk_below (g := gb315) (o := .cells #[.int .u64 t312, .int .u64 t313] 24 (0, 0)) (bf0 BK315.out) hb)
         have n4_ := Ax (blk_below (g := gb319) (o := .cells #[.int .u64 t316, .int .u64 t317] 24 (0, 0)) (bf0 BK319.out) hb)
         have n5_ := Ax (blk_below (g := gb329) (o := .cells #[.bool t320, .int .u64 t321, .int .u64 t322, .int .i64 t323] 33 (0, 0)) (bf0 BK329.out) hb)
         have n6_ := Ax (blk_below (g := gb330) (o := .cells #[.bool t324, .int .u64 t325, .int .u64 t326, .int .i64 t327] 33 (0, 0)) (bf0 BK330.out) hb)
         have n7_ := Ax (blk_below (g := gb340) (o := .cells #[.bool t331, .int .u64 t332, .int .u64 t333, .int .i64 t334] 33 (0, 0)) (bf0 BK340.out) hb)
         have n8_ := Ax (blk_below (g := gb341) (o := .cells #[.bool t335, .int .u64 t336, .int .u64 t337, .int .i64 t338] 33 (0, 0)) (bf0 BK341.out) hb)
         have n9_ := Ax (below_step (by repeat (first | (with_reducible first | exact HB.out | apply below_alloc | apply pw_below_drewN | apply below_drew1 | refine below_set ?_ GE309.out | refine below_set ?_ GE310.out | refine below_set ?_ GE311.out | refine below_set ?_ GE315.out | refine below_set ?_ GE319.out | refine below_set ?_ GE329.out | refine below_set ?_ GE330.out | refine below_set ?_ GE340.out | refine below_set ?_ GE341.out) | exact HB.out)) hb)
         clear BK309
         clear BK310
         clear BK311
         clear BK315
         clear BK319
         clear BK329
         clear BK330
         clear BK340
         clear BK341
         clear HB
         have BK309 := n0_
         have BK310 := n1_
         have BK311 := n2_
         have BK315 := n3_
         have BK319 := n4_
         have BK329 := n5_
         have BK330 := n6_
         have BK340 := n7_
         have BK341 := n8_
         have HB := n9_
         clear n0_ n1_ n2_ n3_ n4_ n5_ n6_ n7_ n8_ n9_
         (try clear hb)
         (try clear hb2)
         (try clear hk)
         (try clear hi)
         refine hK.out _ _ ⟨(blk_cell BK309.out 0).trans rfl, (blk_cell BK309.out 1).trans rfl, (blk_cell BK309.out 2).trans rfl, (blk_cell BK309.out 3).trans rfl, (blk_cell BK315.out 0).trans rfl, (blk_cell BK315.out 1).trans rfl, (blk_cell BK319.out 0).trans rfl, (blk_cell BK319.out 1).trans rfl, (blk_cell BK329.out 0).trans rfl, (blk_cell BK329.out 1).trans rfl, (blk_cell BK329.out 2).trans rfl, (blk_cell BK329.out 3).trans rfl, (blk_cell BK340.out 0).trans rfl, (blk_cell BK340.out 1).trans rfl, (blk_cell BK340.out 2).trans rfl, (blk_cell BK340.out 3).trans rfl, (blk_cell BK330.out 0).trans rfl, (blk_cell BK330.out 1).trans rfl, (blk_cell BK330.out 2).trans rfl, (blk_cell BK330.out 3).trans rfl, (blk_cell BK341.out 0).trans rfl, (blk_cell BK341.out 1).trans rfl, (blk_cell BK341.out 2).trans rfl, (blk_cell BK341.out 3).trans rfl, (blk_cell BK311.out 0).trans rfl, (blk_cell BK311.out 1).trans rfl, (blk_cell BK310.out 0).trans rfl, (blk_cell BK310.out 1).trans rfl, (blk_cell BK310.out 2).trans rfl, (blk_cell BK310.out 3).trans rfl⟩ (fun hHeld => ?_)
         clear hK K
         refine norm_ (a' := ?_) ?_ ?_
         rotate_left
         ·show Act.put _ (some 41) _ = _
          simp only [sP]
          rfl
         refine pure_ (i := 1) (N := some 42) (v := ?_) (a' := ?_) #[tr,tr,fa,fa,fa,fa,fa,fa,fa,fa,fa,fa,fa,fa,fa,fa,fa,fa,fa,fa,fa,fa,fa,fa,fa,fa,fa,fa,fa,fa,fa,fa,fa,fa,fa,fa,fa,fa,fa,fa,fa,fa,fa,fa,fa,fa,fa,fa,fa,fa,fa,fa,fa,fa] rfl rfl (any_of HT_.out (by kernel_rfl)) (fun _ _ _ h => h) (Or.inl ⟨by rfl, ?_⟩) ?_ ?_
         rotate_left
         ·intro w'
          go_simp
          with_reducible rfl
         rotate_left
         ·simp only [sP]
          rfl
         refine take_ (i := 2) (N := some 43) (v := ?_) (a' := ?_) #[tr,tr,tr,fa,fa,fa,fa,fa,fa,fa,fa,fa,fa,fa,fa,fa,fa,fa,fa,fa,fa,fa,fa,fa,fa,fa,fa,fa,fa,fa,fa,fa,fa,fa,fa,fa,fa,fa,fa,fa,fa,fa,fa,fa,fa,fa,fa,fa,fa,fa,fa,fa,fa,fa] rfl rfl (take_ofW HT_.out HW_.out (by kernel_rfl)) (fun _ _ _ h => h) (Or.inl ⟨by rfl, ?_⟩) hHeld ?_ ?_
         rotate_left
         ·rintro w' ⟨s0, s1, s2, s3, s4, s5, s6, s7, s8, s9, s10, s11, s12, s13, s14, s15, s16, s17, s18, s19, s20, s21, s22, s23, s24, s25, s26, s27, s28, s29⟩
          go_simp
          with_reducible rfl
         rotate_left
         ·simp only [sP]
          rfl
         refine take_ (i := 4) (N := some 45) (v := ?_) (a' := ?_) #[tr,tr,tr,fa,tr,fa,fa,fa,fa,fa,fa,fa,fa,fa,fa,fa,fa,fa,fa,fa,fa,fa,fa,fa,fa,fa,fa,fa,fa,fa,fa,fa,fa,fa,fa,fa,fa,fa,fa,fa,fa,fa,fa,fa,fa,fa,fa,fa,fa,fa,fa,fa,fa,fa] rfl rfl (take_ofW HT_.out HW_.out (by kernel_rfl)) (fun _ _ _ h => h) (Or.inl ⟨by rfl, ?_⟩) hHeld ?_ ?_
         rotate_left
         ·rintro w' ⟨s0, s1, s2, s3, s4, s5, s6, s7, s8, s9, s10, s11, s12, s13, s14, s15, s16, s17, s18, s19, s20, s21, s22, s23, s24, s25, s26, s27, s28, s29⟩
          go_simp
          with_reducible rfl
         rotate_left
         ·simp only [sP]
          rfl
         refine one_ (i := 3) (N := some 44) #[tr,tr,tr,tr,tr,fa,fa,fa,fa,fa,fa,fa,fa,fa,fa,fa,fa,fa,fa,fa,fa,fa,fa,fa,fa,fa,fa,fa,fa,fa,fa,fa,fa,fa,fa,fa,fa,fa,fa,fa,fa,fa,fa,fa,fa,fa,fa,fa,fa,fa,fa,fa,fa,fa] rfl rfl (one_of HT_.out (by kernel_rfl)) (by decide) (fun K hK => ?_)
         refine goes_ Try.func20 (by kernel_rfl) rfl #[.agg #[.bool a0_0, .int .u64 a0_1, .int .u64 a0_2, .int .i64 a0_3]] (by rfl) rfl rfl gS ?_
         with_reducible refine (addr_Check.calls k a0_0 a0_1 a0_2 a0_3 t343 _ A11.out).mono ?_
         rintro e w85 ⟨rfl, hb⟩
         refine ⟨_, rfl, ?_⟩
         have n0_ := Ax (blk_below (g := gb309) (o := .cells #[.bool a0_0, .int .u64 a0_1, .int .u64 a0_2, .int .i64 a0_3] 33 (0, 0)) (bf0 BK309.out) hb)
         have n1_ := Ax (blk_below (g := gb310) (o := .cells #[.bool a1_0, .int .u64 a1_1, .int .u64 a1_2, .int .i64 a1_3] 33 (0, 0)) (bf0 BK310.out) hb)
         have n2_ := Ax (blk_below (g := gb311) (o := .cells #[.int .u64 a3_0, .int .u64 a3_1] 24 (0, 0)) (bf0 BK311.out) hb)
         have n3_ := Ax (blk_below (g := gb315) (o := .cells #[.int .u64 t312, .int .u64 t313] 24 (0, 0)) (bf0 BK315.out) hb)
         have n4_ := Ax (blk_below (g := gb319) (o := .cells #[.int .u64 t316, .int .u64 t317] 24 (0, 0)) (bf0 BK319.out) hb)
         have n5_ := Ax (blk_below (g := gb329) (o := .cells #[.bool t320, .int .u64 t321, .int .u64 t322, .int .i64 t323] 33 (0, 0)) (bf0 BK329.out) hb)
         have n6_ := Ax (blk_below (g := gb330) (o := .cells #[.bool t324, .int .u64 t325, .int .u64 t326, .int .i64 t327] 33 (0, 0)) (bf0 BK330.out) hb)
         have n7_ := Ax (blk_below (g := gb340) (o := .cells #[.bool t331, .int .u64 t332, .int .u64 t333, .int .i64 t334] 33 (0, 0)) (bf0 BK340.out) hb)
         have n8_ := Ax (blk_below (g := gb341) (o := .cells #[.bool t335, .int .u64 t336, .int .u64 t337, .int .i64 t338] 33 (0, 0)) (bf0 BK341.out) hb)
         have n9_ := Ax (below_step (by repeat (first | (with_reducible first | exact HB.out | apply below_alloc | apply pw_below_drewN | apply below_drew1 | refine below_set ?_ GE309.out | refine below_set ?_ GE310.out | refine below_set ?_ GE311.out | refine below_set ?_ GE315.out | refine below_set ?_ GE319.out | refine below_set ?_ GE329.out | refine below_set ?_ GE330.out | refine below_set ?_ GE340.out | refine below_set ?_ GE341.out) | exact HB.out)) hb)
         clear BK309
         clear BK310
         clear BK311
         clear BK315
         clear BK319
         clear BK329
         clear BK330
         clear BK340
         clear BK341
         clear HB
         have BK309 := n0_
         have BK310 := n1_
         have BK311 := n2_
         have BK315 := n3_
         have BK319 := n4_
         have BK329 := n5_
         have BK330 := n6_
         have BK340 := n7_
         have BK341 := n8_
         have HB := n9_
         clear n0_ n1_ n2_ n3_ n4_ n5_ n6_ n7_ n8_ n9_
         (try clear hb)
         (try clear hb2)
         (try clear hk)
         (try clear hi)
         refine hK.out _ _ ⟨(blk_cell BK309.out 0).trans rfl, (blk_cell BK309.out 1).trans rfl, (blk_cell BK309.out 2).trans rfl, (blk_cell BK309.out 3).trans rfl, (blk_cell BK315.out 0).trans rfl, (blk_cell BK315.out 1).trans rfl, (blk_cell BK319.out 0).trans rfl, (blk_cell BK319.out 1).trans rfl, (blk_cell BK329.out 0).trans rfl, (blk_cell BK329.out 1).trans rfl, (blk_cell BK329.out 2).trans rfl, (blk_cell BK329.out 3).trans rfl, (blk_cell BK340.out 0).trans rfl, (blk_cell BK340.out 1).trans rfl, (blk_cell BK340.out 2).trans rfl, (blk_cell BK340.out 3).trans rfl, (blk_cell BK330.out 0).trans rfl, (blk_cell BK330.out 1).trans rfl, (blk_cell BK330.out 2).trans rfl, (blk_cell BK330.out 3).trans rfl, (blk_cell BK341.out 0).trans rfl, (blk_cell BK341.out 1).trans rfl, (blk_cell BK341.out 2).trans rfl, (blk_cell BK341.out 3).trans rfl, (blk_cell BK311.out 0).trans rfl, (blk_cell BK311.out 1).trans rfl, (blk_cell BK310.out 0).trans rfl, (blk_cell BK310.out 1).trans rfl, (blk_cell BK310.out 2).trans rfl, (blk_cell BK310.out 3).trans rfl⟩ (fun hHeld => ?_)
         clear hK K
         refine norm_ (a' := ?_) ?_ ?_
         rotate_left
         ·show Act.put _ (some 44) _ = _
          simp only [sP]
          rfl
         refine one_ (i := 5) (N := some 46) #[tr,tr,tr,tr,tr,tr,fa,fa,fa,fa,fa,fa,fa,fa,fa,fa,fa,fa,fa,fa,fa,fa,fa,fa,fa,fa,fa,fa,fa,fa,fa,fa,fa,fa,fa,fa,fa,fa,fa,fa,fa,fa,fa,fa,fa,fa,fa,fa,fa,fa,fa,fa,fa,fa] rfl rfl (one_of HT_.out (by kernel_rfl)) (by decide) (fun K hK => ?_)
         refine goes_ Try.func21 (by kernel_rfl) rfl #[.agg #[.bool a0_0, .int .u64 a0_1, .int .u64 a0_2, .int .i64 a0_3]] (by rfl) rfl rfl gS ?_
         with_reducible refine (spoorref09_Check.calls k a0_0 a0_1 a0_2 a0_3 t344 _ A12.out).mono ?_
         rintro e w86 ⟨rfl, hb⟩
         refine ⟨_, rfl, ?_⟩
         have n0_ := Ax (blk_below (g := gb309) (o := .cells #[.bool a0_0, .int .u64 a0_1, .int .u64 a0_2, .int .i64 a0_3] 33 (0, 0)) (bf0 BK309.out) hb)
         have n1_ := Ax (blk_below (g := gb310) (o := .cells #[.bool a1_0, .int .u64 a1_1, .int .u64 a1_2, .int .i64 a1_3] 33 (0, 0)) (bf0 BK310.out) hb)
         have n2_ := Ax (blk_below (g := gb311) (o := .cells #[.int .u64 a3_0, .int .u64 a3_1] 24 (0, 0)) (bf0 BK311.out) hb)
         have n3_ := Ax (blk_below (g := gb315) (o := .cells #[.int .u64 t312, .int .u64 t313] 24 (0, 0)) (bf0 BK315.out) hb)
         have n4_ := Ax (blk_below (g := gb319) (o := .cells #[.int .u64 t316, .int .u64 t317] 24 (0, 0)) (bf0 BK319.out) hb)
         have n5_ := Ax (blk_below (g := gb329) (o := .cells #[.bool t320, .int .u64 t321, .int .u64 t322, .int .i64 t323] 33 (0, 0)) (bf0 BK329.out) hb)
         have n6_ := Ax (blk_below (g := gb330) (o := .cells #[.bool t324, .int .u64 t325, .int .u64 t326, .int .i64 t327] 33 (0, 0)) (bf0 BK330.out) hb)
         have n7_ := Ax (blk_below (g := gb340) (o := .cells #[.bool t331, .int .u64 t332, .int .u64 t333, .int .i64 t334] 33 (0, 0)) (bf0 BK340.out) hb)
         have n8_ := Ax (blk_below (g := gb341) (o := .cells #[.bool t335, .int .u64 t336, .int .u64 t337, .int .i64 t338] 33 (0, 0)) (bf0 BK341.out) hb)
         have n9_ := Ax (below_step (by repeat (first | (with_reducible first | exact HB.out | apply below_alloc | apply pw_below_drewN | apply below_drew1 | refine below_set ?_ GE309.out | refine below_set ?_ GE310.out | refine below_set ?_ GE311.out | refine below_set ?_ GE315.out | refine below_set ?_ GE319.out | refine below_set ?_ GE329.out | refine below_set ?_ GE330.out | refine below_set ?_ GE340.out | refine below_set ?_ GE341.out) | exact HB.out)) hb)
         clear BK309
         clear BK310
         clear BK311
         clear BK315
         clear BK319
         clear BK329
         clear BK330
         clear BK340
         clear BK341
         clear HB
         have BK309 := n0_
         have BK310 := n1_
         have BK311 := n2_
         have BK315 := n3_
         have BK319 := n4_
         have BK329 := n5_
         have BK330 := n6_
         have BK340 := n7_
         have BK341 := n8_
         have HB := n9_
         clear n0_ n1_ n2_ n3_ n4_ n5_ n6_ n7_ n8_ n9_
         (try clear hb)
         (try clear hb2)
         (try clear hk)
         (try clear hi)
         refine hK.out _ _ ⟨(blk_cell BK309.out 0).trans rfl, (blk_cell BK309.out 1).trans rfl, (blk_cell BK309.out 2).trans rfl, (blk_cell BK309.out 3).trans rfl, (blk_cell BK315.out 0).trans rfl, (blk_cell BK315.out 1).trans rfl, (blk_cell BK319.out 0).trans rfl, (blk_cell BK319.out 1).trans rfl, (blk_cell BK329.out 0).trans rfl, (blk_cell BK329.out 1).trans rfl, (blk_cell BK329.out 2).trans rfl, (blk_cell BK329.out 3).trans rfl, (blk_cell BK340.out 0).trans rfl, (blk_cell BK340.out 1).trans rfl, (blk_cell BK340.out 2).trans rfl, (blk_cell BK340.out 3).trans rfl, (blk_cell BK330.out 0).trans rfl, (blk_cell BK330.out 1).trans rfl, (blk_cell BK330.out 2).trans rfl, (blk_cell BK330.out 3).trans rfl, (blk_cell BK341.out 0).trans rfl, (blk_cell BK341.out 1).trans rfl, (blk_cell BK341.out 2).trans rfl, (blk_cell BK341.out 3).trans rfl, (blk_cell BK311.out 0).trans rfl, (blk_cell BK311.out 1).trans rfl, (blk_cell BK310.out 0).trans rfl, (blk_cell BK310.out 1).trans rfl, (blk_cell BK310.out 2).trans rfl, (blk_cell BK310.out 3).trans rfl⟩ (fun hHeld => ?_)
         clear hK K
         refine norm_ (a' := ?_) ?_ ?_
         rotate_left
         ·show Act.put _ (some 46) _ = _
          simp only [sP]
          rfl
         refine pure_ (i := 6) (N := some 47) (v := ?_) (a' := ?_) #[tr,tr,tr,tr,tr,tr,tr,fa,fa,fa,fa,fa,fa,fa,fa,fa,fa,fa,fa,fa,fa,fa,fa,fa,fa,fa,fa,fa,fa,fa,fa,fa,fa,fa,fa,fa,fa,fa,fa,fa,fa,fa,fa,fa,fa,fa,fa,fa,fa,fa,fa,fa,fa,fa] rfl rfl (any_of HT_.out (by kernel_rfl)) (fun _ _ _ h => h) (Or.inl ⟨by rfl, ?_⟩) ?_ ?_
         rotate_left
         ·intro w'
          go_simp
          with_reducible rfl
         rotate_left
         ·simp only [sP]
          rfl
         refine pure_ (i := 7) (N := some 48) (v := ?_) (a' := ?_) #[tr,tr,tr,tr,tr,tr,tr,tr,fa,fa,fa,fa,fa,fa,fa,fa,fa,fa,fa,fa,fa,fa,fa,fa,fa,fa,fa,fa,fa,fa,fa,fa,fa,fa,fa,fa,fa,fa,fa,fa,fa,fa,fa,fa,fa,fa,fa,fa,fa,fa,fa,fa,fa,fa] rfl rfl (any_of HT_.out (by kernel_rfl)) (fun _ _ _ h => h) (Or.inl ⟨by rfl, ?_⟩) ?_ ?_
         rotate_left
         ·intro w'
          go_simp
          with_reducible rfl
         rotate_left
         ·simp only [sP]
          rfl
         refine pure_ (i := 8) (N := some 49) (v := ?_) (a' := ?_) #[tr,tr,tr,tr,tr,tr,tr,tr,tr,fa,fa,fa,fa,fa,fa,fa,fa,fa,fa,fa,fa,fa,fa,fa,fa,fa,fa,fa,fa,fa,fa,fa,fa,fa,fa,fa,fa,fa,fa,fa,fa,fa,fa,fa,fa,fa,fa,fa,fa,fa,fa,fa,fa,fa] rfl rfl (any_of HT_.out (by kernel_rfl)) (fun _ _ _ h => h) (Or.inl ⟨by rfl, ?_⟩) ?_ ?_
         rotate_left
         ·intro w'
          go_simp
          with_reducible rfl
         rotate_left
         ·simp only [sP]
          rfl
         refine take_ (i := 9) (N := some 50) (v := ?_) (a' := ?_) #[tr,tr,tr,tr,tr,tr,tr,tr,tr,tr,fa,fa,fa,fa,fa,fa,fa,fa,fa,fa,fa,fa,fa,fa,fa,fa,fa,fa,fa,fa,fa,fa,fa,fa,fa,fa,fa,fa,fa,fa,fa,fa,fa,fa,fa,fa,fa,fa,fa,fa,fa,fa,fa,fa] rfl rfl (take_ofW HT_.out HW_.out (by kernel_rfl)) (fun _ _ _ h => h) (Or.inl ⟨by rfl, ?_⟩) hHeld ?_ ?_
         rotate_left
         ·rintro w' ⟨s0, s1, s2, s3, s4, s5, s6, s7, s8, s9, s10, s11, s12, s13, s14, s15, s16, s17, s18, s19, s20, s21, s22, s23, s24, s25, s26, s27, s28, s29⟩
          go_simp
          with_reducible rfl
         rotate_left
         ·simp only [sP]
          rfl
         refine take_ (i := 10) (N := some 51) (v := ?_) (a' := ?_) #[tr,tr,tr,tr,tr,tr,tr,tr,tr,tr,tr,fa,fa,fa,fa,fa,fa,fa,fa,fa,fa,fa,fa,fa,fa,fa,fa,fa,fa,fa,fa,fa,fa,fa,fa,fa,fa,fa,fa,fa,fa,fa,fa,fa,fa,fa,fa,fa,fa,fa,fa,fa,fa,fa] rfl rfl (take_ofW HT_.out HW_.out (by kernel_rfl)) (fun _ _ _ h => h) (Or.inl ⟨by rfl, ?_⟩) hHeld ?_ ?_
         rotate_left
         ·rintro w' ⟨s0, s1, s2, s3, s4, s5, s6, s7, s8, s9, s10, s11, s12, s13, s14, s15, s16, s17, s18, s19, s20, s21, s22, s23, s24, s25, s26, s27, s28, s29⟩
          go_simp
          with_reducible rfl
         rotate_left
         ·simp only [sP]
          rfl
         refine pure_ (i := 11) (N := some 52) (v := ?_) (a' := ?_) #[tr,tr,tr,tr,tr,tr,tr,tr,tr,tr,tr,tr,fa,fa,fa,fa,fa,fa,fa,fa,fa,fa,fa,fa,fa,fa,fa,fa,fa,fa,fa,fa,fa,fa,fa,fa,fa,fa,fa,fa,fa,fa,fa,fa,fa,fa,fa,fa,fa,fa,fa,fa,fa,fa] rfl rfl (any_of HT_.out (by kernel_rfl)) (fun _ _ _ h => h) (Or.inl ⟨by rfl, ?_⟩) ?_ ?_
         rotate_left
         ·intro w'
          go_simp
          with_reducible rfl
         rotate_left
         ·simp only [sP]
          rfl
         refine pure_ (i := 12) (N := some 53) (v := ?_) (a' := ?_) #[tr,tr,tr,tr,tr,tr,tr,tr,tr,tr,tr,tr,tr,fa,fa,fa,fa,fa,fa,fa,fa,fa,fa,fa,fa,fa,fa,fa,fa,fa,fa,fa,fa,fa,fa,fa,fa,fa,fa,fa,fa,fa,fa,fa,fa,fa,fa,fa,fa,fa,fa,fa,fa,fa] rfl rfl (any_of HT_.out (by kernel_rfl)) (fun _ _ _ h => h) (Or.inl ⟨by rfl, ?_⟩) ?_ ?_
         rotate_left
         ·intro w'
          go_simp
          with_reducible rfl
         rotate_left
         ·simp only [sP]
          rfl
         refine pure_ (i := 13) (N := some 54) (v := ?_) (a' := ?_) #[tr,tr,tr,tr,tr,tr,tr,tr,tr,tr,tr,tr,tr,tr,fa,fa,fa,fa,fa,fa,fa,fa,fa,fa,fa,fa,fa,fa,fa,fa,fa,fa,fa,fa,fa,fa,fa,fa,fa,fa,fa,fa,fa,fa,fa,fa,fa,fa,fa,fa,fa,fa,fa,fa] rfl rfl (any_of HT_.out (by kernel_rfl)) (fun _ _ _ h => h) (Or.inl ⟨by rfl, ?_⟩) ?_ ?_
         rotate_left
         ·intro w'
          go_simp
          with_reducible rfl
         rotate_left
         ·simp only [sP]
          rfl
         refine pure_ (i := 14) (N := some 55) (v := ?_) (a' := ?_) #[tr,tr,tr,tr,tr,tr,tr,tr,tr,tr,tr,tr,tr,tr,tr,fa,fa,fa,fa,fa,fa,fa,fa,fa,fa,fa,fa,fa,fa,fa,fa,fa,fa,fa,fa,fa,fa,fa,fa,fa,fa,fa,fa,fa,fa,fa,fa,fa,fa,fa,fa,fa,fa,fa] rfl rfl (any_of HT_.out (by kernel_rfl)) (fun _ _ _ h => h) (Or.inl ⟨by rfl, ?_⟩) ?_ ?_
         rotate_left
         ·intro w'
          go_simp
          with_reducible rfl
         rotate_left
         ·simp only [sP]
          rfl
         refine pure_ (i := 15) (N := some 56) (v := ?_) (a' := ?_) #[tr,tr,tr,tr,tr,tr,tr,tr,tr,tr,tr,tr,tr,tr,tr,tr,fa,fa,fa,fa,fa,fa,fa,fa,fa,fa,fa,fa,fa,fa,fa,fa,fa,fa,fa,fa,fa,fa,fa,fa,fa,fa,fa,fa,fa,fa,fa,fa,fa,fa,fa,fa,fa,fa] rfl rfl (any_of HT_.out (by kernel_rfl)) (fun _ _ _ h => h) (Or.inl ⟨by rfl, ?_⟩) ?_ ?_
         rotate_left
         ·intro w'
          go_simp
          with_reducible rfl
         rotate_left
         ·simp only [sP]
          rfl
         refine pure_ (i := 16) (N := some 57) (v := ?_) (a' := ?_) #[tr,tr,tr,tr,tr,tr,tr,tr,tr,tr,tr,tr,tr,tr,tr,tr,tr,fa,fa,fa,fa,fa,fa,fa,fa,fa,fa,fa,fa,fa,fa,fa,fa,fa,fa,fa,fa,fa,fa,fa,fa,fa,fa,fa,fa,fa,fa,fa,fa,fa,fa,fa,fa,fa] rfl rfl (any_of HT_.out (by kernel_rfl)) (fun _ _ _ h => h) (Or.inl ⟨by rfl, ?_⟩) ?_ ?_
         rotate_left
         ·intro w'
          go_simp
          with_reducible rfl
         rotate_left
         ·simp only [sP]
          rfl
         refine pure_ (i := 17) (N := some 58) (v := ?_) (a' := ?_) #[tr,tr,tr,tr,tr,tr,tr,tr,tr,tr,tr,tr,tr,tr,tr,tr,tr,tr,fa,fa,fa,fa,fa,fa,fa,fa,fa,fa,fa,fa,fa,fa,fa,fa,fa,fa,fa,fa,fa,fa,fa,fa,fa,fa,fa,fa,fa,fa,fa,fa,fa,fa,fa,fa] rfl rfl (any_of HT_.out (by kernel_rfl)) (fun _ _ _ h => h) (Or.inl ⟨by rfl, ?_⟩) ?_ ?_
         rotate_left
         ·intro w'
          go_simp
          with_reducible rfl
         rotate_left
         ·simp only [sP]
          rfl
         refine pure_ (i := 18) (N := some 59) (v := ?_) (a' := ?_) #[tr,tr,tr,tr,tr,tr,tr,tr,tr,tr,tr,tr,tr,tr,tr,tr,tr,tr,tr,fa,fa,fa,fa,fa,fa,fa,fa,fa,fa,fa,fa,fa,fa,fa,fa,fa,fa,fa,fa,fa,fa,fa,fa,fa,fa,fa,fa,fa,fa,fa,fa,fa,fa,fa] rfl rfl (any_of HT_.out (by kernel_rfl)) (fun _ _ _ h => h) (Or.inl ⟨by rfl, ?_⟩) ?_ ?_
         rotate_left
         ·intro w'
          go_simp
          with_reducible rfl
         rotate_left
         ·simp only [sP]
          rfl
         refine take_ (i := 19) (N := some 60) (v := ?_) (a' := ?_) #[tr,tr,tr,tr,tr,tr,tr,tr,tr,tr,tr,tr,tr,tr,tr,tr,tr,tr,tr,tr,fa,fa,fa,fa,fa,fa,fa,fa,fa,fa,fa,fa,fa,fa,fa,fa,fa,fa,fa,fa,fa,fa,fa,fa,fa,fa,fa,fa,fa,fa,fa,fa,fa,fa] rfl rfl (take_ofW HT_.out HW_.out (by kernel_rfl)) (fun _ _ _ h => h) (Or.inl ⟨by rfl, ?_⟩) hHeld ?_ ?_
         rotate_left
         ·rintro w' ⟨s0, s1, s2, s3, s4, s5, s6, s7, s8, s9, s10, s11, s12, s13, s14, s15, s16, s17, s18, s19, s20, s21, s22, s23, s24, s25, s26, s27, s28, s29⟩
          go_simp
          with_reducible rfl
         rotate_left
         ·simp only [sP]
          rfl
         refine take_ (i := 20) (N := some 61) (v := ?_) (a' := ?_) #[tr,tr,tr,tr,tr,tr,tr,tr,tr,tr,tr,tr,tr,tr,tr,tr,tr,tr,tr,tr,tr,fa,fa,fa,fa,fa,fa,fa,fa,fa,fa,fa,fa,fa,fa,fa,fa,fa,fa,fa,fa,fa,fa,fa,fa,fa,fa,fa,fa,fa,fa,fa,fa,fa] rfl rfl (take_ofW HT_.out HW_.out (by kernel_rfl)) (fun _ _ _ h => h) (Or.inl ⟨by rfl, ?_⟩) hHeld ?_ ?_
         rotate_left
         ·rintro w' ⟨s0, s1, s2, s3, s4, s5, s6, s7, s8, s9, s10, s11, s12, s13, s14, s15, s16, s17, s18, s19, s20, s21, s22, s23, s24, s25, s26, s27, s28, s29⟩
          go_simp
          with_reducible rfl
         rotate_left
         ·simp only [sP]
          rfl
         refine pure_ (i := 21) (N := some 62) (v := ?_) (a' := ?_) #[tr,tr,tr,tr,tr,tr,tr,tr,tr,tr,tr,tr,tr,tr,tr,tr,tr,tr,tr,tr,tr,tr,fa,fa,fa,fa,fa,fa,fa,fa,fa,fa,fa,fa,fa,fa,fa,fa,fa,fa,fa,fa,fa,fa,fa,fa,fa,fa,fa,fa,fa,fa,fa,fa] rfl rfl (any_of HT_.out (by kernel_rfl)) (fun _ _ _ h => h) (Or.inl ⟨by rfl, ?_⟩) ?_ ?_
         rotate_left
         ·intro w'
          go_simp
          with_reducible rfl
         rotate_left
         ·simp only [sP]
          rfl
         refine pure_ (i := 22) (N := some 63) (v := ?_) (a' := ?_) #[tr,tr,tr,tr,tr,tr,tr,tr,tr,tr,tr,tr,tr,tr,tr,tr,tr,tr,tr,tr,tr,tr,tr,fa,fa,fa,fa,fa,fa,fa,fa,fa,fa,fa,fa,fa,fa,fa,fa,fa,fa,fa,fa,fa,fa,fa,fa,fa,fa,fa,fa,fa,fa,fa] rfl rfl (any_of HT_.out (by kernel_rfl)) (fun _ _ _ h => h) (Or.inl ⟨by rfl, ?_⟩) ?_ ?_
         rotate_left
         ·intro w'
          go_simp
          with_reducible rfl
         rotate_left
         ·simp only [sP]
          rfl
         refine pure_ (i := 23) (N := some 64) (v := ?_) (a' := ?_) #[tr,tr,tr,tr,tr,tr,tr,tr,tr,tr,tr,tr,tr,tr,tr,tr,tr,tr,tr,tr,tr,tr,tr,tr,fa,fa,fa,fa,fa,fa,fa,fa,fa,fa,fa,fa,fa,fa,fa,fa,fa,fa,fa,fa,fa,fa,fa,fa,fa,fa,fa,fa,fa,fa] rfl rfl (any_of HT_.out (by kernel_rfl)) (fun _ _ _ h => h) (Or.inl ⟨by rfl, ?_⟩) ?_ ?_
         rotate_left
         ·intro w'
          go_simp
          with_reducible rfl
         rotate_left
         ·simp only [sP]
          rfl
         refine take_ (i := 24) (N := some 65) (v := ?_) (a' := ?_) #[tr,tr,tr,tr,tr,tr,tr,tr,tr,tr,tr,tr,tr,tr,tr,tr,tr,tr,tr,tr,tr,tr,tr,tr,tr,fa,fa,fa,fa,fa,fa,fa,fa,fa,fa,fa,fa,fa,fa,fa,fa,fa,fa,fa,fa,fa,fa,fa,fa,fa,fa,fa,fa,fa] rfl rfl (take_ofW HT_.out HW_.out (by kernel_rfl)) (fun _ _ _ h => h) (Or.inl ⟨by rfl, ?_⟩) hHeld ?_ ?_
         rotate_left
         ·rintro w' ⟨s0, s1, s2, s3, s4, s5, s6, s7, s8, s9, s10, s11, s12, s13, s14, s15, s16, s17, s18, s19, s20, s21, s22, s23, s24, s25, s26, s27, s28, s29⟩
          go_simp
          with_reducible rfl
         rotate_left
         ·simp only [sP]
          rfl
         refine take_ (i := 25) (N := some 66) (v := ?_) (a' := ?_) #[tr,tr,tr,tr,tr,tr,tr,tr,tr,tr,tr,tr,tr,tr,tr,tr,tr,tr,tr,tr,tr,tr,tr,tr,tr,tr,fa,fa,fa,fa,fa,fa,fa,fa,fa,fa,fa,fa,fa,fa,fa,fa,fa,fa,fa,fa,fa,fa,fa,fa,fa,fa,fa,fa] rfl rfl (take_ofW HT_.out HW_.out (by kernel_rfl)) (fun _ _ _ h => h) (Or.inl ⟨by rfl, ?_⟩) hHeld ?_ ?_
         rotate_left
         ·rintro w' ⟨s0, s1, s2, s3, s4, s5, s6, s7, s8, s9, s10, s11, s12, s13, s14, s15, s16, s17, s18, s19, s20, s21, s22, s23, s24, s25, s26, s27, s28, s29⟩
          go_simp
          with_reducible rfl
         rotate_left
         ·simp only [sP]
          rfl
         refine pure_ (i := 26) (N := some 67) (v := ?_) (a' := ?_) #[tr,tr,tr,tr,tr,tr,tr,tr,tr,tr,tr,tr,tr,tr,tr,tr,tr,tr,tr,tr,tr,tr,tr,tr,tr,tr,tr,fa,fa,fa,fa,fa,fa,fa,fa,fa,fa,fa,fa,fa,fa,fa,fa,fa,fa,fa,fa,fa,fa,fa,fa,fa,fa,fa] rfl rfl (any_of HT_.out (by kernel_rfl)) (fun _ _ _ h => h) (Or.inl ⟨by rfl, ?_⟩) ?_ ?_
         rotate_left
         ·intro w'
          go_simp
          with_reducible rfl
         rotate_left
         ·simp only [sP]
          rfl
         refine pure_ (i := 27) (N := some 68) (v := ?_) (a' := ?_) #[tr,tr,tr,tr,tr,tr,tr,tr,tr,tr,tr,tr,tr,tr,tr,tr,tr,tr,tr,tr,tr,tr,tr,tr,tr,tr,tr,tr,fa,fa,fa,fa,fa,fa,fa,fa,fa,fa,fa,fa,fa,fa,fa,fa,fa,fa,fa,fa,fa,fa,fa,fa,fa,fa] rfl rfl (any_of HT_.out (by kernel_rfl)) (fun _ _ _ h => h) (Or.inl ⟨by rfl, ?_⟩) ?_ ?_
         rotate_left
         ·intro w'
          go_simp
          with_reducible rfl
         rotate_left
         ·simp only [sP]
          rfl
         refine pure_ (i := 28) (N := some 69) (v := ?_) (a' := ?_) #[tr,tr,tr,tr,tr,tr,tr,tr,tr,tr,tr,tr,tr,tr,tr,tr,tr,tr,tr,tr,tr,tr,tr,tr,tr,tr,tr,tr,tr,fa,fa,fa,fa,fa,fa,fa,fa,fa,fa,fa,fa,fa,fa,fa,fa,fa,fa,fa,fa,fa,fa,fa,fa,fa] rfl rfl (any_of HT_.out (by kernel_rfl)) (fun _ _ _ h => h) (Or.inl ⟨by rfl, ?_⟩) ?_ ?_
         rotate_left
         ·intro w'
          go_simp
          with_reducible rfl
         rotate_left
         ·simp only [sP]
          rfl
         refine pure_ (i := 29) (N := some 70) (v := ?_) (a' := ?_) #[tr,tr,tr,tr,tr,tr,tr,tr,tr,tr,tr,tr,tr,tr,tr,tr,tr,tr,tr,tr,tr,tr,tr,tr,tr,tr,tr,tr,tr,tr,fa,fa,fa,fa,fa,fa,fa,fa,fa,fa,fa,fa,fa,fa,fa,fa,fa,fa,fa,fa,fa,fa,fa,fa] rfl rfl (any_of HT_.out (by kernel_rfl)) (fun _ _ _ h => h) (Or.inl ⟨by rfl, ?_⟩) ?_ ?_
         rotate_left
         ·intro w'
          go_simp
          with_reducible rfl
         rotate_left
         ·simp only [sP]
          rfl
         refine pure_ (i := 30) (N := some 71) (v := ?_) (a' := ?_) #[tr,tr,tr,tr,tr,tr,tr,tr,tr,tr,tr,tr,tr,tr,tr,tr,tr,tr,tr,tr,tr,tr,tr,tr,tr,tr,tr,tr,tr,tr,tr,fa,fa,fa,fa,fa,fa,fa,fa,fa,fa,fa,fa,fa,fa,fa,fa,fa,fa,fa,fa,fa,fa,fa] rfl rfl (any_of HT_.out (by kernel_rfl)) (fun _ _ _ h => h) (Or.inl ⟨by rfl, ?_⟩) ?_ ?_
         rotate_left
         ·intro w'
          go_simp
          with_reducible rfl
         rotate_left
         ·simp only [sP]
          rfl
         refine pure_ (i := 31) (N := some 72) (v := ?_) (a' := ?_) #[tr,tr,tr,tr,tr,tr,tr,tr,tr,tr,tr,tr,tr,tr,tr,tr,tr,tr,tr,tr,tr,tr,tr,tr,tr,tr,tr,tr,tr,tr,tr,tr,fa,fa,fa,fa,fa,fa,fa,fa,fa,fa,fa,fa,fa,fa,fa,fa,fa,fa,fa,fa,fa,fa] rfl rfl (any_of HT_.out (by kernel_rfl)) (fun _ _ _ h => h) (Or.inl ⟨by rfl, ?_⟩) ?_ ?_
         rotate_left
         ·intro w'
          go_simp
          with_reducible rfl
         rotate_left
         ·simp only [sP]
          rfl
         refine pure_ (i := 32) (N := some 73) (v := ?_) (a' := ?_) #[tr,tr,tr,tr,tr,tr,tr,tr,tr,tr,tr,tr,tr,tr,tr,tr,tr,tr,tr,tr,tr,tr,tr,tr,tr,tr,tr,tr,tr,tr,tr,tr,tr,fa,fa,fa,fa,fa,fa,fa,fa,fa,fa,fa,fa,fa,fa,fa,fa,fa,fa,fa,fa,fa] rfl rfl (any_of HT_.out (by kernel_rfl)) (fun _ _ _ h => h) (Or.inl ⟨by rfl, ?_⟩) ?_ ?_
         rotate_left
         ·intro w'
          go_simp
          with_reducible rfl
         rotate_left
         ·simp only [sP]
          rfl
         refine pure_ (i := 33) (N := some 74) (v := ?_) (a' := ?_) #[tr,tr,tr,tr,tr,tr,tr,tr,tr,tr,tr,tr,tr,tr,tr,tr,tr,tr,tr,tr,tr,tr,tr,tr,tr,tr,tr,tr,tr,tr,tr,tr,tr,tr,fa,fa,fa,fa,fa,fa,fa,fa,fa,fa,fa,fa,fa,fa,fa,fa,fa,fa,fa,fa] rfl rfl (any_of HT_.out (by kernel_rfl)) (fun _ _ _ h => h) (Or.inl ⟨by rfl, ?_⟩) ?_ ?_
         rotate_left
         ·intro w'
          go_simp
          with_reducible rfl
         rotate_left
         ·simp only [sP]
          rfl
         refine pure_ (i := 35) (N := some 76) (v := ?_) (a' := ?_) #[tr,tr,tr,tr,tr,tr,tr,tr,tr,tr,tr,tr,tr,tr,tr,tr,tr,tr,tr,tr,tr,tr,tr,tr,tr,tr,tr,tr,tr,tr,tr,tr,tr,tr,fa,tr,fa,fa,fa,fa,fa,fa,fa,fa,fa,fa,fa,fa,fa,fa,fa,fa,fa,fa] rfl rfl (any_of HT_.out (by kernel_rfl)) (fun _ _ _ h => h) (Or.inl ⟨by rfl, ?_⟩) ?_ ?_
         rotate_left
         ·intro w'
          go_simp
          with_reducible rfl
         rotate_left
         ·simp only [sP]
          rfl
         refine pure_ (i := 39) (N := some 80) (v := ?_) (a' := ?_) #[tr,tr,tr,tr,tr,tr,tr,tr,tr,tr,tr,tr,tr,tr,tr,tr,tr,tr,tr,tr,tr,tr,tr,tr,tr,tr,tr,tr,tr,tr,tr,tr,tr,tr,fa,tr,fa,fa,fa,tr,fa,fa,fa,fa,fa,fa,fa,fa,fa,fa,fa,fa,fa,fa] rfl rfl (any_of HT_.out (by kernel_rfl)) (fun _ _ _ h => h) (Or.inl ⟨by rfl, ?_⟩) ?_ ?_
         rotate_left
         ·intro w'
          go_simp
          with_reducible rfl
         rotate_left
         ·simp only [sP]
          rfl
         refine take_ (i := 34) (N := some 75) (v := ?_) (a' := ?_) #[tr,tr,tr,tr,tr,tr,tr,tr,tr,tr,tr,tr,tr,tr,tr,tr,tr,tr,tr,tr,tr,tr,tr,tr,tr,tr,tr,tr,tr,tr,tr,tr,tr,tr,tr,tr,fa,fa,fa,tr,fa,fa,fa,fa,fa,fa,fa,fa,fa,fa,fa,fa,fa,fa] rfl rfl (take_ofW HT_.out HW_.out (by kernel_rfl)) (fun _ _ _ h => h) (Or.inl ⟨by rfl, ?_⟩) hHeld ?_ ?_
         rotate_left
         ·rintro w' ⟨s0, s1, s2, s3, s4, s5, s6, s7, s8, s9, s10, s11, s12, s13, s14, s15, s16, s17, s18, s19, s20, s21, s22, s23, s24, s25, s26, s27, s28, s29⟩
          go_simp
          with_reducible rfl
         rotate_left
         ·simp only [sP]
          rfl
         refine take_ (i := 36) (N := some 77) (v := ?_) (a' := ?_) #[tr,tr,tr,tr,tr,tr,tr,tr,tr,tr,tr,tr,tr,tr,tr,tr,tr,tr,tr,tr,tr,tr,tr,tr,tr,tr,tr,tr,tr,tr,tr,tr,tr,tr,tr,tr,tr,fa,fa,tr,fa,fa,fa,fa,fa,fa,fa,fa,fa,fa,fa,fa,fa,fa] rfl rfl (take_ofW HT_.out HW_.out (by kernel_rfl)) (fun _ _ _ h => h) (Or.inl ⟨by rfl, ?_⟩) hHeld ?_ ?_
         rotate_left
         ·rintro w' ⟨s0, s1, s2, s3, s4, s5, s6, s7, s8, s9, s10, s11, s12, s13, s14, s15, s16, s17, s18, s19, s20, s21, s22, s23, s24, s25, s26, s27, s28, s29⟩
          go_simp
          with_reducible rfl
         rotate_left
         ·simp only [sP]
          rfl
         refine take_ (i := 38) (N := some 79) (v := ?_) (a' := ?_) #[tr,tr,tr,tr,tr,tr,tr,tr,tr,tr,tr,tr,tr,tr,tr,tr,tr,tr,tr,tr,tr,tr,tr,tr,tr,tr,tr,tr,tr,tr,tr,tr,tr,tr,tr,tr,tr,fa,tr,tr,fa,fa,fa,fa,fa,fa,fa,fa,fa,fa,fa,fa,fa,fa] rfl rfl (take_ofW HT_.out HW_.out (by kernel_rfl)) (fun _ _ _ h => h) (Or.inl ⟨by rfl, ?_⟩) hHeld ?_ ?_
         rotate_left
         ·rintro w' ⟨s0, s1, s2, s3, s4, s5, s6, s7, s8, s9, s10, s11, s12, s13, s14, s15, s16, s17, s18, s19, s20, s21, s22, s23, s24, s25, s26, s27, s28, s29⟩
          go_simp
          with_reducible rfl
         rotate_left
         ·simp only [sP]
          rfl
         refine take_ (i := 40) (N := some 81) (v := ?_) (a' := ?_) #[tr,tr,tr,tr,tr,tr,tr,tr,tr,tr,tr,tr,tr,tr,tr,tr,tr,tr,tr,tr,tr,tr,tr,tr,tr,tr,tr,tr,tr,tr,tr,tr,tr,tr,tr,tr,tr,fa,tr,tr,tr,fa,fa,fa,fa,fa,fa,fa,fa,fa,fa,fa,fa,fa] rfl rfl (take_ofW HT_.out HW_.out (by kernel_rfl)) (fun _ _ _ h => h) (Or.inl ⟨by rfl, ?_⟩) hHeld ?_ ?_
         rotate_left
         ·rintro w' ⟨s0, s1, s2, s3, s4, s5, s6, s7, s8, s9, s10, s11, s12, s13, s14, s15, s16, s17, s18, s19, s20, s21, s22, s23, s24, s25, s26, s27, s28, s29⟩
          go_simp
          with_reducible rfl
         rotate_left
         ·simp only [sP]
          rfl
         refine one_ (i := 37) (N := some 78) #[tr,tr,tr,tr,tr,tr,tr,tr,tr,tr,tr,tr,tr,tr,tr,tr,tr,tr,tr,tr,tr,tr,tr,tr,tr,tr,tr,tr,tr,tr,tr,tr,tr,tr,tr,tr,tr,tr,tr,tr,tr,fa,fa,fa,fa,fa,fa,fa,fa,fa,fa,fa,fa,fa] rfl rfl (one_of HT_.out (by kernel_rfl)) (by decide) (fun K hK => ?_)
         refine goes_ Try.func22 (by kernel_rfl) rfl #[.agg #[.bool a0_0, .int .u64 a0_1, .int .u64 a0_2, .int .i64 a0_3], .bool a2, .agg #[.int .u64 a3_0, .int .u64 a3_1]] (by rfl) rfl rfl gS ?_
         with_reducible refine (addr_Has.calls k a0_0 a0_1 a0_2 a0_3 a2 a3_0 a3_1 t345 _ A19.out).mono ?_
         rintro e w87 ⟨rfl, hb⟩
         refine ⟨_, rfl, ?_⟩
         have n0_ := Ax (blk_below (g := gb309) (o := .cells #[.bool a0_0, .int .u64 a0_1, .int .u64 a0_2, .int .i64 a0_3] 33 (0, 0)) (bf0 BK309.out) hb)
         have n1_ := Ax (blk_below (g := gb310) (o := .cells #[.bool a1_0, .int .u64 a1_1, .int .u64 a1_2, .int .i64 a1_3] 33 (0, 0)) (bf0 BK310.out) hb)
         have n2_ := Ax (blk_below (g := gb311) (o := .cells #[.int .u64 a3_0, .int .u64 a3_1] 24 (0, 0)) (bf0 BK311.out) hb)
         have n3_ := Ax (blk_below (g := gb315) (o := .cells #[.int .u64 t312, .int .u64 t313] 24 (0, 0)) (bf0 BK315.out) hb)
         have n4_ := Ax (blk_below (g := gb319) (o := .cells #[.int .u64 t316, .int .u64 t317] 24 (0, 0)) (bf0 BK319.out) hb)
         have n5_ := Ax (blk_below (g := gb329) (o := .cells #[.bool t320, .int .u64 t321, .int .u64 t322, .int .i64 t323] 33 (0, 0)) (bf0 BK329.out) hb)
         have n6_ := Ax (blk_below (g := gb330) (o := .cells #[.bool t324, .int .u64 t325, .int .u64 t326, .int .i64 t327] 33 (0, 0)) (bf0 BK330.out) hb)
         have n7_ := Ax (blk_below (g := gb340) (o := .cells #[.bool t331, .int .u64 t332, .int .u64 t333, .int .i64 t334] 33 (0, 0)) (bf0 BK340.out) hb)
         have n8_ := Ax (blk_below (g := gb341) (o := .cells #[.bool t335, .int .u64 t336, .int .u64 t337, .int .i64 t338] 33 (0, 0)) (bf0 BK341.out) hb)
         have n9_ := Ax (below_step (by repeat (first | (with_reducible first | exact HB.out | apply below_alloc | apply pw_below_drewN | apply below_drew1 | refine below_set ?_ GE309.out | refine below_set ?_ GE310.out | refine below_set ?_ GE311.out | refine below_set ?_ GE315.out | refine below_set ?_ GE319.out | refine below_set ?_ GE329.out | refine below_set ?_ GE330.out | refine below_set ?_ GE340.out | refine below_set ?_ GE341.out) | exact HB.out)) hb)
         clear BK309
         clear BK310
         clear BK311
         clear BK315
         clear BK319
         clear BK329
         clear BK330
         clear BK340
         clear BK341
         clear HB
         have BK309 := n0_
         have BK310 := n1_
         have BK311 := n2_
         have BK315 := n3_
         have BK319 := n4_
         have BK329 := n5_
         have BK330 := n6_
         have BK340 := n7_
         have BK341 := n8_
         have HB := n9_
         clear n0_ n1_ n2_ n3_ n4_ n5_ n6_ n7_ n8_ n9_
         (try clear hb)
         (try clear hb2)
         (try clear hk)
         (try clear hi)
         refine hK.out _ _ ⟨(blk_cell BK309.out 0).trans rfl, (blk_cell BK309.out 1).trans rfl, (blk_cell BK309.out 2).trans rfl, (blk_cell BK309.out 3).trans rfl, (blk_cell BK315.out 0).trans rfl, (blk_cell BK315.out 1).trans rfl, (blk_cell BK319.out 0).trans rfl, (blk_cell BK319.out 1).trans rfl, (blk_cell BK329.out 0).trans rfl, (blk_cell BK329.out 1).trans rfl, (blk_cell BK329.out 2).trans rfl, (blk_cell BK329.out 3).trans rfl, (blk_cell BK340.out 0).trans rfl, (blk_cell BK340.out 1).trans rfl, (blk_cell BK340.out 2).trans rfl, (blk_cell BK340.out 3).trans rfl, (blk_cell BK330.out 0).trans rfl, (blk_cell BK330.out 1).trans rfl, (blk_cell BK330.out 2).trans rfl, (blk_cell BK330.out 3).trans rfl, (blk_cell BK341.out 0).trans rfl, (blk_cell BK341.out 1).trans rfl, (blk_cell BK341.out 2).trans rfl, (blk_cell BK341.out 3).trans rfl, (blk_cell BK311.out 0).trans rfl, (blk_cell BK311.out 1).trans rfl, (blk_cell BK310.out 0).trans rfl, (blk_cell BK310.out 1).trans rfl, (blk_cell BK310.out 2).trans rfl, (blk_cell BK310.out 3).trans rfl⟩ (fun hHeld => ?_)
         clear hK K
         refine norm_ (a' := ?_) ?_ ?_
         rotate_left
         ·show Act.put _ (some 78) _ = _
          simp only [sP]
          rfl
         refine one_ (i := 41) (N := some 82) #[tr,tr,tr,tr,tr,tr,tr,tr,tr,tr,tr,tr,tr,tr,tr,tr,tr,tr,tr,tr,tr,tr,tr,tr,tr,tr,tr,tr,tr,tr,tr,tr,tr,tr,tr,tr,tr,tr,tr,tr,tr,tr,fa,fa,fa,fa,fa,fa,fa,fa,fa,fa,fa,fa] rfl rfl (one_of HT_.out (by kernel_rfl)) (by decide) (fun K hK => ?_)
         refine goes_ Try.func23 (by kernel_rfl) rfl #[.agg #[.bool a0_0, .int .u64 a0_1, .int .u64 a0_2, .int .i64 a0_3], .bool a2, .agg #[.int .u64 a3_0, .int .u64 a3_1]] (by rfl) rfl rfl gS ?_
         with_reducible refine (spoorref09_Has.calls k a0_0 a0_1 a0_2 a0_3 a2 a3_0 a3_1 t346 _ A20.out).mono ?_
         rintro e w88 ⟨rfl, hb⟩
         refine ⟨_, rfl, ?_⟩
         have n0_ := Ax (blk_below (g := gb309) (o := .cells #[.bool a0_0, .int .u64 a0_1, .int .u64 a0_2, .int .i64 a0_3] 33 (0, 0)) (bf0 BK309.out) hb)
         have n1_ := Ax (blk_below (g := gb310) (o := .cells #[.bool a1_0, .int .u64 a1_1, .int .u64 a1_2, .int .i64 a1_3] 33 (0, 0)) (bf0 BK310.out) hb)
         have n2_ := Ax (blk_below (g := gb311) (o := .cells #[.int .u64 a3_0, .int .u64 a3_1] 24 (0, 0)) (bf0 BK311.out) hb)
         have n3_ := Ax (blk_below (g := gb315) (o := .cells #[.int .u64 t312, .int .u64 t313] 24 (0, 0)) (bf0 BK315.out) hb)
         have n4_ := Ax (blk_below (g := gb319) (o := .cells #[.int .u64 t316, .int .u64 t317] 24 (0, 0)) (bf0 BK319.out) hb)
         have n5_ := Ax (blk_below (g := gb329) (o := .cells #[.bool t320, .int .u64 t321, .int .u64 t322, .int .i64 t323] 33 (0, 0)) (bf0 BK329.out) hb)
         have n6_ := Ax (blk_below (g := gb330) (o := .cells #[.bool t324, .int .u64 t325, .int .u64 t326, .int .i64 t327] 33 (0, 0)) (bf0 BK330.out) hb)
         have n7_ := Ax (blk_below (g := gb340) (o := .cells #[.bool t331, .int .u64 t332, .int .u64 t333, .int .i64 t334] 33 (0, 0)) (bf0 BK340.out) hb)
         have n8_ := Ax (blk_below (g := gb341) (o := .cells #[.bool t335, .int .u64 t336, .int .u64 t337, .int .i64 t338] 33 (0, 0)) (bf0 BK341.out) hb)
         have n9_ := Ax (below_step (by repeat (first | (with_reducible first | exact HB.out | apply below_alloc | apply pw_below_drewN | apply below_drew1 | refine below_set ?_ GE309.out | refine below_set ?_ GE310.out | refine below_set ?_ GE311.out | refine below_set ?_ GE315.out | refine below_set ?_ GE319.out | refine below_set ?_ GE329.out | refine below_set ?_ GE330.out | refine below_set ?_ GE340.out | refine below_set ?_ GE341.out) | exact HB.out)) hb)
         clear BK309
         clear BK310
         clear BK311
         clear BK315
         clear BK319
         clear BK329
         clear BK330
         clear BK340
         clear BK341
         clear HB
         have BK309 := n0_
         have BK310 := n1_
         have BK311 := n2_
         have BK315 := n3_
         have BK319 := n4_
         have BK329 := n5_
         have BK330 := n6_
         have BK340 := n7_
         have BK341 := n8_
         have HB := n9_
         clear n0_ n1_ n2_ n3_ n4_ n5_ n6_ n7_ n8_ n9_
         (try clear hb)
         (try clear hb2)
         (try clear hk)
         (try clear hi)
         refine hK.out _ _ ⟨(blk_cell BK309.out 0).trans rfl, (blk_cell BK309.out 1).trans rfl, (blk_cell BK309.out 2).trans rfl, (blk_cell BK309.out 3).trans rfl, (blk_cell BK315.out 0).trans rfl, (blk_cell BK315.out 1).trans rfl, (blk_cell BK319.out 0).trans rfl, (blk_cell BK319.out 1).trans rfl, (blk_cell BK329.out 0).trans rfl, (blk_cell BK329.out 1).trans rfl, (blk_cell BK329.out 2).trans rfl, (blk_cell BK329.out 3).trans rfl, (blk_cell BK340.out 0).trans rfl, (blk_cell BK340.out 1).trans rfl, (blk_cell BK340.out 2).trans rfl, (blk_cell BK340.out 3).trans rfl, (blk_cell BK330.out 0).trans rfl, (blk_cell BK330.out 1).trans rfl, (blk_cell BK330.out 2).trans rfl, (blk_cell BK330.out 3).trans rfl, (blk_cell BK341.out 0).trans rfl, (blk_cell BK341.out 1).trans rfl, (blk_cell BK341.out 2).trans rfl, (blk_cell BK341.out 3).trans rfl, (blk_cell BK311.out 0).trans rfl, (blk_cell BK311.out 1).trans rfl, (blk_cell BK310.out 0).trans rfl, (blk_cell BK310.out 1).trans rfl, (blk_cell BK310.out 2).trans rfl, (blk_cell BK310.out 3).trans rfl⟩ (fun hHeld => ?_)
         clear hK K
         refine norm_ (a' := ?_) ?_ ?_
         rotate_left
         ·show Act.put _ (some 82) _ = _
          simp only [sP]
          rfl
         refine pure_ (i := 42) (N := some 83) (v := ?_) (a' := ?_) #[tr,tr,tr,tr,tr,tr,tr,tr,tr,tr,tr,tr,tr,tr,tr,tr,tr,tr,tr,tr,tr,tr,tr,tr,tr,tr,tr,tr,tr,tr,tr,tr,tr,tr,tr,tr,tr,tr,tr,tr,tr,tr,tr,fa,fa,fa,fa,fa,fa,fa,fa,fa,fa,fa] rfl rfl (any_of HT_.out (by kernel_rfl)) (fun _ _ _ h => h) (Or.inl ⟨by rfl, ?_⟩) ?_ ?_
         rotate_left
         ·intro w'
          go_simp
          with_reducible rfl
         rotate_left
         ·simp only [sP]
          rfl
         refine pure_ (i := 43) (N := some 84) (v := ?_) (a' := ?_) #[tr,tr,tr,tr,tr,tr,tr,tr,tr,tr,tr,tr,tr,tr,tr,tr,tr,tr,tr,tr,tr,tr,tr,tr,tr,tr,tr,tr,tr,tr,tr,tr,tr,tr,tr,tr,tr,tr,tr,tr,tr,tr,tr,tr,fa,fa,fa,fa,fa,fa,fa,fa,fa,fa] rfl rfl (any_of HT_.out (by kernel_rfl)) (fun _ _ _ h => h) (Or.inl ⟨by rfl, ?_⟩) ?_ ?_
         rotate_left
         ·intro w'
          go_simp
          with_reducible rfl
         rotate_left
         ·simp only [sP]
          rfl
         refine pure_ (i := 44) (N := some 85) (v := ?_) (a' := ?_) #[tr,tr,tr,tr,tr,tr,tr,tr,tr,tr,tr,tr,tr,tr,tr,tr,tr,tr,tr,tr,tr,tr,tr,tr,tr,tr,tr,tr,tr,tr,tr,tr,tr,tr,tr,tr,tr,tr,tr,tr,tr,tr,tr,tr,tr,fa,fa,fa,fa,fa,fa,fa,fa,fa] rfl rfl (any_of HT_.out (by kernel_rfl)) (fun _ _ _ h => h) (Or.inl ⟨by rfl, ?_⟩) ?_ ?_
         rotate_left
         ·intro w'
          go_simp
          with_reducible rfl
         rotate_left
         ·simp only [sP]
          rfl
         refine take_ (i := 45) (N := some 86) (v := ?_) (a' := ?_) #[tr,tr,tr,tr,tr,tr,tr,tr,tr,tr,tr,tr,tr,tr,tr,tr,tr,tr,tr,tr,tr,tr,tr,tr,tr,tr,tr,tr,tr,tr,tr,tr,tr,tr,tr,tr,tr,tr,tr,tr,tr,tr,tr,tr,tr,tr,fa,fa,fa,fa,fa,fa,fa,fa] rfl rfl (take_ofW HT_.out HW_.out (by kernel_rfl)) (fun _ _ _ h => h) (Or.inl ⟨by rfl, ?_⟩) hHeld ?_ ?_
         rotate_left
         ·rintro w' ⟨s0, s1, s2, s3, s4, s5, s6, s7, s8, s9, s10, s11, s12, s13, s14, s15, s16, s17, s18, s19, s20, s21, s22, s23, s24, s25, s26, s27, s28, s29⟩
          go_simp
          with_reducible rfl
         rotate_left
         ·simp only [sP]
          rfl
         refine take_ (i := 46) (N := some 87) (v := ?_) (a' := ?_) #[tr,tr,tr,tr,tr,tr,tr,tr,tr,tr,tr,tr,tr,tr,tr,tr,tr,tr,tr,tr,tr,tr,tr,tr,tr,tr,tr,tr,tr,tr,tr,tr,tr,tr,tr,tr,tr,tr,tr,tr,tr,tr,tr,tr,tr,tr,tr,fa,fa,fa,fa,fa,fa,fa] rfl rfl (take_ofW HT_.out HW_.out (by kernel_rfl)) (fun _ _ _ h => h) (Or.inl ⟨by rfl, ?_⟩) hHeld ?_ ?_
         rotate_left
         ·rintro w' ⟨s0, s1, s2, s3, s4, s5, s6, s7, s8, s9, s10, s11, s12, s13, s14, s15, s16, s17, s18, s19, s20, s21, s22, s23, s24, s25, s26, s27, s28, s29⟩
          go_simp
          with_reducible rfl
         rotate_left
         ·simp only [sP]
          rfl
         refine take_ (i := 48) (N := some 89) (v := ?_) (a' := ?_) #[tr,tr,tr,tr,tr,tr,tr,tr,tr,tr,tr,tr,tr,tr,tr,tr,tr,tr,tr,tr,tr,tr,tr,tr,tr,tr,tr,tr,tr,tr,tr,tr,tr,tr,tr,tr,tr,tr,tr,tr,tr,tr,tr,tr,tr,tr,tr,fa,tr,fa,fa,fa,fa,fa] rfl rfl (take_ofW HT_.out HW_.out (by kernel_rfl)) (fun _ _ _ h => h) (Or.inl ⟨by rfl, ?_⟩) hHeld ?_ ?_
         rotate_left
         ·rintro w' ⟨s0, s1, s2, s3, s4, s5, s6, s7, s8, s9, s10, s11, s12, s13, s14, s15, s16, s17, s18, s19, s20, s21, s22, s23, s24, s25, s26, s27, s28, s29⟩
          go_simp
          with_reducible rfl
         rotate_left
         ·simp only [sP]
          rfl
         refine take_ (i := 49) (N := some 90) (v := ?_) (a' := ?_) #[tr,tr,tr,tr,tr,tr,tr,tr,tr,tr,tr,tr,tr,tr,tr,tr,tr,tr,tr,tr,tr,tr,tr,tr,tr,tr,tr,tr,tr,tr,tr,tr,tr,tr,tr,tr,tr,tr,tr,tr,tr,tr,tr,tr,tr,tr,tr,fa,tr,tr,fa,fa,fa,fa] rfl rfl (take_ofW HT_.out HW_.out (by kernel_rfl)) (fun _ _ _ h => h) (Or.inl ⟨by rfl, ?_⟩) hHeld ?_ ?_
         rotate_left
         ·rintro w' ⟨s0, s1, s2, s3, s4, s5, s6, s7, s8, s9, s10, s11, s12, s13, s14, s15, s16, s17, s18, s19, s20, s21, s22, s23, s24, s25, s26, s27, s28, s29⟩
          go_simp
          with_reducible rfl
         rotate_left
         ·simp only [sP]
          rfl
         refine one_ (i := 47) (N := some 88) #[tr,tr,tr,tr,tr,tr,tr,tr,tr,tr,tr,tr,tr,tr,tr,tr,tr,tr,tr,tr,tr,tr,tr,tr,tr,tr,tr,tr,tr,tr,tr,tr,tr,tr,tr,tr,tr,tr,tr,tr,tr,tr,tr,tr,tr,tr,tr,tr,tr,tr,fa,fa,fa,fa] rfl rfl (one_of HT_.out (by kernel_rfl)) (by decide) (fun K hK => ?_)
         refine goes_ Try.func24 (by kernel_rfl) rfl #[.agg #[.bool a0_0, .int .u64 a0_1, .int .u64 a0_2, .int .i64 a0_3], .agg #[.bool a1_0, .int .u64 a1_1, .int .u64 a1_2, .int .i64 a1_3]] (by rfl) rfl rfl gS ?_
         with_reducible refine (addr_Covers.calls k a0_0 a0_1 a0_2 a0_3 a1_0 a1_1 a1_2 a1_3 t347 _ A22.out).mono ?_
         rintro e w89 ⟨rfl, hb⟩
         refine ⟨_, rfl, ?_⟩
         have n0_ := Ax (blk_below (g := gb309) (o := .cells #[.bool a0_0, .int .u64 a0_1, .int .u64 a0_2, .int .i64 a0_3] 33 (0, 0)) (bf0 BK309.out) hb)
         have n1_ := Ax (blk_below (g := gb310) (o := .cells #[.bool a1_0, .int .u64 a1_1, .int .u64 a1_2, .int .i64 a1_3] 33 (0, 0)) (bf0 BK310.out) hb)
         have n2_ := Ax (blk_below (g := gb311) (o := .cells #[.int .u64 a3_0, .int .u64 a3_1] 24 (0, 0)) (bf0 BK311.out) hb)
         have n3_ := Ax (blk_below (g := gb315) (o := .cells #[.int .u64 t312, .int .u64 t313] 24 (0, 0)) (bf0 BK315.out) hb)
         have n4_ := Ax (blk_below (g := gb319) (o := .cells #[.int .u64 t316, .int .u64 t317] 24 (0, 0)) (bf0 BK319.out) hb)
         have n5_ := Ax (blk_below (g := gb329) (o := .cells #[.bool t320, .int .u64 t321, .int .u64 t322, .int .i64 t323] 33 (0, 0)) (bf0 BK329.out) hb)
         have n6_ := Ax (blk_below (g := gb330) (o := .cells #[.bool t324, .int .u64 t325, .int .u64 t326, .int .i64 t327] 33 (0, 0)) (bf0 BK330.out) hb)
         have n7_ := Ax (blk_below (g := gb340) (o := .cells #[.bool t331, .int .u64 t332, .int .u64 t333, .int .i64 t334] 33 (0, 0)) (bf0 BK340.out) hb)
         have n8_ := Ax (blk_below (g := gb341) (o := .cells #[.bool t335, .int .u64 t336, .int .u64 t337, .int .i64 t338] 33 (0, 0)) (bf0 BK341.out) hb)
         have n9_ := Ax (below_step (by repeat (first | (with_reducible first | exact HB.out | apply below_alloc | apply pw_below_drewN | apply below_drew1 | refine below_set ?_ GE309.out | refine below_set ?_ GE310.out | refine below_set ?_ GE311.out | refine below_set ?_ GE315.out | refine below_set ?_ GE319.out | refine below_set ?_ GE329.out | refine below_set ?_ GE330.out | refine below_set ?_ GE340.out | refine below_set ?_ GE341.out) | exact HB.out)) hb)
         clear BK309
         clear BK310
         clear BK311
         clear BK315
         clear BK319
         clear BK329
         clear BK330
         clear BK340
         clear BK341
         clear HB
         have BK309 := n0_
         have BK310 := n1_
         have BK311 := n2_
         have BK315 := n3_
         have BK319 := n4_
         have BK329 := n5_
         have BK330 := n6_
         have BK340 := n7_
         have BK341 := n8_
         have HB := n9_
         clear n0_ n1_ n2_ n3_ n4_ n5_ n6_ n7_ n8_ n9_
         (try clear hb)
         (try clear hb2)
         (try clear hk)
         (try clear hi)
         refine hK.out _ _ ⟨(blk_cell BK309.out 0).trans rfl, (blk_cell BK309.out 1).trans rfl, (blk_cell BK309.out 2).trans rfl, (blk_cell BK309.out 3).trans rfl, (blk_cell BK315.out 0).trans rfl, (blk_cell BK315.out 1).trans rfl, (blk_cell BK319.out 0).trans rfl, (blk_cell BK319.out 1).trans rfl, (blk_cell BK329.out 0).trans rfl, (blk_cell BK329.out 1).trans rfl, (blk_cell BK329.out 2).trans rfl, (blk_cell BK329.out 3).trans rfl, (blk_cell BK340.out 0).trans rfl, (blk_cell BK340.out 1).trans rfl, (blk_cell BK340.out 2).trans rfl, (blk_cell BK340.out 3).trans rfl, (blk_cell BK330.out 0).trans rfl, (blk_cell BK330.out 1).trans rfl, (blk_cell BK330.out 2).trans rfl, (blk_cell BK330.out 3).trans rfl, (blk_cell BK341.out 0).trans rfl, (blk_cell BK341.out 1).trans rfl, (blk_cell BK341.out 2).trans rfl, (blk_cell BK341.out 3).trans rfl, (blk_cell BK311.out 0).trans rfl, (blk_cell BK311.out 1).trans rfl, (blk_cell BK310.out 0).trans rfl, (blk_cell BK310.out 1).trans rfl, (blk_cell BK310.out 2).trans rfl, (blk_cell BK310.out 3).trans rfl⟩ (fun hHeld => ?_)
         clear hK K
         refine norm_ (a' := ?_) ?_ ?_
         rotate_left
         ·show Act.put _ (some 88) _ = _
          simp only [sP]
          rfl
         refine one_ (i := 50) (N := some 91) #[tr,tr,tr,tr,tr,tr,tr,tr,tr,tr,tr,tr,tr,tr,tr,tr,tr,tr,tr,tr,tr,tr,tr,tr,tr,tr,tr,tr,tr,tr,tr,tr,tr,tr,tr,tr,tr,tr,tr,tr,tr,tr,tr,tr,tr,tr,tr,tr,tr,tr,tr,fa,fa,fa] rfl rfl (one_of HT_.out (by kernel_rfl)) (by decide) (fun K hK => ?_)
         refine goes_ Try.func25 (by kernel_rfl) rfl #[.agg #[.bool a0_0, .int .u64 a0_1, .int .u64 a0_2, .int .i64 a0_3], .agg #[.bool a1_0, .int .u64 a1_1, .int .u64 a1_2, .int .i64 a1_3]] (by rfl) rfl rfl gS ?_
         with_reducible refine (spoorref09_Covers.calls k a0_0 a0_1 a0_2 a0_3 a1_0 a1_1 a1_2 a1_3 t348 _ A23.out).mono ?_
         rintro e w90 ⟨rfl, hb⟩
         refine ⟨_, rfl, ?_⟩
         have n0_ := Ax (blk_below (g := gb309) (o := .cells #[.bool a0_0, .int .u64 a0_1, .int .u64 a0_2, .int .i64 a0_3] 33 (0, 0)) (bf0 BK309.out) hb)
         have n1_ := Ax (blk_below (g := gb310) (o := .cells #[.bool a1_0, .int .u64 a1_1, .int .u64 a1_2, .int .i64 a1_3] 33 (0, 0)) (bf0 BK310.out) hb)
         have n2_ := Ax (blk_below (g := gb311) (o := .cells #[.int .u64 a3_0, .int .u64 a3_1] 24 (0, 0)) (bf0 BK311.out) hb)
         have n3_ := Ax (blk_below (g := gb315) (o := .cells #[.int .u64 t312, .int .u64 t313] 24 (0, 0)) (bf0 BK315.out) hb)
         have n4_ := Ax (blk_below (g := gb319) (o := .cells #[.int .u64 t316, .int .u64 t317] 24 (0, 0)) (bf0 BK319.out) hb)
         have n5_ := Ax (blk_below (g := gb329) (o := .cells #[.bool t320, .int .u64 t321, .int .u64 t322, .int .i64 t323] 33 (0, 0)) (bf0 BK329.out) hb)
         have n6_ := Ax (blk_below (g := gb330) (o := .cells #[.bool t324, .int .u64 t325, .int .u64 t326, .int .i64 t327] 33 (0, 0)) (bf0 BK330.out) hb)
         have n7_ := Ax (blk_below (g := gb340) (o := .cells #[.bool t331, .int .u64 t332, .int .u64 t333, .int .i64 t334] 33 (0, 0)) (bf0 BK340.out) hb)
         have n8_ := Ax (blk_below (g := gb341) (o := .cells #[.bool t335, .int .u64 t336, .int .u64 t337, .int .i64 t338] 33 (0, 0)) (bf0 BK341.out) hb)
         have n9_ := Ax (below_step (by repeat (first | (with_reducible first | exact HB.out | apply below_alloc | apply pw_below_drewN | apply below_drew1 | refine below_set ?_ GE309.out | refine below_set ?_ GE310.out | refine below_set ?_ GE311.out | refine below_set ?_ GE315.out | refine below_set ?_ GE319.out | refine below_set ?_ GE329.out | refine below_set ?_ GE330.out | refine below_set ?_ GE340.out | refine below_set ?_ GE341.out) | exact HB.out)) hb)
         clear BK309
         clear BK310
         clear BK311
         clear BK315
         clear BK319
         clear BK329
         clear BK330
         clear BK340
         clear BK341
         clear HB
         have BK309 := n0_
         have BK310 := n1_
         have BK311 := n2_
         have BK315 := n3_
         have BK319 := n4_
         have BK329 := n5_
         have BK330 := n6_
         have BK340 := n7_
         have BK341 := n8_
         have HB := n9_
         clear n0_ n1_ n2_ n3_ n4_ n5_ n6_ n7_ n8_ n9_
         (try clear hb)
         (try clear hb2)
         (try clear hk)
         (try clear hi)
         refine hK.out _ _ ⟨(blk_cell BK309.out 0).trans rfl, (blk_cell BK309.out 1).trans rfl, (blk_cell BK309.out 2).trans rfl, (blk_cell BK309.out 3).trans rfl, (blk_cell BK315.out 0).trans rfl, (blk_cell BK315.out 1).trans rfl, (blk_cell BK319.out 0).trans rfl, (blk_cell BK319.out 1).trans rfl, (blk_cell BK329.out 0).trans rfl, (blk_cell BK329.out 1).trans rfl, (blk_cell BK329.out 2).trans rfl, (blk_cell BK329.out 3).trans rfl, (blk_cell BK340.out 0).trans rfl, (blk_cell BK340.out 1).trans rfl, (blk_cell BK340.out 2).trans rfl, (blk_cell BK340.out 3).trans rfl, (blk_cell BK330.out 0).trans rfl, (blk_cell BK330.out 1).trans rfl, (blk_cell BK330.out 2).trans rfl, (blk_cell BK330.out 3).trans rfl, (blk_cell BK341.out 0).trans rfl, (blk_cell BK341.out 1).trans rfl, (blk_cell BK341.out 2).trans rfl, (blk_cell BK341.out 3).trans rfl, (blk_cell BK311.out 0).trans rfl, (blk_cell BK311.out 1).trans rfl, (blk_cell BK310.out 0).trans rfl, (blk_cell BK310.out 1).trans rfl, (blk_cell BK310.out 2).trans rfl, (blk_cell BK310.out 3).trans rfl⟩ (fun hHeld => ?_)
         clear hK K
         refine norm_ (a' := ?_) ?_ ?_
         rotate_left
         ·show Act.put _ (some 91) _ = _
          simp only [sP]
          rfl
         refine pure_ (i := 51) (N := some 92) (v := ?_) (a' := ?_) #[tr,tr,tr,tr,tr,tr,tr,tr,tr,tr,tr,tr,tr,tr,tr,tr,tr,tr,tr,tr,tr,tr,tr,tr,tr,tr,tr,tr,tr,tr,tr,tr,tr,tr,tr,tr,tr,tr,tr,tr,tr,tr,tr,tr,tr,tr,tr,tr,tr,tr,tr,tr,fa,fa] rfl rfl (any_of HT_.out (by kernel_rfl)) (fun _ _ _ h => h) (Or.inl ⟨by rfl, ?_⟩) ?_ ?_
         rotate_left
         ·intro w'
          go_simp
          with_reducible rfl
         rotate_left
         ·simp only [sP]
          rfl
         refine pure_ (i := 52) (N := some 93) (v := ?_) (a' := ?_) #[tr,tr,tr,tr,tr,tr,tr,tr,tr,tr,tr,tr,tr,tr,tr,tr,tr,tr,tr,tr,tr,tr,tr,tr,tr,tr,tr,tr,tr,tr,tr,tr,tr,tr,tr,tr,tr,tr,tr,tr,tr,tr,tr,tr,tr,tr,tr,tr,tr,tr,tr,tr,tr,fa] rfl rfl (any_of HT_.out (by kernel_rfl)) (fun _ _ _ h => h) (Or.inl ⟨by rfl, ?_⟩) ?_ ?_
         rotate_left
         ·intro w'
          go_simp
          with_reducible rfl
         rotate_left
         ·simp only [sP]
          rfl
         refine pure_ (i := 53) (N := some 8) (v := ?_) (a' := ?_) #[tr,tr,tr,tr,tr,tr,tr,tr,tr,tr,tr,tr,tr,tr,tr,tr,tr,tr,tr,tr,tr,tr,tr,tr,tr,tr,tr,tr,tr,tr,tr,tr,tr,tr,tr,tr,tr,tr,tr,tr,tr,tr,tr,tr,tr,tr,tr,tr,tr,tr,tr,tr,tr,tr] rfl rfl (any_of HT_.out (by kernel_rfl)) (fun _ _ _ h => h) (Or.inl ⟨by rfl, ?_⟩) ?_ ?_
         rotate_left
         ·intro w'
          go_simp
          with_reducible rfl
         rotate_left
         ·simp only [sP]
          rfl
         refine done_ (done_of HT_.out (by kernel_rfl)) ?_
         try go_wp2
         go_ret
         exact ⟨eS, by repeat (first | (with_reducible first | exact HB.out | apply below_alloc | apply pw_below_drewN | apply below_drew1 | refine below_set ?_ GE309.out | refine below_set ?_ GE310.out | refine below_set ?_ GE311.out | refine below_set ?_ GE315.out | refine below_set ?_ GE319.out | refine below_set ?_ GE329.out | refine below_set ?_ GE330.out | refine below_set ?_ GE340.out | refine below_set ?_ GE341.out) | exact HB.out)⟩
        ·rw [if_neg c21] at H
         have c21b0 : (t345 == t346) = false := by simpa using c21
         (try (have c21b1 : decide (t345 = t346) = false := by simpa using c21))
         (try (have c21b2 : (t345 == t346) = false := by simpa using c21))
         (try (have c21b3 : ¬ (t345 = t346) := by simpa using c21))
         clear c21
         exact absurd H (by simp)
       ·rw [if_neg c18] at H
        have c18b0 : (t328 == t339) = false := beq_eq_false_iff_ne.mpr c18
        have c18b1 : (t328 != t339) = true := bne_iff_ne.mpr c18
        exact absurd H (by simp)
      ·rw [if_neg c17] at H
       have c17b0 : (t324 == t335 && ((t325 == t336 && (t326 == t337)) && (t327 == t338))) = false := by simpa using c17
       (try (have c17b1 : decide (t324 = t335 && ((t325 == t336 && (t326 == t337)) && (t327 == t338))) = false := by simpa using c17))
       (try (have c17b2 : (t324 == t335 && ((t325 == t336 && (t326 == t337)) && (t327 == t338))) = false := by simpa using c17))
       (try (have c17b3 : ¬ (t324 = t335 && ((t325 == t336 && (t326 == t337)) && (t327 == t338))) := by simpa using c17))
       clear c17
       exact absurd H (by simp)
     ·rw [if_neg c16] at H
      have c16b0 : (t320 == t331 && ((t321 == t332 && (t322 == t333)) && (t323 == t334))) = false := by simpa using c16
      (try (have c16b1 : decide (t320 = t331 && ((t321 == t332 && (t322 == t333)) && (t323 == t334))) = false := by simpa using c16))
      (try (have c16b2 : (t320 == t331 && ((t321 == t332 && (t322 == t333)) && (t323 == t334))) = false := by simpa using c16))
      (try (have c16b3 : ¬ (t320 = t331 && ((t321 == t332 && (t322 == t333)) && (t323 == t334))) := by simpa using c16))
      clear c16
      exact absurd H (by simp)
    ·rw [if_neg c15] at H
     have c15b0 : (t314 == t318) = false := beq_eq_false_iff_ne.mpr c15
     have c15b1 : (t314 != t318) = true := bne_iff_ne.mpr c15
     exact absurd H (by simp)
   ·rw [if_neg c14] at H
    have c14b0 : (t312 == t316 && (t313 == t317)) = false := by simpa using c14
    (try (have c14b1 : decide (t312 = t316 && (t313 == t317)) = false := by simpa using c14))
    (try (have c14b2 : (t312 == t316 && (t313 == t317)) = false := by simpa using c14))
    (try (have c14b3 : ¬ (t312 = t316 && (t313 == t317)) := by simpa using c14))
    clear c14
    exact absurd H (by simp)
  ·rw [if_neg c13] at H
   have c13b0 : (t343 == t344) = false := beq_eq_false_iff_ne.mpr c13
   have c13b1 : (t343 != t344) = true := bne_iff_ne.mpr c13
   exact absurd H (by simp)
 ·replace c10 := Bool.eq_false_iff.mpr c10
  subst c10
  have H1 : (none) = some r := by rw [if_neg (show ¬ (false = true) by decide)] at H; exact H
  clear H
  have H := H1
  clear H1
  exact absurd H (by simp)

end Go.Proofs.Ytafclgjnomocdaa.Q
