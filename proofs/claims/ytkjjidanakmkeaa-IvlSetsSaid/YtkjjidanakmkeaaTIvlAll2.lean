-- Merged and trimmed by this session's program wip/tools/trim.py.
import Derived.Shelf.RegionOpen
import Derived.Deep.RegionLaw
import Derived.BigQuiet
import Derived.Deep.RegionWith
import Derived.Outline
import Derived.Laws.EntriesVeiled
import Derived.Laws.CopyOwn
import Derived.Test.YtkjjidanakmkeaaTIvlAll1
section
namespace Go.Proofs.Ytkjjidanakmkeaa.Q
open Go.RowKit Go.Proofs.YtkjjidanakmkeaaW.PrintWords Go.Proofs.YtkjjidanakmkeaaW.PrintLast Go.Proofs.YtkjjidanakmkeaaW.PrintMore
attribute [local go_sem] max2_int min2_int max_two min_two max_three min_three max_four min_four   -- for this text's walks alone
set_option linter.unusedVariables false
set_option linter.unusedSimpArgs false
set_option maxHeartbeats 8000000 in
set_option maxRecDepth 100000 in
theorem spoorlaw19_lives.calls (k : Nat)  (r : Bool) (w : World) (h : spoorlaw19_lives.f k  = some r) :
  Calls Try.prog 9 #[] w fun e w' => e = .returned (.bool r) ∧ Below w.heap.size w w' := by
 have hu36 := Try.underlying36
 have HB := Ax (Below.refl w.heap.size w)
 have H : ((ivl_Make.f k (([(⟨5, 7⟩ : S36), (⟨0, 2⟩ : S36), (⟨3, 3⟩ : S36)] : List (S36)))).bind fun bt127 => ((ivl_Not.f k bt127.1 0 9).bind fun bt131 => ((ivl_Or.f k bt127.1 bt131.1).bind fun bt135 => ((ivl_And.f k bt127.1 (([(⟨2, 5⟩ : S36)] : List (S36)))).bind fun bt142 => ((ivl_Has.f k bt127.1 4).bind fun bt146 => ((ivl_Long.f k bt127.1).bind fun bt148 => ((ivl_Make.f k (([(⟨3, 2⟩ : S36)] : List (S36)))).bind fun bt153 => ((spoorref19_Same.f k bt127.1 (([(⟨0, 3⟩ : S36), (⟨5, 7⟩ : S36)] : List (S36)))).bind fun t160 => (if t160 = true then (if bt127.2 = 0 then ((spoorref19_Same.f k bt131.1 (([(⟨4, 4⟩ : S36), (⟨8, 9⟩ : S36)] : List (S36)))).bind fun t164 => (if t164 = true then (if bt131.2 = 0 then ((spoorref19_Same.f k bt135.1 (([(⟨0, 9⟩ : S36)] : List (S36)))).bind fun t168 => (if t168 = true then (if bt135.2 = 0 then ((spoorref19_Same.f k bt142.1 (([(⟨2, 3⟩ : S36), (⟨5, 5⟩ : S36)] : List (S36)))).bind fun t172 => (if t172 = true then (if bt142.2 = 0 then (if bt146.1 = true then (none) else (if bt146.2 = 0 then (if bt148.1 = 7 then (if bt148.2 = 0 then (some (bt153.2 == 2)) else (none)) else (none)) else (none))) else (none)) else (none))) else (none)) else (none))) else (none)) else (none))) else (none)) else (none)))))))))) = some r := h
 clear h
 obtain ⟨y124, hy124⟩ : ∃ y_ : List (S36), y_ = (([(⟨5, 7⟩ : S36), (⟨0, 2⟩ : S36), (⟨3, 3⟩ : S36)] : List (S36))) := ⟨_, rfl⟩
 replace H : ((ivl_Make.f k y124).bind fun bt127 => ((ivl_Not.f k bt127.1 0 9).bind fun bt131 => ((ivl_Or.f k bt127.1 bt131.1).bind fun bt135 => ((ivl_And.f k bt127.1 (([(⟨2, 5⟩ : S36)] : List (S36)))).bind fun bt142 => ((ivl_Has.f k bt127.1 4).bind fun bt146 => ((ivl_Long.f k bt127.1).bind fun bt148 => ((ivl_Make.f k (([(⟨3, 2⟩ : S36)] : List (S36)))).bind fun bt153 => ((spoorref19_Same.f k bt127.1 (([(⟨0, 3⟩ : S36), (⟨5, 7⟩ : S36)] : List (S36)))).bind fun t160 => (if t160 = true then (if bt127.2 = 0 then ((spoorref19_Same.f k bt131.1 (([(⟨4, 4⟩ : S36), (⟨8, 9⟩ : S36)] : List (S36)))).bind fun t164 => (if t164 = true then (if bt131.2 = 0 then ((spoorref19_Same.f k bt135.1 (([(⟨0, 9⟩ : S36)] : List (S36)))).bind fun t168 => (if t168 = true then (if bt135.2 = 0 then ((spoorref19_Same.f k bt142.1 (([(⟨2, 3⟩ : S36), (⟨5, 5⟩ : S36)] : List (S36)))).bind fun t172 => (if t172 = true then (if bt142.2 = 0 then (if bt146.1 = true then (none) else (if bt146.2 = 0 then (if bt148.1 = 7 then (if bt148.2 = 0 then (some (bt153.2 == 2)) else (none)) else (none)) else (none))) else (none)) else (none))) else (none)) else (none))) else (none)) else (none))) else (none)) else (none)))))))))) = some r := by first | (rw [hy124]; with_reducible exact H) | (have H2_ := (Option.bind_some _ _).symm.trans H; rw [hy124]; with_reducible exact H2_) | (have H2_ := (Option.bind_some _ _).symm.trans H; with_reducible exact H2_) | with_reducible exact H | (rw [hy124]; exact H) | exact H
 have Ny124 := Ax hy124
 clear hy124
 replace H := Option.bind_eq_some_iff.mp H
 obtain ⟨⟨t127, t128⟩, A10, H⟩ := H
 replace H : ((ivl_Not.f k t127 0 9).bind fun bt131 => ((ivl_Or.f k t127 bt131.1).bind fun bt135 => ((ivl_And.f k t127 (([(⟨2, 5⟩ : S36)] : List (S36)))).bind fun bt142 => ((ivl_Has.f k t127 4).bind fun bt146 => ((ivl_Long.f k t127).bind fun bt148 => ((ivl_Make.f k (([(⟨3, 2⟩ : S36)] : List (S36)))).bind fun bt153 => ((spoorref19_Same.f k t127 (([(⟨0, 3⟩ : S36), (⟨5, 7⟩ : S36)] : List (S36)))).bind fun t160 => (if t160 = true then (if t128 = 0 then ((spoorref19_Same.f k bt131.1 (([(⟨4, 4⟩ : S36), (⟨8, 9⟩ : S36)] : List (S36)))).bind fun t164 => (if t164 = true then (if bt131.2 = 0 then ((spoorref19_Same.f k bt135.1 (([(⟨0, 9⟩ : S36)] : List (S36)))).bind fun t168 => (if t168 = true then (if bt135.2 = 0 then ((spoorref19_Same.f k bt142.1 (([(⟨2, 3⟩ : S36), (⟨5, 5⟩ : S36)] : List (S36)))).bind fun t172 => (if t172 = true then (if bt142.2 = 0 then (if bt146.1 = true then (none) else (if bt146.2 = 0 then (if bt148.1 = 7 then (if bt148.2 = 0 then (some (bt153.2 == 2)) else (none)) else (none)) else (none))) else (none)) else (none))) else (none)) else (none))) else (none)) else (none))) else (none)) else (none))))))))) = some r := H
 have A1 := Ax A10
 clear A10
 replace H := Option.bind_eq_some_iff.mp H
 obtain ⟨⟨t131, t134⟩, A20, H⟩ := H
 replace H : ((ivl_Or.f k t127 t131).bind fun bt135 => ((ivl_And.f k t127 (([(⟨2, 5⟩ : S36)] : List (S36)))).bind fun bt142 => ((ivl_Has.f k t127 4).bind fun bt146 => ((ivl_Long.f k t127).bind fun bt148 => ((ivl_Make.f k (([(⟨3, 2⟩ : S36)] : List (S36)))).bind fun bt153 => ((spoorref19_Same.f k t127 (([(⟨0, 3⟩ : S36), (⟨5, 7⟩ : S36)] : List (S36)))).bind fun t160 => (if t160 = true then (if t128 = 0 then ((spoorref19_Same.f k t131 (([(⟨4, 4⟩ : S36), (⟨8, 9⟩ : S36)] : List (S36)))).bind fun t164 => (if t164 = true then (if t134 = 0 then ((spoorref19_Same.f k bt135.1 (([(⟨0, 9⟩ : S36)] : List (S36)))).bind fun t168 => (if t168 = true then (if bt135.2 = 0 then ((spoorref19_Same.f k bt142.1 (([(⟨2, 3⟩ : S36), (⟨5, 5⟩ : S36)] : List (S36)))).bind fun t172 => (if t172 = true then (if bt142.2 = 0 then (if bt146.1 = true then (none) else (if bt146.2 = 0 then (if bt148.1 = 7 then (if bt148.2 = 0 then (some (bt153.2 == 2)) else (none)) else (none)) else (none))) else (none)) else (none))) else (none)) else (none))) else (none)) else (none))) else (none)) else (none)))))))) = some r := H
 have A2 := Ax A20
 clear A20
 replace H := Option.bind_eq_some_iff.mp H
 obtain ⟨⟨t135, t136⟩, A30, H⟩ := H
 replace H : ((ivl_And.f k t127 (([(⟨2, 5⟩ : S36)] : List (S36)))).bind fun bt142 => ((ivl_Has.f k t127 4).bind fun bt146 => ((ivl_Long.f k t127).bind fun bt148 => ((ivl_Make.f k (([(⟨3, 2⟩ : S36)] : List (S36)))).bind fun bt153 => ((spoorref19_Same.f k t127 (([(⟨0, 3⟩ : S36), (⟨5, 7⟩ : S36)] : List (S36)))).bind fun t160 => (if t160 = true then (if t128 = 0 then ((spoorref19_Same.f k t131 (([(⟨4, 4⟩ : S36), (⟨8, 9⟩ : S36)] : List (S36)))).bind fun t164 => (if t164 = true then (if t134 = 0 then ((spoorref19_Same.f k t135 (([(⟨0, 9⟩ : S36)] : List (S36)))).bind fun t168 => (if t168 = true then (if t136 = 0 then ((spoorref19_Same.f k bt142.1 (([(⟨2, 3⟩ : S36), (⟨5, 5⟩ : S36)] : List (S36)))).bind fun t172 => (if t172 = true then (if bt142.2 = 0 then (if bt146.1 = true then (none) else (if bt146.2 = 0 then (if bt148.1 = 7 then (if bt148.2 = 0 then (some (bt153.2 == 2)) else (none)) else (none)) else (none))) else (none)) else (none))) else (none)) else (none))) else (none)) else (none))) else (none)) else (none))))))) = some r := H
 have A3 := Ax A30
 clear A30
 obtain ⟨y139, hy139⟩ : ∃ y_ : List (S36), y_ = (([(⟨2, 5⟩ : S36)] : List (S36))) := ⟨_, rfl⟩
 replace H : ((ivl_And.f k t127 y139).bind fun bt142 => ((ivl_Has.f k t127 4).bind fun bt146 => ((ivl_Long.f k t127).bind fun bt148 => ((ivl_Make.f k (([(⟨3, 2⟩ : S36)] : List (S36)))).bind fun bt153 => ((spoorref19_Same.f k t127 (([(⟨0, 3⟩ : S36), (⟨5, 7⟩ : S36)] : List (S36)))).bind fun t160 => (if t160 = true then (if t128 = 0 then ((spoorref19_Same.f k t131 (([(⟨4, 4⟩ : S36), (⟨8, 9⟩ : S36)] : List (S36)))).bind fun t164 => (if t164 = true then (if t134 = 0 then ((spoorref19_Same.f k t135 (([(⟨0, 9⟩ : S36)] : List (S36)))).bind fun t168 => (if t168 = true then (if t136 = 0 then ((spoorref19_Same.f k bt142.1 (([(⟨2, 3⟩ : S36), (⟨5, 5⟩ : S36)] : List (S36)))).bind fun t172 => (if t172 = true then (if bt142.2 = 0 then (if bt146.1 = true then (none) else (if bt146.2 = 0 then (if bt148.1 = 7 then (if bt148.2 = 0 then (some (bt153.2 == 2)) else (none)) else (none)) else (none))) else (none)) else (none))) else (none)) else (none))) else (none)) else (none))) else (none)) else (none))))))) = some r := by first | (rw [hy139]; with_reducible exact H) | (have H2_ := (Option.bind_some _ _).symm.trans H; rw [hy139]; with_reducible exact H2_) | (have H2_ := (Option.bind_some _ _).symm.trans H; with_reducible exact H2_) | with_reducible exact H | (rw [hy139]; exact H) | exact H
 have Ny139 := Ax hy139
 clear hy139
 replace H := Option.bind_eq_some_iff.mp H
 obtain ⟨⟨t142, t143⟩, A40, H⟩ := H
 replace H : ((ivl_Has.f k t127 4).bind fun bt146 => ((ivl_Long.f k t127).bind fun bt148 => ((ivl_Make.f k (([(⟨3, 2⟩ : S36)] : List (S36)))).bind fun bt153 => ((spoorref19_Same.f k t127 (([(⟨0, 3⟩ : S36), (⟨5, 7⟩ : S36)] : List (S36)))).bind fun t160 => (if t160 = true then (if t128 = 0 then ((spoorref19_Same.f k t131 (([(⟨4, 4⟩ : S36), (⟨8, 9⟩ : S36)] : List (S36)))).bind fun t164 => (if t164 = true then (if t134 = 0 then ((spoorref19_Same.f k t135 (([(⟨0, 9⟩ : S36)] : List (S36)))).bind fun t168 => (if t168 = true then (if t136 = 0 then ((spoorref19_Same.f k t142 (([(⟨2, 3⟩ : S36), (⟨5, 5⟩ : S36)] : List (S36)))).bind fun t172 => (if t172 = true then (if t143 = 0 then (if bt146.1 = true then (none) else (if bt146.2 = 0 then (if bt148.1 = 7 then (if bt148.2 = 0 then (some (bt153.2 == 2)) else (none)) else (none)) else (none))) else (none)) else (none))) else (none)) else (none))) else (none)) else (none))) else (none)) else (none)))))) = some r := H
 have A4 := Ax A40
 clear A40
 replace H := Option.bind_eq_some_iff.mp H
 obtain ⟨⟨t146, t147⟩, A50, H⟩ := H
 replace H : ((ivl_Long.f k t127).bind fun bt148 => ((ivl_Make.f k (([(⟨3, 2⟩ : S36)] : List (S36)))).bind fun bt153 => ((spoorref19_Same.f k t127 (([(⟨0, 3⟩ : S36), (⟨5, 7⟩ : S36)] : List (S36)))).bind fun t160 => (if t160 = true then (if t128 = 0 then ((spoorref19_Same.f k t131 (([(⟨4, 4⟩ : S36), (⟨8, 9⟩ : S36)] : List (S36)))).bind fun t164 => (if t164 = true then (if t134 = 0 then ((spoorref19_Same.f k t135 (([(⟨0, 9⟩ : S36)] : List (S36)))).bind fun t168 => (if t168 = true then (if t136 = 0 then ((spoorref19_Same.f k t142 (([(⟨2, 3⟩ : S36), (⟨5, 5⟩ : S36)] : List (S36)))).bind fun t172 => (if t172 = true then (if t143 = 0 then (if t146 = true then (none) else (if t147 = 0 then (if bt148.1 = 7 then (if bt148.2 = 0 then (some (bt153.2 == 2)) else (none)) else (none)) else (none))) else (none)) else (none))) else (none)) else (none))) else (none)) else (none))) else (none)) else (none))))) = some r := H
 have A5 := Ax A50
 clear A50
 replace H := Option.bind_eq_some_iff.mp H
 obtain ⟨⟨t148, t149⟩, A60, H⟩ := H
 replace H : ((ivl_Make.f k (([(⟨3, 2⟩ : S36)] : List (S36)))).bind fun bt153 => ((spoorref19_Same.f k t127 (([(⟨0, 3⟩ : S36), (⟨5, 7⟩ : S36)] : List (S36)))).bind fun t160 => (if t160 = true then (if t128 = 0 then ((spoorref19_Same.f k t131 (([(⟨4, 4⟩ : S36), (⟨8, 9⟩ : S36)] : List (S36)))).bind fun t164 => (if t164 = true then (if t134 = 0 then ((spoorref19_Same.f k t135 (([(⟨0, 9⟩ : S36)] : List (S36)))).bind fun t168 => (if t168 = true then (if t136 = 0 then ((spoorref19_Same.f k t142 (([(⟨2, 3⟩ : S36), (⟨5, 5⟩ : S36)] : List (S36)))).bind fun t172 => (if t172 = true then (if t143 = 0 then (if t146 = true then (none) else (if t147 = 0 then (if t148 = 7 then (if t149 = 0 then (some (bt153.2 == 2)) else (none)) else (none)) else (none))) else (none)) else (none))) else (none)) else (none))) else (none)) else (none))) else (none)) else (none)))) = some r := H
 have A6 := Ax A60
 clear A60
 obtain ⟨y150, hy150⟩ : ∃ y_ : List (S36), y_ = (([(⟨3, 2⟩ : S36)] : List (S36))) := ⟨_, rfl⟩
 replace H : ((ivl_Make.f k y150).bind fun bt153 => ((spoorref19_Same.f k t127 (([(⟨0, 3⟩ : S36), (⟨5, 7⟩ : S36)] : List (S36)))).bind fun t160 => (if t160 = true then (if t128 = 0 then ((spoorref19_Same.f k t131 (([(⟨4, 4⟩ : S36), (⟨8, 9⟩ : S36)] : List (S36)))).bind fun t164 => (if t164 = true then (if t134 = 0 then ((spoorref19_Same.f k t135 (([(⟨0, 9⟩ : S36)] : List (S36)))).bind fun t168 => (if t168 = true then (if t136 = 0 then ((spoorref19_Same.f k t142 (([(⟨2, 3⟩ : S36), (⟨5, 5⟩ : S36)] : List (S36)))).bind fun t172 => (if t172 = true then (if t143 = 0 then (if t146 = true then (none) else (if t147 = 0 then (if t148 = 7 then (if t149 = 0 then (some (bt153.2 == 2)) else (none)) else (none)) else (none))) else (none)) else (none))) else (none)) else (none))) else (none)) else (none))) else (none)) else (none)))) = some r := by first | (rw [hy150]; with_reducible exact H) | (have H2_ := (Option.bind_some _ _).symm.trans H; rw [hy150]; with_reducible exact H2_) | (have H2_ := (Option.bind_some _ _).symm.trans H; with_reducible exact H2_) | with_reducible exact H | (rw [hy150]; exact H) | exact H
 have Ny150 := Ax hy150
 clear hy150
 replace H := Option.bind_eq_some_iff.mp H
 obtain ⟨⟨t153, t154⟩, A70, H⟩ := H
 replace H : ((spoorref19_Same.f k t127 (([(⟨0, 3⟩ : S36), (⟨5, 7⟩ : S36)] : List (S36)))).bind fun t160 => (if t160 = true then (if t128 = 0 then ((spoorref19_Same.f k t131 (([(⟨4, 4⟩ : S36), (⟨8, 9⟩ : S36)] : List (S36)))).bind fun t164 => (if t164 = true then (if t134 = 0 then ((spoorref19_Same.f k t135 (([(⟨0, 9⟩ : S36)] : List (S36)))).bind fun t168 => (if t168 = true then (if t136 = 0 then ((spoorref19_Same.f k t142 (([(⟨2, 3⟩ : S36), (⟨5, 5⟩ : S36)] : List (S36)))).bind fun t172 => (if t172 = true then (if t143 = 0 then (if t146 = true then (none) else (if t147 = 0 then (if t148 = 7 then (if t149 = 0 then (some (t154 == 2)) else (none)) else (none)) else (none))) else (none)) else (none))) else (none)) else (none))) else (none)) else (none))) else (none)) else (none))) = some r := H
 have A7 := Ax A70
 clear A70
 obtain ⟨y157, hy157⟩ : ∃ y_ : List (S36), y_ = (([(⟨0, 3⟩ : S36), (⟨5, 7⟩ : S36)] : List (S36))) := ⟨_, rfl⟩
 replace H : ((spoorref19_Same.f k t127 y157).bind fun t160 => (if t160 = true then (if t128 = 0 then ((spoorref19_Same.f k t131 (([(⟨4, 4⟩ : S36), (⟨8, 9⟩ : S36)] : List (S36)))).bind fun t164 => (if t164 = true then (if t134 = 0 then ((spoorref19_Same.f k t135 (([(⟨0, 9⟩ : S36)] : List (S36)))).bind fun t168 => (if t168 = true then (if t136 = 0 then ((spoorref19_Same.f k t142 (([(⟨2, 3⟩ : S36), (⟨5, 5⟩ : S36)] : List (S36)))).bind fun t172 => (if t172 = true then (if t143 = 0 then (if t146 = true then (none) else (if t147 = 0 then (if t148 = 7 then (if t149 = 0 then (some (t154 == 2)) else (none)) else (none)) else (none))) else (none)) else (none))) else (none)) else (none))) else (none)) else (none))) else (none)) else (none))) = some r := by first | (rw [hy157]; with_reducible exact H) | (have H2_ := (Option.bind_some _ _).symm.trans H; rw [hy157]; with_reducible exact H2_) | (have H2_ := (Option.bind_some _ _).symm.trans H; with_reducible exact H2_) | with_reducible exact H | (rw [hy157]; exact H) | exact H
 have Ny157 := Ax hy157
 clear hy157
 replace H := Option.bind_eq_some_iff.mp H
 obtain ⟨t160, A80, H⟩ := H
 replace H : (if t160 = true then (if t128 = 0 then ((spoorref19_Same.f k t131 (([(⟨4, 4⟩ : S36), (⟨8, 9⟩ : S36)] : List (S36)))).bind fun t164 => (if t164 = true then (if t134 = 0 then ((spoorref19_Same.f k t135 (([(⟨0, 9⟩ : S36)] : List (S36)))).bind fun t168 => (if t168 = true then (if t136 = 0 then ((spoorref19_Same.f k t142 (([(⟨2, 3⟩ : S36), (⟨5, 5⟩ : S36)] : List (S36)))).bind fun t172 => (if t172 = true then (if t143 = 0 then (if t146 = true then (none) else (if t147 = 0 then (if t148 = 7 then (if t149 = 0 then (some (t154 == 2)) else (none)) else (none)) else (none))) else (none)) else (none))) else (none)) else (none))) else (none)) else (none))) else (none)) else (none)) = some r := H
 have A8 := Ax A80
 clear A80
 by_cases c9 : t160 = true
 ·subst c9
  have H1 : (if t128 = 0 then ((spoorref19_Same.f k t131 (([(⟨4, 4⟩ : S36), (⟨8, 9⟩ : S36)] : List (S36)))).bind fun t164 => (if t164 = true then (if t134 = 0 then ((spoorref19_Same.f k t135 (([(⟨0, 9⟩ : S36)] : List (S36)))).bind fun t168 => (if t168 = true then (if t136 = 0 then ((spoorref19_Same.f k t142 (([(⟨2, 3⟩ : S36), (⟨5, 5⟩ : S36)] : List (S36)))).bind fun t172 => (if t172 = true then (if t143 = 0 then (if t146 = true then (none) else (if t147 = 0 then (if t148 = 7 then (if t149 = 0 then (some (t154 == 2)) else (none)) else (none)) else (none))) else (none)) else (none))) else (none)) else (none))) else (none)) else (none))) else (none)) = some r := by rw [if_pos rfl] at H; exact H
  clear H
  have H := H1
  clear H1
  by_cases c10 : t128 = 0
  ·rw [if_pos c10] at H
   have c10b0 : (t128 == 0) = true := beq_iff_eq.mpr c10
   have c10b1 : (t128 != 0) = false := bne_eq_false_iff_eq.mpr c10
   clear c10
   obtain ⟨y161, hy161⟩ : ∃ y_ : List (S36), y_ = (([(⟨4, 4⟩ : S36), (⟨8, 9⟩ : S36)] : List (S36))) := ⟨_, rfl⟩
   replace H : ((spoorref19_Same.f k t131 y161).bind fun t164 => (if t164 = true then (if t134 = 0 then ((spoorref19_Same.f k t135 (([(⟨0, 9⟩ : S36)] : List (S36)))).bind fun t168 => (if t168 = true then (if t136 = 0 then ((spoorref19_Same.f k t142 (([(⟨2, 3⟩ : S36), (⟨5, 5⟩ : S36)] : List (S36)))).bind fun t172 => (if t172 = true then (if t143 = 0 then (if t146 = true then (none) else (if t147 = 0 then (if t148 = 7 then (if t149 = 0 then (some (t154 == 2)) else (none)) else (none)) else (none))) else (none)) else (none))) else (none)) else (none))) else (none)) else (none))) = some r := by first | (rw [hy161]; with_reducible exact H) | (have H2_ := (Option.bind_some _ _).symm.trans H; rw [hy161]; with_reducible exact H2_) | (have H2_ := (Option.bind_some _ _).symm.trans H; with_reducible exact H2_) | with_reducible exact H | (rw [hy161]; exact H) | exact H
   have Ny161 := Ax hy161
   clear hy161
   replace H := Option.bind_eq_some_iff.mp H
   obtain ⟨t164, A110, H⟩ := H
   replace H : (if t164 = true then (if t134 = 0 then ((spoorref19_Same.f k t135 (([(⟨0, 9⟩ : S36)] : List (S36)))).bind fun t168 => (if t168 = true then (if t136 = 0 then ((spoorref19_Same.f k t142 (([(⟨2, 3⟩ : S36), (⟨5, 5⟩ : S36)] : List (S36)))).bind fun t172 => (if t172 = true then (if t143 = 0 then (if t146 = true then (none) else (if t147 = 0 then (if t148 = 7 then (if t149 = 0 then (some (t154 == 2)) else (none)) else (none)) else (none))) else (none)) else (none))) else (none)) else (none))) else (none)) else (none)) = some r := H
   have A11 := Ax A110
   clear A110
   by_cases c12 : t164 = true
   ·subst c12
    have H1 : (if t134 = 0 then ((spoorref19_Same.f k t135 (([(⟨0, 9⟩ : S36)] : List (S36)))).bind fun t168 => (if t168 = true then (if t136 = 0 then ((spoorref19_Same.f k t142 (([(⟨2, 3⟩ : S36), (⟨5, 5⟩ : S36)] : List (S36)))).bind fun t172 => (if t172 = true then (if t143 = 0 then (if t146 = true then (none) else (if t147 = 0 then (if t148 = 7 then (if t149 = 0 then (some (t154 == 2)) else (none)) else (none)) else (none))) else (none)) else (none))) else (none)) else (none))) else (none)) = some r := by rw [if_pos rfl] at H; exact H
    clear H
    have H := H1
    clear H1
    by_cases c13 : t134 = 0
    ·rw [if_pos c13] at H
     have c13b0 : (t134 == 0) = true := beq_iff_eq.mpr c13
     have c13b1 : (t134 != 0) = false := bne_eq_false_iff_eq.mpr c13
     clear c13
     obtain ⟨y165, hy165⟩ : ∃ y_ : List (S36), y_ = (([(⟨0, 9⟩ : S36)] : List (S36))) := ⟨_, rfl⟩
     replace H : ((spoorref19_Same.f k t135 y165).bind fun t168 => (if t168 = true then (if t136 = 0 then ((spoorref19_Same.f k t142 (([(⟨2, 3⟩ : S36), (⟨5, 5⟩ : S36)] : List (S36)))).bind fun t172 => (if t172 = true then (if t143 = 0 then (if t146 = true then (none) else (if t147 = 0 then (if t148 = 7 then (if t149 = 0 then (some (t154 == 2)) else (none)) else (none)) else (none))) else (none)) else (none))) else (none)) else (none))) = some r := by first | (rw [hy165]; with_reducible exact H) | (have H2_ := (Option.bind_some _ _).symm.trans H; rw [hy165]; with_reducible exact H2_) | (have H2_ := (Option.bind_some _ _).symm.trans H; with_reducible exact H2_) | with_reducible exact H | (rw [hy165]; exact H) | exact H
     have Ny165 := Ax hy165
     clear hy165
     replace H := Option.bind_eq_some_iff.mp H
     obtain ⟨t168, A140, H⟩ := H
     replace H : (if t168 = true then (if t136 = 0 then ((spoorref19_Same.f k t142 (([(⟨2, 3⟩ : S36), (⟨5, 5⟩ : S36)] : List (S36)))).bind fun t172 => (if t172 = true then (if t143 = 0 then (if t146 = true then (none) else (if t147 = 0 then (if t148 = 7 then (if t149 = 0 then (some (t154 == 2)) else (none)) else (none)) else (none))) else (none)) else (none))) else (none)) else (none)) = some r := H
     have A14 := Ax A140
     clear A140
     by_cases c15 : t168 = true
     ·subst c15
      have H1 : (if t136 = 0 then ((spoorref19_Same.f k t142 (([(⟨2, 3⟩ : S36), (⟨5, 5⟩ : S36)] : List (S36)))).bind fun t172 => (if t172 = true then (if t143 = 0 then (if t146 = true then (none) else (if t147 = 0 then (if t148 = 7 then (if t149 = 0 then (some (t154 == 2)) else (none)) else (none)) else (none))) else (none)) else (none))) else (none)) = some r := by rw [if_pos rfl] at H; exact H
      clear H
      have H := H1
      clear H1
      by_cases c16 : t136 = 0
      ·rw [if_pos c16] at H
       have c16b0 : (t136 == 0) = true := beq_iff_eq.mpr c16
       have c16b1 : (t136 != 0) = false := bne_eq_false_iff_eq.mpr c16
       clear c16
       obtain ⟨y169, hy169⟩ : ∃ y_ : List (S36), y_ = (([(⟨2, 3⟩ : S36), (⟨5, 5⟩ : S36)] : List (S36))) := ⟨_, rfl⟩
       replace H : ((spoorref19_Same.f k t142 y169).bind fun t172 => (if t172 = true then (if t143 = 0 then (if t146 = true then (none) else (if t147 = 0 then (if t148 = 7 then (if t149 = 0 then (some (t154 == 2)) else (none)) else (none)) else (none))) else (none)) else (none))) = some r := by first | (rw [hy169]; with_reducible exact H) | (have H2_ := (Option.bind_some _ _).symm.trans H; rw [hy169]; with_reducible exact H2_) | (have H2_ := (Option.bind_some _ _).symm.trans H; with_reducible exact H2_) | with_reducible exact H | (rw [hy169]; exact H) | exact H
       have Ny169 := Ax hy169
       clear hy169
       replace H := Option.bind_eq_some_iff.mp H
       obtain ⟨t172, A170, H⟩ := H
       replace H : (if t172 = true then (if t143 = 0 then (if t146 = true then (none) else (if t147 = 0 then (if t148 = 7 then (if t149 = 0 then (some (t154 == 2)) else (none)) else (none)) else (none))) else (none)) else (none)) = some r := H
       have A17 := Ax A170
       clear A170
       by_cases c18 : t172 = true
       ·subst c18
        have H1 : (if t143 = 0 then (if t146 = true then (none) else (if t147 = 0 then (if t148 = 7 then (if t149 = 0 then (some (t154 == 2)) else (none)) else (none)) else (none))) else (none)) = some r := by rw [if_pos rfl] at H; exact H
        clear H
        have H := H1
        clear H1
        by_cases c19 : t143 = 0
        ·rw [if_pos c19] at H
         have c19b0 : (t143 == 0) = true := beq_iff_eq.mpr c19
         have c19b1 : (t143 != 0) = false := bne_eq_false_iff_eq.mpr c19
         clear c19
         by_cases c20 : t146 = true
         ·subst c20
          have H1 : (none) = some r := by rw [if_pos rfl] at H; exact H
          clear H
          have H := H1
          clear H1
          exact absurd H (by simp)
         ·replace c20 := Bool.eq_false_iff.mpr c20
          subst c20
          have H1 : (if t147 = 0 then (if t148 = 7 then (if t149 = 0 then (some (t154 == 2)) else (none)) else (none)) else (none)) = some r := by rw [if_neg (show ¬ (false = true) by decide)] at H; exact H
          clear H
          have H := H1
          clear H1
          by_cases c21 : t147 = 0
          ·rw [if_pos c21] at H
           have c21b0 : (t147 == 0) = true := beq_iff_eq.mpr c21
           have c21b1 : (t147 != 0) = false := bne_eq_false_iff_eq.mpr c21
           clear c21
           by_cases c22 : t148 = 7
           ·rw [if_pos c22] at H
            have c22b0 : (t148 == 7) = true := beq_iff_eq.mpr c22
            have c22b1 : (t148 != 7) = false := bne_eq_false_iff_eq.mpr c22
            clear c22
            by_cases c23 : t149 = 0
            ·rw [if_pos c23] at H
             have c23b0 : (t149 == 0) = true := beq_iff_eq.mpr c23
             have c23b1 : (t149 != 0) = false := bne_eq_false_iff_eq.mpr c23
             clear c23
             obtain rfl := Option.some.inj H
             go_enter Try.func9, Try.ntmps9
             try simp only [List.append_eq, List.cons_append, List.nil_append]
             go_wp2_with (first | ((with_reducible refine gate_dst (N := 19) rfl ?_); refine R_litg k36 _ 36 ?hg (N := 19) ?hd (xs := ([(⟨5, 7⟩ : S36), (⟨0, 2⟩ : S36), (⟨3, 3⟩ : S36)] : List (S36))) (inner := [.int .i64 5, .int .i64 7, .int .i64 0, .int .i64 2, .int .i64 3, .int .i64 3]) (ok := fun _ => True) (okp := fun _ => True) ?hr ?hp (fun _ hk => hk) trivial (Below.refl _ _) (Nat.le_refl _) (by simp) ?_; (case hd => rfl); (case hg => first | exact Or.inl rfl | exact Or.inr rfl); (case hr => first | (go_simp; done) | (go_simp; rfl)); (case hp => exact (Reps.c2 (show Kd.M k36 _ _ _ (⟨5, 7⟩ : S36) [.int .i64 5, .int .i64 7] from (k36_mkM _ _ _ (⟨5, 7⟩ : S36) )) (Reps.c2 (show Kd.M k36 _ _ _ (⟨0, 2⟩ : S36) [.int .i64 0, .int .i64 2] from (k36_mkM _ _ _ (⟨0, 2⟩ : S36) )) (Reps.c2 (show Kd.M k36 _ _ _ (⟨3, 3⟩ : S36) [.int .i64 3, .int .i64 3] from (k36_mkM _ _ _ (⟨3, 3⟩ : S36) )) (Reps.none _ _))))); intro v125 w24 ho25 hb hg_ hnew_; clear hg_ hnew_; (first | rw [← Ny124.out] at ho25 | (simp only [Int.reduceToNat] at ho25; rw [← Ny124.out] at ho25)); have HO126 := Ax (Kd.R_lower ho25 (below_size (bw0 HB.out))); replace HB := Bs0 HB hb; clear hb ho25; obtain ⟨Ao26, co26, eo26⟩ := Kd.R_slice HO126.out; subst eo26) | ((with_reducible refine gate_callee (f := 10) rfl ?_); refine goesL_ (some 20) rfl rfl Try.func10 (by kernel_rfl) rfl #[.slice Ao26 y124.length co26] rfl gS ?_; (with_reducible refine (ivl_Make.calls k _ _ y124 t127 t128 _ ?side1 ?side2 A1.out).mono ?_); (case side1 => repeat (first | exact (Kd.R_reads' HO126.out).2.2 | (with_reducible refine Kd.C_alloc ?_ _) | (with_reducible refine Kd.C_drewN ?_ _) | (with_reducible refine Kd.C_drew ?_))); (case side2 => exact (Kd.R_reads' HO126.out).2.1); rintro e w27 ⟨v129, rfl, ho0, hb⟩; refine ⟨_, rfl, ?_⟩; have n0_ := Ax (Kd.R_elder' (by (with_reducible repeat (first | apply Kd.R_alloc | apply Kd.R_drewN | apply Kd.R_drew)); exact HO126.out) (Kd.R_base ho0) hb); have n1_ := Ax (Kd.R_lower (Kd.R_new' ho0 (Kd.R_lt (by (with_reducible repeat (first | apply Kd.R_alloc | apply Kd.R_drewN | apply Kd.R_drew)); exact HO126.out))) (below_size (bw0 HB.out))); have n2_ := Bs0 HB hb; clear HO126; clear HB; have HO126 := n0_; have HO130 := n1_; have HB := n2_; clear n0_ n1_ n2_; (try clear hb); (try clear ho0); obtain ⟨Ao28, co28, eo28⟩ := Kd.R_slice HO130.out; subst eo28) | ((with_reducible refine gate_callee (f := 23) rfl ?_); refine goesL_ (some 26) rfl rfl Try.func23 (by kernel_rfl) rfl #[.slice Ao28 t127.length co28, .agg #[.int .i64 0, .int .i64 9]] rfl gS ?_; (with_reducible refine (ivl_Not.calls k _ _ t127 0 9 t131 t134 _ ?side1 ?side2 A2.out).mono ?_); (case side1 => repeat (first | exact (Kd.R_reads' HO130.out).2.2 | (with_reducible refine Kd.C_alloc ?_ _) | (with_reducible refine Kd.C_drewN ?_ _) | (with_reducible refine Kd.C_drew ?_))); (case side2 => exact (Kd.R_reads' HO130.out).2.1); rintro e w29 ⟨v132, rfl, ho0, hb⟩; refine ⟨_, rfl, ?_⟩; have n0_ := Ax (Kd.R_elder' (by (with_reducible repeat (first | apply Kd.R_alloc | apply Kd.R_drewN | apply Kd.R_drew)); exact HO126.out) (Kd.R_base ho0) hb); have n1_ := Ax (Kd.R_elder' (by (with_reducible repeat (first | apply Kd.R_alloc | apply Kd.R_drewN | apply Kd.R_drew)); exact HO130.out) (Kd.R_base ho0) hb); have n2_ := Ax (Kd.R_lower (Kd.R_new' (Kd.R_new' ho0 (Kd.R_lt (by (with_reducible repeat (first | apply Kd.R_alloc | apply Kd.R_drewN | apply Kd.R_drew)); exact HO126.out))) (Kd.R_lt (by (with_reducible repeat (first | apply Kd.R_alloc | apply Kd.R_drewN | apply Kd.R_drew)); exact HO130.out))) (below_size (bw0 HB.out))); have n3_ := Bs0 HB hb; clear HO126; clear HO130; clear HB; have HO126 := n0_; have HO130 := n1_; have HO133 := n2_; have HB := n3_; clear n0_ n1_ n2_ n3_; (try clear hb); (try clear ho0); obtain ⟨Ao30, co30, eo30⟩ := Kd.R_slice HO133.out; subst eo30) | ((with_reducible refine gate_callee (f := 19) rfl ?_); refine goesL_ (some 32) rfl rfl Try.func19 (by kernel_rfl) rfl #[.slice Ao28 t127.length co28, .slice Ao30 t131.length co30] rfl gS ?_; (with_reducible refine (ivl_Or.calls k _ _ t127 _ _ t131 t135 t136 _ ?side1 ?side2 ?side3 ?side4 A3.out).mono ?_); (case side1 => repeat (first | exact (Kd.R_reads' HO130.out).2.2 | (with_reducible refine Kd.C_alloc ?_ _) | (with_reducible refine Kd.C_drewN ?_ _) | (with_reducible refine Kd.C_drew ?_))); (case side2 => exact (Kd.R_reads' HO130.out).2.1); (case side3 => repeat (first | exact (Kd.R_reads' HO133.out).2.2 | (with_reducible refine Kd.C_alloc ?_ _) | (with_reducible refine Kd.C_drewN ?_ _) | (with_reducible refine Kd.C_drew ?_))); (case side4 => exact (Kd.R_reads' HO133.out).2.1); rintro e w31 ⟨v137, rfl, ho0, hb⟩; refine ⟨_, rfl, ?_⟩; have n0_ := Ax (Kd.R_elder' (by (with_reducible repeat (first | apply Kd.R_alloc | apply Kd.R_drewN | apply Kd.R_drew)); exact HO126.out) (Kd.R_base ho0) hb); have n1_ := Ax (Kd.R_elder' (by (with_reducible repeat (first | apply Kd.R_alloc | apply Kd.R_drewN | apply Kd.R_drew)); exact HO130.out) (Kd.R_base ho0) hb); have n2_ := Ax (Kd.R_elder' (by (with_reducible repeat (first | apply Kd.R_alloc | apply Kd.R_drewN | apply Kd.R_drew)); exact HO133.out) (Kd.R_base ho0) hb); have n3_ := Ax (Kd.R_lower (Kd.R_new' (Kd.R_new' (Kd.R_new' ho0 (Kd.R_lt (by (with_reducible repeat (first | apply Kd.R_alloc | apply Kd.R_drewN | apply Kd.R_drew)); exact HO126.out))) (Kd.R_lt (by (with_reducible repeat (first | apply Kd.R_alloc | apply Kd.R_drewN | apply Kd.R_drew)); exact HO130.out))) (Kd.R_lt (by (with_reducible repeat (first | apply Kd.R_alloc | apply Kd.R_drewN | apply Kd.R_drew)); exact HO133.out))) (below_size (bw0 HB.out))); have n4_ := Bs0 HB hb; clear HO126; clear HO130; clear HO133; clear HB; have HO126 := n0_; have HO130 := n1_; have HO133 := n2_; have HO138 := n3_; have HB := n4_; clear n0_ n1_ n2_ n3_ n4_; (try clear hb); (try clear ho0)) | ((with_reducible refine gate_dst (N := 38) rfl ?_); refine R_litg k36 _ 36 ?hg (N := 38) ?hd (xs := ([(⟨2, 5⟩ : S36)] : List (S36))) (inner := [.int .i64 2, .int .i64 5]) (ok := fun _ => True) (okp := fun _ => True) ?hr ?hp (fun _ hk => hk) trivial (Below.refl _ _) (Nat.le_refl _) (by simp) ?_; (case hd => rfl); (case hg => first | exact Or.inl rfl | exact Or.inr rfl); (case hr => first | (go_simp; done) | (go_simp; rfl)); (case hp => exact (Reps.c2 (show Kd.M k36 _ _ _ (⟨2, 5⟩ : S36) [.int .i64 2, .int .i64 5] from (k36_mkM _ _ _ (⟨2, 5⟩ : S36) )) (Reps.none _ _))); intro v140 w32 ho33 hb hg_ hnew_; clear hg_ hnew_; (first | rw [← Ny139.out] at ho33 | (simp only [Int.reduceToNat] at ho33; rw [← Ny139.out] at ho33)); have n0_ := Ax (Kd.R_elder' (by (with_reducible repeat (first | apply Kd.R_alloc | apply Kd.R_drewN | apply Kd.R_drew)); exact HO126.out) (Kd.R_base ho33) hb); have n1_ := Ax (Kd.R_elder' (by (with_reducible repeat (first | apply Kd.R_alloc | apply Kd.R_drewN | apply Kd.R_drew)); exact HO130.out) (Kd.R_base ho33) hb); have n2_ := Ax (Kd.R_elder' (by (with_reducible repeat (first | apply Kd.R_alloc | apply Kd.R_drewN | apply Kd.R_drew)); exact HO133.out) (Kd.R_base ho33) hb); have n3_ := Ax (Kd.R_elder' (by (with_reducible repeat (first | apply Kd.R_alloc | apply Kd.R_drewN | apply Kd.R_drew)); exact HO138.out) (Kd.R_base ho33) hb); have n4_ := Ax (Kd.R_lower (Kd.R_new' (Kd.R_new' (Kd.R_new' (Kd.R_new' ho33 (Kd.R_lt (by (with_reducible repeat (first | apply Kd.R_alloc | apply Kd.R_drewN | apply Kd.R_drew)); exact HO126.out))) (Kd.R_lt (by (with_reducible repeat (first | apply Kd.R_alloc | apply Kd.R_drewN | apply Kd.R_drew)); exact HO130.out))) (Kd.R_lt (by (with_reducible repeat (first | apply Kd.R_alloc | apply Kd.R_drewN | apply Kd.R_drew)); exact HO133.out))) (Kd.R_lt (by (with_reducible repeat (first | apply Kd.R_alloc | apply Kd.R_drewN | apply Kd.R_drew)); exact HO138.out))) (below_size (bw0 HB.out))); have n5_ := Bs0 HB hb; clear HO126; clear HO130; clear HO133; clear HO138; clear HB; have HO126 := n0_; have HO130 := n1_; have HO133 := n2_; have HO138 := n3_; have HO141 := n4_; have HB := n5_; clear n0_ n1_ n2_ n3_ n4_ n5_; clear hb ho33; obtain ⟨Ao34, co34, eo34⟩ := Kd.R_slice HO141.out; subst eo34) | ((with_reducible refine gate_callee (f := 21) rfl ?_); refine goesL_ (some 39) rfl rfl Try.func21 (by kernel_rfl) rfl #[.slice Ao28 t127.length co28, .slice Ao34 y139.length co34] rfl gS ?_; (with_reducible refine (ivl_And.calls k _ _ t127 _ _ y139 t142 t143 _ ?side1 ?side2 ?side3 ?side4 A4.out).mono ?_); (case side1 => repeat (first | exact (Kd.R_reads' HO130.out).2.2 | (with_reducible refine Kd.C_alloc ?_ _) | (with_reducible refine Kd.C_drewN ?_ _) | (with_reducible refine Kd.C_drew ?_))); (case side2 => exact (Kd.R_reads' HO130.out).2.1); (case side3 => repeat (first | exact (Kd.R_reads' HO141.out).2.2 | (with_reducible refine Kd.C_alloc ?_ _) | (with_reducible refine Kd.C_drewN ?_ _) | (with_reducible refine Kd.C_drew ?_))); (case side4 => exact (Kd.R_reads' HO141.out).2.1); rintro e w35 ⟨v144, rfl, ho0, hb⟩; refine ⟨_, rfl, ?_⟩; have n0_ := Ax (Kd.R_elder' (by (with_reducible repeat (first | apply Kd.R_alloc | apply Kd.R_drewN | apply Kd.R_drew)); exact HO126.out) (Kd.R_base ho0) hb); have n1_ := Ax (Kd.R_elder' (by (with_reducible repeat (first | apply Kd.R_alloc | apply Kd.R_drewN | apply Kd.R_drew)); exact HO130.out) (Kd.R_base ho0) hb); have n2_ := Ax (Kd.R_elder' (by (with_reducible repeat (first | apply Kd.R_alloc | apply Kd.R_drewN | apply Kd.R_drew)); exact HO133.out) (Kd.R_base ho0) hb); have n3_ := Ax (Kd.R_elder' (by (with_reducible repeat (first | apply Kd.R_alloc | apply Kd.R_drewN | apply Kd.R_drew)); exact HO138.out) (Kd.R_base ho0) hb); have n4_ := Ax (Kd.R_elder' (by (with_reducible repeat (first | apply Kd.R_alloc | apply Kd.R_drewN | apply Kd.R_drew)); exact HO141.out) (Kd.R_base ho0) hb); have n5_ := Ax (Kd.R_lower (Kd.R_new' (Kd.R_new' (Kd.R_new' (Kd.R_new' (Kd.R_new' ho0 (Kd.R_lt (by (with_reducible repeat (first | apply Kd.R_alloc | apply Kd.R_drewN | apply Kd.R_drew)); exact HO126.out))) (Kd.R_lt (by (with_reducible repeat (first | apply Kd.R_alloc | apply Kd.R_drewN | apply Kd.R_drew)); exact HO130.out))) (Kd.R_lt (by (with_reducible repeat (first | apply Kd.R_alloc | apply Kd.R_drewN | apply Kd.R_drew)); exact HO133.out))) (Kd.R_lt (by (with_reducible repeat (first | apply Kd.R_alloc | apply Kd.R_drewN | apply Kd.R_drew)); exact HO138.out))) (Kd.R_lt (by (with_reducible repeat (first | apply Kd.R_alloc | apply Kd.R_drewN | apply Kd.R_drew)); exact HO141.out))) (below_size (bw0 HB.out))); have n6_ := Bs0 HB hb; clear HO126; clear HO130; clear HO133; clear HO138; clear HO141; clear HB; have HO126 := n0_; have HO130 := n1_; have HO133 := n2_; have HO138 := n3_; have HO141 := n4_; have HO145 := n5_; have HB := n6_; clear n0_ n1_ n2_ n3_ n4_ n5_ n6_; (try clear hb); (try clear ho0)) | ((with_reducible refine gate_callee (f := 12) rfl ?_); refine goesL_ (some 44) rfl rfl Try.func12 (by kernel_rfl) rfl #[.slice Ao28 t127.length co28, .int .i64 4] rfl gS ?_; (with_reducible refine (ivl_Has.calls k _ _ t127 4 false t147 _ ?side1 ?side2 A5.out).mono ?_); (case side1 => repeat (first | exact (Kd.R_reads' HO130.out).2.2 | (with_reducible refine Kd.C_alloc ?_ _) | (with_reducible refine Kd.C_drewN ?_ _) | (with_reducible refine Kd.C_drew ?_))); (case side2 => exact (Kd.R_reads' HO130.out).2.1); rintro e w36 ⟨rfl, hb⟩; refine ⟨_, rfl, ?_⟩; have n0_ := Ax (Kd.R_below (by (with_reducible repeat (first | apply Kd.R_alloc | apply Kd.R_drewN | apply Kd.R_drew)); exact HO126.out) hb); have n1_ := Ax (Kd.R_below (by (with_reducible repeat (first | apply Kd.R_alloc | apply Kd.R_drewN | apply Kd.R_drew)); exact HO130.out) hb); have n2_ := Ax (Kd.R_below (by (with_reducible repeat (first | apply Kd.R_alloc | apply Kd.R_drewN | apply Kd.R_drew)); exact HO133.out) hb); have n3_ := Ax (Kd.R_below (by (with_reducible repeat (first | apply Kd.R_alloc | apply Kd.R_drewN | apply Kd.R_drew)); exact HO138.out) hb); have n4_ := Ax (Kd.R_below (by (with_reducible repeat (first | apply Kd.R_alloc | apply Kd.R_drewN | apply Kd.R_drew)); exact HO141.out) hb); have n5_ := Ax (Kd.R_below (by (with_reducible repeat (first | apply Kd.R_alloc | apply Kd.R_drewN | apply Kd.R_drew)); exact HO145.out) hb); have n6_ := Bs0 HB hb; clear HO126; clear HO130; clear HO133; clear HO138; clear HO141; clear HO145; clear HB; have HO126 := n0_; have HO130 := n1_; have HO133 := n2_; have HO138 := n3_; have HO141 := n4_; have HO145 := n5_; have HB := n6_; clear n0_ n1_ n2_ n3_ n4_ n5_ n6_; (try clear hb)) | ((with_reducible refine gate_callee (f := 14) rfl ?_); refine goesL_ (some 49) rfl rfl Try.func14 (by kernel_rfl) rfl #[.slice Ao28 t127.length co28] rfl gS ?_; (with_reducible refine (ivl_Long.calls k _ _ t127 t148 t149 _ ?side1 ?side2 A6.out).mono ?_); (case side1 => repeat (first | exact (Kd.R_reads' HO130.out).2.2 | (with_reducible refine Kd.C_alloc ?_ _) | (with_reducible refine Kd.C_drewN ?_ _) | (with_reducible refine Kd.C_drew ?_))); (case side2 => exact (Kd.R_reads' HO130.out).2.1); rintro e w37 ⟨rfl, hb⟩; refine ⟨_, rfl, ?_⟩; have n0_ := Ax (Kd.R_below (by (with_reducible repeat (first | apply Kd.R_alloc | apply Kd.R_drewN | apply Kd.R_drew)); exact HO126.out) hb); have n1_ := Ax (Kd.R_below (by (with_reducible repeat (first | apply Kd.R_alloc | apply Kd.R_drewN | apply Kd.R_drew)); exact HO130.out) hb); have n2_ := Ax (Kd.R_below (by (with_reducible repeat (first | apply Kd.R_alloc | apply Kd.R_drewN | apply Kd.R_drew)); exact HO133.out) hb); have n3_ := Ax (Kd.R_below (by (with_reducible repeat (first | apply Kd.R_alloc | apply Kd.R_drewN | apply Kd.R_drew)); exact HO138.out) hb); have n4_ := Ax (Kd.R_below (by (with_reducible repeat (first | apply Kd.R_alloc | apply Kd.R_drewN | apply Kd.R_drew)); exact HO141.out) hb); have n5_ := Ax (Kd.R_below (by (with_reducible repeat (first | apply Kd.R_alloc | apply Kd.R_drewN | apply Kd.R_drew)); exact HO145.out) hb); have n6_ := Bs0 HB hb; clear HO126; clear HO130; clear HO133; clear HO138; clear HO141; clear HO145; clear HB; have HO126 := n0_; have HO130 := n1_; have HO133 := n2_; have HO138 := n3_; have HO141 := n4_; have HO145 := n5_; have HB := n6_; clear n0_ n1_ n2_ n3_ n4_ n5_ n6_; (try clear hb)) | ((with_reducible refine gate_dst (N := 54) rfl ?_); refine R_litg k36 _ 36 ?hg (N := 54) ?hd (xs := ([(⟨3, 2⟩ : S36)] : List (S36))) (inner := [.int .i64 3, .int .i64 2]) (ok := fun _ => True) (okp := fun _ => True) ?hr ?hp (fun _ hk => hk) trivial (Below.refl _ _) (Nat.le_refl _) (by simp) ?_; (case hd => rfl); (case hg => first | exact Or.inl rfl | exact Or.inr rfl); (case hr => first | (go_simp; done) | (go_simp; rfl)); (case hp => exact (Reps.c2 (show Kd.M k36 _ _ _ (⟨3, 2⟩ : S36) [.int .i64 3, .int .i64 2] from (k36_mkM _ _ _ (⟨3, 2⟩ : S36) )) (Reps.none _ _))); intro v151 w38 ho39 hb hg_ hnew_; clear hg_ hnew_; (first | rw [← Ny150.out] at ho39 | (simp only [Int.reduceToNat] at ho39; rw [← Ny150.out] at ho39)); have n0_ := Ax (Kd.R_elder' (by (with_reducible repeat (first | apply Kd.R_alloc | apply Kd.R_drewN | apply Kd.R_drew)); exact HO126.out) (Kd.R_base ho39) hb); have n1_ := Ax (Kd.R_elder' (by (with_reducible repeat (first | apply Kd.R_alloc | apply Kd.R_drewN | apply Kd.R_drew)); exact HO130.out) (Kd.R_base ho39) hb); have n2_ := Ax (Kd.R_elder' (by (with_reducible repeat (first | apply Kd.R_alloc | apply Kd.R_drewN | apply Kd.R_drew)); exact HO133.out) (Kd.R_base ho39) hb); have n3_ := Ax (Kd.R_elder' (by (with_reducible repeat (first | apply Kd.R_alloc | apply Kd.R_drewN | apply Kd.R_drew)); exact HO138.out) (Kd.R_base ho39) hb); have n4_ := Ax (Kd.R_elder' (by (with_reducible repeat (first | apply Kd.R_alloc | apply Kd.R_drewN | apply Kd.R_drew)); exact HO141.out) (Kd.R_base ho39) hb); have n5_ := Ax (Kd.R_elder' (by (with_reducible repeat (first | apply Kd.R_alloc | apply Kd.R_drewN | apply Kd.R_drew)); exact HO145.out) (Kd.R_base ho39) hb); have n6_ := Ax (Kd.R_lower (Kd.R_new' (Kd.R_new' (Kd.R_new' (Kd.R_new' (Kd.R_new' (Kd.R_new' ho39 (Kd.R_lt (by (with_reducible repeat (first | apply Kd.R_alloc | apply Kd.R_drewN | apply Kd.R_drew)); exact HO126.out))) (Kd.R_lt (by (with_reducible repeat (first | apply Kd.R_alloc | apply Kd.R_drewN | apply Kd.R_drew)); exact HO130.out))) (Kd.R_lt (by (with_reducible repeat (first | apply Kd.R_alloc | apply Kd.R_drewN | apply Kd.R_drew)); exact HO133.out))) (Kd.R_lt (by (with_reducible repeat (first | apply Kd.R_alloc | apply Kd.R_drewN | apply Kd.R_drew)); exact HO138.out))) (Kd.R_lt (by (with_reducible repeat (first | apply Kd.R_alloc | apply Kd.R_drewN | apply Kd.R_drew)); exact HO141.out))) (Kd.R_lt (by (with_reducible repeat (first | apply Kd.R_alloc | apply Kd.R_drewN | apply Kd.R_drew)); exact HO145.out))) (below_size (bw0 HB.out))); have n7_ := Bs0 HB hb; clear HO126; clear HO130; clear HO133; clear HO138; clear HO141; clear HO145; clear HB; have HO126 := n0_; have HO130 := n1_; have HO133 := n2_; have HO138 := n3_; have HO141 := n4_; have HO145 := n5_; have HO152 := n6_; have HB := n7_; clear n0_ n1_ n2_ n3_ n4_ n5_ n6_ n7_; clear hb ho39; obtain ⟨Ao40, co40, eo40⟩ := Kd.R_slice HO152.out; subst eo40) | ((with_reducible refine gate_callee (f := 10) rfl ?_); refine goesL_ (some 55) rfl rfl Try.func10 (by kernel_rfl) rfl #[.slice Ao40 y150.length co40] rfl gS ?_; (with_reducible refine (ivl_Make.calls k _ _ y150 t153 t154 _ ?side1 ?side2 A7.out).mono ?_); (case side1 => repeat (first | exact (Kd.R_reads' HO152.out).2.2 | (with_reducible refine Kd.C_alloc ?_ _) | (with_reducible refine Kd.C_drewN ?_ _) | (with_reducible refine Kd.C_drew ?_))); (case side2 => exact (Kd.R_reads' HO152.out).2.1); rintro e w41 ⟨v155, rfl, ho0, hb⟩; refine ⟨_, rfl, ?_⟩; have n0_ := Ax (Kd.R_elder' (by (with_reducible repeat (first | apply Kd.R_alloc | apply Kd.R_drewN | apply Kd.R_drew)); exact HO126.out) (Kd.R_base ho0) hb); have n1_ := Ax (Kd.R_elder' (by (with_reducible repeat (first | apply Kd.R_alloc | apply Kd.R_drewN | apply Kd.R_drew)); exact HO130.out) (Kd.R_base ho0) hb); have n2_ := Ax (Kd.R_elder' (by (with_reducible repeat (first | apply Kd.R_alloc | apply Kd.R_drewN | apply Kd.R_drew)); exact HO133.out) (Kd.R_base ho0) hb); have n3_ := Ax (Kd.R_elder' (by (with_reducible repeat (first | apply Kd.R_alloc | apply Kd.R_drewN | apply Kd.R_drew)); exact HO138.out) (Kd.R_base ho0) hb); have n4_ := Ax (Kd.R_elder' (by (with_reducible repeat (first | apply Kd.R_alloc | apply Kd.R_drewN | apply Kd.R_drew)); exact HO141.out) (Kd.R_base ho0) hb); have n5_ := Ax (Kd.R_elder' (by (with_reducible repeat (first | apply Kd.R_alloc | apply Kd.R_drewN | apply Kd.R_drew)); exact HO145.out) (Kd.R_base ho0) hb); have n6_ := Ax (Kd.R_elder' (by (with_reducible repeat (first | apply Kd.R_alloc | apply Kd.R_drewN | apply Kd.R_drew)); exact HO152.out) (Kd.R_base ho0) hb); have n7_ := Ax (Kd.R_lower (Kd.R_new' (Kd.R_new' (Kd.R_new' (Kd.R_new' (Kd.R_new' (Kd.R_new' (Kd.R_new' ho0 (Kd.R_lt (by (with_reducible repeat (first | apply Kd.R_alloc | apply Kd.R_drewN | apply Kd.R_drew)); exact HO126.out))) (Kd.R_lt (by (with_reducible repeat (first | apply Kd.R_alloc | apply Kd.R_drewN | apply Kd.R_drew)); exact HO130.out))) (Kd.R_lt (by (with_reducible repeat (first | apply Kd.R_alloc | apply Kd.R_drewN | apply Kd.R_drew)); exact HO133.out))) (Kd.R_lt (by (with_reducible repeat (first | apply Kd.R_alloc | apply Kd.R_drewN | apply Kd.R_drew)); exact HO138.out))) (Kd.R_lt (by (with_reducible repeat (first | apply Kd.R_alloc | apply Kd.R_drewN | apply Kd.R_drew)); exact HO141.out))) (Kd.R_lt (by (with_reducible repeat (first | apply Kd.R_alloc | apply Kd.R_drewN | apply Kd.R_drew)); exact HO145.out))) (Kd.R_lt (by (with_reducible repeat (first | apply Kd.R_alloc | apply Kd.R_drewN | apply Kd.R_drew)); exact HO152.out))) (below_size (bw0 HB.out))); have n8_ := Bs0 HB hb; clear HO126; clear HO130; clear HO133; clear HO138; clear HO141; clear HO145; clear HO152; clear HB; have HO126 := n0_; have HO130 := n1_; have HO133 := n2_; have HO138 := n3_; have HO141 := n4_; have HO145 := n5_; have HO152 := n6_; have HO156 := n7_; have HB := n8_; clear n0_ n1_ n2_ n3_ n4_ n5_ n6_ n7_ n8_; (try clear hb); (try clear ho0)) | ((with_reducible refine gate_dst (N := 61) rfl ?_); refine R_litg k36 _ 36 ?hg (N := 61) ?hd (xs := ([(⟨0, 3⟩ : S36), (⟨5, 7⟩ : S36)] : List (S36))) (inner := [.int .i64 0, .int .i64 3, .int .i64 5, .int .i64 7]) (ok := fun _ => True) (okp := fun _ => True) ?hr ?hp (fun _ hk => hk) trivial (Below.refl _ _) (Nat.le_refl _) (by simp) ?_; (case hd => rfl); (case hg => first | exact Or.inl rfl | exact Or.inr rfl); (case hr => first | (go_simp; done) | (go_simp; rfl)); (case hp => exact (Reps.c2 (show Kd.M k36 _ _ _ (⟨0, 3⟩ : S36) [.int .i64 0, .int .i64 3] from (k36_mkM _ _ _ (⟨0, 3⟩ : S36) )) (Reps.c2 (show Kd.M k36 _ _ _ (⟨5, 7⟩ : S36) [.int .i64 5, .int .i64 7] from (k36_mkM _ _ _ (⟨5, 7⟩ : S36) )) (Reps.none _ _)))); intro v158 w42 ho43 hb hg_ hnew_; clear hg_ hnew_; (first | rw [← Ny157.out] at ho43 | (simp only [Int.reduceToNat] at ho43; rw [← Ny157.out] at ho43)); have n0_ := Ax (Kd.R_elder' (by (with_reducible repeat (first | apply Kd.R_alloc | apply Kd.R_drewN | apply Kd.R_drew)); exact HO126.out) (Kd.R_base ho43) hb); have n1_ := Ax (Kd.R_elder' (by (with_reducible repeat (first | apply Kd.R_alloc | apply Kd.R_drewN | apply Kd.R_drew)); exact HO130.out) (Kd.R_base ho43) hb); have n2_ := Ax (Kd.R_elder' (by (with_reducible repeat (first | apply Kd.R_alloc | apply Kd.R_drewN | apply Kd.R_drew)); exact HO133.out) (Kd.R_base ho43) hb); have n3_ := Ax (Kd.R_elder' (by (with_reducible repeat (first | apply Kd.R_alloc | apply Kd.R_drewN | apply Kd.R_drew)); exact HO138.out) (Kd.R_base ho43) hb); have n4_ := Ax (Kd.R_elder' (by (with_reducible repeat (first | apply Kd.R_alloc | apply Kd.R_drewN | apply Kd.R_drew)); exact HO141.out) (Kd.R_base ho43) hb); have n5_ := Ax (Kd.R_elder' (by (with_reducible repeat (first | apply Kd.R_alloc | apply Kd.R_drewN | apply Kd.R_drew)); exact HO145.out) (Kd.R_base ho43) hb); have n6_ := Ax (Kd.R_elder' (by (with_reducible repeat (first | apply Kd.R_alloc | apply Kd.R_drewN | apply Kd.R_drew)); exact HO152.out) (Kd.R_base ho43) hb); have n7_ := Ax (Kd.R_elder' (by (with_reducible repeat (first | apply Kd.R_alloc | apply Kd.R_drewN | apply Kd.R_drew)); exact HO156.out) (Kd.R_base ho43) hb); have n8_ := Ax (Kd.R_lower (Kd.R_new' (Kd.R_new' (Kd.R_new' (Kd.R_new' (Kd.R_new' (Kd.R_new' (Kd.R_new' (Kd.R_new' ho43 (Kd.R_lt (by (with_reducible repeat (first | apply Kd.R_alloc | apply Kd.R_drewN | apply Kd.R_drew)); exact HO126.out))) (Kd.R_lt (by (with_reducible repeat (first | apply Kd.R_alloc | apply Kd.R_drewN | apply Kd.R_drew)); exact HO130.out))) (Kd.R_lt (by (with_reducible repeat (first | apply Kd.R_alloc | apply Kd.R_drewN | apply Kd.R_drew)); exact HO133.out))) (Kd.R_lt (by (with_reducible repeat (first | apply Kd.R_alloc | apply Kd.R_drewN | apply Kd.R_drew)); exact HO138.out))) (Kd.R_lt (by (with_reducible repeat (first | apply Kd.R_alloc | apply Kd.R_drewN | apply Kd.R_drew)); exact HO141.out))) (Kd.R_lt (by (with_reducible repeat (first | apply Kd.R_alloc | apply Kd.R_drewN | apply Kd.R_drew)); exact HO145.out))) (Kd.R_lt (by (with_reducible repeat (first | apply Kd.R_alloc | apply Kd.R_drewN | apply Kd.R_drew)); exact HO152.out))) (Kd.R_lt (by (with_reducible repeat (first | apply Kd.R_alloc | apply Kd.R_drewN | apply Kd.R_drew)); exact HO156.out))) (below_size (bw0 HB.out))); have n9_ := Bs0 HB hb; clear HO126; clear HO130; clear HO133; clear HO138; clear HO141; clear HO145; clear HO152; clear HO156; clear HB; have HO126 := n0_; have HO130 := n1_; have HO133 := n2_; have HO138 := n3_; have HO141 := n4_; have HO145 := n5_; have HO152 := n6_; have HO156 := n7_; have HO159 := n8_; have HB := n9_; clear n0_ n1_ n2_ n3_ n4_ n5_ n6_ n7_ n8_ n9_; clear hb ho43; obtain ⟨Ao44, co44, eo44⟩ := Kd.R_slice HO159.out; subst eo44) | ((with_reducible refine gate_callee (f := 16) rfl ?_); refine goesL_ (some 62) rfl rfl Try.func16 (by kernel_rfl) rfl #[.slice Ao28 t127.length co28, .slice Ao44 y157.length co44] rfl gS ?_; (with_reducible refine (spoorref19_Same.calls k _ _ t127 _ _ y157 true _ ?side1 ?side2 ?side3 ?side4 A8.out).mono ?_); (case side1 => repeat (first | exact (Kd.R_reads' HO130.out).2.2 | (with_reducible refine Kd.C_alloc ?_ _) | (with_reducible refine Kd.C_drewN ?_ _) | (with_reducible refine Kd.C_drew ?_))); (case side2 => exact (Kd.R_reads' HO130.out).2.1); (case side3 => repeat (first | exact (Kd.R_reads' HO159.out).2.2 | (with_reducible refine Kd.C_alloc ?_ _) | (with_reducible refine Kd.C_drewN ?_ _) | (with_reducible refine Kd.C_drew ?_))); (case side4 => exact (Kd.R_reads' HO159.out).2.1); rintro e w' ⟨rfl, ⟨nd, rfl⟩⟩; refine ⟨_, rfl, ?_⟩) | ((with_reducible refine gate_dst (N := 71) rfl ?_); refine R_litg k36 _ 36 ?hg (N := 71) ?hd (xs := ([(⟨4, 4⟩ : S36), (⟨8, 9⟩ : S36)] : List (S36))) (inner := [.int .i64 4, .int .i64 4, .int .i64 8, .int .i64 9]) (ok := fun _ => True) (okp := fun _ => True) ?hr ?hp (fun _ hk => hk) trivial (Below.refl _ _) (Nat.le_refl _) (by simp) ?_; (case hd => rfl); (case hg => first | exact Or.inl rfl | exact Or.inr rfl); (case hr => first | (go_simp; done) | (go_simp; rfl)); (case hp => exact (Reps.c2 (show Kd.M k36 _ _ _ (⟨4, 4⟩ : S36) [.int .i64 4, .int .i64 4] from (k36_mkM _ _ _ (⟨4, 4⟩ : S36) )) (Reps.c2 (show Kd.M k36 _ _ _ (⟨8, 9⟩ : S36) [.int .i64 8, .int .i64 9] from (k36_mkM _ _ _ (⟨8, 9⟩ : S36) )) (Reps.none _ _)))); intro v162 w45 ho46 hb hg_ hnew_; clear hg_ hnew_; (first | rw [← Ny161.out] at ho46 | (simp only [Int.reduceToNat] at ho46; rw [← Ny161.out] at ho46)); have n0_ := Ax (Kd.R_elder' (by (with_reducible repeat (first | apply Kd.R_alloc | apply Kd.R_drewN | apply Kd.R_drew)); exact HO126.out) (Kd.R_base ho46) hb); have n1_ := Ax (Kd.R_elder' (by (with_reducible repeat (first | apply Kd.R_alloc | apply Kd.R_drewN | apply Kd.R_drew)); exact HO130.out) (Kd.R_base ho46) hb); have n2_ := Ax (Kd.R_elder' (by (with_reducible repeat (first | apply Kd.R_alloc | apply Kd.R_drewN | apply Kd.R_drew)); exact HO133.out) (Kd.R_base ho46) hb); have n3_ := Ax (Kd.R_elder' (by (with_reducible repeat (first | apply Kd.R_alloc | apply Kd.R_drewN | apply Kd.R_drew)); exact HO138.out) (Kd.R_base ho46) hb); have n4_ := Ax (Kd.R_elder' (by (with_reducible repeat (first | apply Kd.R_alloc | apply Kd.R_drewN | apply Kd.R_drew)); exact HO141.out) (Kd.R_base ho46) hb); have n5_ := Ax (Kd.R_elder' (by (with_reducible repeat (first | apply Kd.R_alloc | apply Kd.R_drewN | apply Kd.R_drew)); exact HO145.out) (Kd.R_base ho46) hb); have n6_ := Ax (Kd.R_elder' (by (with_reducible repeat (first | apply Kd.R_alloc | apply Kd.R_drewN | apply Kd.R_drew)); exact HO152.out) (Kd.R_base ho46) hb); have n7_ := Ax (Kd.R_elder' (by (with_reducible repeat (first | apply Kd.R_alloc | apply Kd.R_drewN | apply Kd.R_drew)); exact HO156.out) (Kd.R_base ho46) hb); have n8_ := Ax (Kd.R_elder' (by (with_reducible repeat (first | apply Kd.R_alloc | apply Kd.R_drewN | apply Kd.R_drew)); exact HO159.out) (Kd.R_base ho46) hb); have n9_ := Ax (Kd.R_lower (Kd.R_new' (Kd.R_new' (Kd.R_new' (Kd.R_new' (Kd.R_new' (Kd.R_new' (Kd.R_new' (Kd.R_new' (Kd.R_new' ho46 (Kd.R_lt (by (with_reducible repeat (first | apply Kd.R_alloc | apply Kd.R_drewN | apply Kd.R_drew)); exact HO126.out))) (Kd.R_lt (by (with_reducible repeat (first | apply Kd.R_alloc | apply Kd.R_drewN | apply Kd.R_drew)); exact HO130.out))) (Kd.R_lt (by (with_reducible repeat (first | apply Kd.R_alloc | apply Kd.R_drewN | apply Kd.R_drew)); exact HO133.out))) (Kd.R_lt (by (with_reducible repeat (first | apply Kd.R_alloc | apply Kd.R_drewN | apply Kd.R_drew)); exact HO138.out))) (Kd.R_lt (by (with_reducible repeat (first | apply Kd.R_alloc | apply Kd.R_drewN | apply Kd.R_drew)); exact HO141.out))) (Kd.R_lt (by (with_reducible repeat (first | apply Kd.R_alloc | apply Kd.R_drewN | apply Kd.R_drew)); exact HO145.out))) (Kd.R_lt (by (with_reducible repeat (first | apply Kd.R_alloc | apply Kd.R_drewN | apply Kd.R_drew)); exact HO152.out))) (Kd.R_lt (by (with_reducible repeat (first | apply Kd.R_alloc | apply Kd.R_drewN | apply Kd.R_drew)); exact HO156.out))) (Kd.R_lt (by (with_reducible repeat (first | apply Kd.R_alloc | apply Kd.R_drewN | apply Kd.R_drew)); exact HO159.out))) (below_size (bw0 HB.out))); have n10_ := Bs0 HB hb; clear HO126; clear HO130; clear HO133; clear HO138; clear HO141; clear HO145; clear HO152; clear HO156; clear HO159; clear HB; have HO126 := n0_; have HO130 := n1_; have HO133 := n2_; have HO138 := n3_; have HO141 := n4_; have HO145 := n5_; have HO152 := n6_; have HO156 := n7_; have HO159 := n8_; have HO163 := n9_; have HB := n10_; clear n0_ n1_ n2_ n3_ n4_ n5_ n6_ n7_ n8_ n9_ n10_; clear hb ho46; obtain ⟨Ao47, co47, eo47⟩ := Kd.R_slice HO163.out; subst eo47) | (go_at_call 16; (with_reducible refine (spoorref19_Same.calls k _ _ t131 _ _ y161 true _ ?side1 ?side2 ?side3 ?side4 A11.out).mono ?_); (case side1 => repeat (first | exact (Kd.R_reads' HO133.out).2.2 | (with_reducible refine Kd.C_alloc ?_ _) | (with_reducible refine Kd.C_drewN ?_ _) | (with_reducible refine Kd.C_drew ?_))); (case side2 => exact (Kd.R_reads' HO133.out).2.1); (case side3 => repeat (first | exact (Kd.R_reads' HO163.out).2.2 | (with_reducible refine Kd.C_alloc ?_ _) | (with_reducible refine Kd.C_drewN ?_ _) | (with_reducible refine Kd.C_drew ?_))); (case side4 => exact (Kd.R_reads' HO163.out).2.1); rintro e w' ⟨rfl, ⟨nd, rfl⟩⟩) | ((with_reducible refine gate_dst (N := 81) rfl ?_); refine R_litg k36 _ 36 ?hg (N := 81) ?hd (xs := ([(⟨0, 9⟩ : S36)] : List (S36))) (inner := [.int .i64 0, .int .i64 9]) (ok := fun _ => True) (okp := fun _ => True) ?hr ?hp (fun _ hk => hk) trivial (Below.refl _ _) (Nat.le_refl _) (by simp) ?_; (case hd => rfl); (case hg => first | exact Or.inl rfl | exact Or.inr rfl); (case hr => first | (go_simp; done) | (go_simp; rfl)); (case hp => exact (Reps.c2 (show Kd.M k36 _ _ _ (⟨0, 9⟩ : S36) [.int .i64 0, .int .i64 9] from (k36_mkM _ _ _ (⟨0, 9⟩ : S36) )) (Reps.none _ _))); intro v166 w48 ho49 hb hg_ hnew_; clear hg_ hnew_; (first | rw [← Ny165.out] at ho49 | (simp only [Int.reduceToNat] at ho49; rw [← Ny165.out] at ho49)); have n0_ := Ax (Kd.R_elder' (by (with_reducible repeat (first | apply Kd.R_alloc | apply Kd.R_drewN | apply Kd.R_drew)); exact HO126.out) (Kd.R_base ho49) hb); have n1_ := Ax (Kd.R_elder' (by (with_reducible repeat (first | apply Kd.R_alloc | apply Kd.R_drewN | apply Kd.R_drew)); exact HO130.out) (Kd.R_base ho49) hb); have n2_ := Ax (Kd.R_elder' (by (with_reducible repeat (first | apply Kd.R_alloc | apply Kd.R_drewN | apply Kd.R_drew)); exact HO133.out) (Kd.R_base ho49) hb); have n3_ := Ax (Kd.R_elder' (by (with_reducible repeat (first | apply Kd.R_alloc | apply Kd.R_drewN | apply Kd.R_drew)); exact HO138.out) (Kd.R_base ho49) hb); have n4_ := Ax (Kd.R_elder' (by (with_reducible repeat (first | apply Kd.R_alloc | apply Kd.R_drewN | apply Kd.R_drew)); exact HO141.out) (Kd.R_base ho49) hb); have n5_ := Ax (Kd.R_elder' (by (with_reducible repeat (first | apply Kd.R_alloc | apply Kd.R_drewN | apply Kd.R_drew)); exact HO145.out) (Kd.R_base ho49) hb); have n6_ := Ax (Kd.R_elder' (by (with_reducible repeat (first | apply Kd.R_alloc | apply Kd.R_drewN | apply Kd.R_drew)); exact HO152.out) (Kd.R_base ho49) hb); have n7_ := Ax (Kd.R_elder' (by (with_reducible repeat (first | apply Kd.R_alloc | apply Kd.R_drewN | apply Kd.R_drew)); exact HO156.out) (Kd.R_base ho49) hb); have n8_ := Ax (Kd.R_elder' (by (with_reducible repeat (first | apply Kd.R_alloc | apply Kd.R_drewN | apply Kd.R_drew)); exact HO159.out) (Kd.R_base ho49) hb); have n9_ := Ax (Kd.R_elder' (by (with_reducible repeat (first | apply Kd.R_alloc | apply Kd.R_drewN | apply Kd.R_drew)); exact HO163.out) (Kd.R_base ho49) hb); have n10_ := Ax (Kd.R_lower (Kd.R_new' (Kd.R_new' (Kd.R_new' (Kd.R_new' (Kd.R_new' (Kd.R_new' (Kd.R_new' (Kd.R_new' (Kd.R_new' (Kd.R_new' ho49 (Kd.R_lt (by (with_reducible repeat (first | apply Kd.R_alloc | apply Kd.R_drewN | apply Kd.R_drew)); exact HO126.out))) (Kd.R_lt (by (with_reducible repeat (first | apply Kd.R_alloc | apply Kd.R_drewN | apply Kd.R_drew)); exact HO130.out))) (Kd.R_lt (by (with_reducible repeat (first | apply Kd.R_alloc | apply Kd.R_drewN | apply Kd.R_drew)); exact HO133.out))) (Kd.R_lt (by (with_reducible repeat (first | apply Kd.R_alloc | apply Kd.R_drewN | apply Kd.R_drew)); exact HO138.out))) (Kd.R_lt (by (with_reducible repeat (first | apply Kd.R_alloc | apply Kd.R_drewN | apply Kd.R_drew)); exact HO141.out))) (Kd.R_lt (by (with_reducible repeat (first | apply Kd.R_alloc | apply Kd.R_drewN | apply Kd.R_drew)); exact HO145.out))) (Kd.R_lt (by (with_reducible repeat (first | apply Kd.R_alloc | apply Kd.R_drewN | apply Kd.R_drew)); exact HO152.out))) (Kd.R_lt (by (with_reducible repeat (first | apply Kd.R_alloc | apply Kd.R_drewN | apply Kd.R_drew)); exact HO156.out))) (Kd.R_lt (by (with_reducible repeat (first | apply Kd.R_alloc | apply Kd.R_drewN | apply Kd.R_drew)); exact HO159.out))) (Kd.R_lt (by (with_reducible repeat (first | apply Kd.R_alloc | apply Kd.R_drewN | apply Kd.R_drew)); exact HO163.out))) (below_size (bw0 HB.out))); have n11_ := Bs0 HB hb; clear HO126; clear HO130; clear HO133; clear HO138; clear HO141; clear HO145; clear HO152; clear HO156; clear HO159; clear HO163; clear HB; have HO126 := n0_; have HO130 := n1_; have HO133 := n2_; have HO138 := n3_; have HO141 := n4_; have HO145 := n5_; have HO152 := n6_; have HO156 := n7_; have HO159 := n8_; have HO163 := n9_; have HO167 := n10_; have HB := n11_; clear n0_ n1_ n2_ n3_ n4_ n5_ n6_ n7_ n8_ n9_ n10_ n11_; clear hb ho49; obtain ⟨Ao50, co50, eo50⟩ := Kd.R_slice HO138.out; subst eo50; obtain ⟨Ao51, co51, eo51⟩ := Kd.R_slice HO167.out; subst eo51) | (go_at_call 16; (with_reducible refine (spoorref19_Same.calls k _ _ t135 _ _ y165 true _ ?side1 ?side2 ?side3 ?side4 A14.out).mono ?_); (case side1 => repeat (first | exact (Kd.R_reads' HO138.out).2.2 | (with_reducible refine Kd.C_alloc ?_ _) | (with_reducible refine Kd.C_drewN ?_ _) | (with_reducible refine Kd.C_drew ?_))); (case side2 => exact (Kd.R_reads' HO138.out).2.1); (case side3 => repeat (first | exact (Kd.R_reads' HO167.out).2.2 | (with_reducible refine Kd.C_alloc ?_ _) | (with_reducible refine Kd.C_drewN ?_ _) | (with_reducible refine Kd.C_drew ?_))); (case side4 => exact (Kd.R_reads' HO167.out).2.1); rintro e w' ⟨rfl, ⟨nd, rfl⟩⟩) | ((with_reducible refine gate_dst (N := 92) rfl ?_); refine R_litg k36 _ 36 ?hg (N := 92) ?hd (xs := ([(⟨2, 3⟩ : S36), (⟨5, 5⟩ : S36)] : List (S36))) (inner := [.int .i64 2, .int .i64 3, .int .i64 5, .int .i64 5]) (ok := fun _ => True) (okp := fun _ => True) ?hr ?hp (fun _ hk => hk) trivial (Below.refl _ _) (Nat.le_refl _) (by simp) ?_; (case hd => rfl); (case hg => first | exact Or.inl rfl | exact Or.inr rfl); (case hr => first | (go_simp; done) | (go_simp; rfl)); (case hp => exact (Reps.c2 (show Kd.M k36 _ _ _ (⟨2, 3⟩ : S36) [.int .i64 2, .int .i64 3] from (k36_mkM _ _ _ (⟨2, 3⟩ : S36) )) (Reps.c2 (show Kd.M k36 _ _ _ (⟨5, 5⟩ : S36) [.int .i64 5, .int .i64 5] from (k36_mkM _ _ _ (⟨5, 5⟩ : S36) )) (Reps.none _ _)))); intro v170 w52 ho53 hb hg_ hnew_; clear hg_ hnew_; (first | rw [← Ny169.out] at ho53 | (simp only [Int.reduceToNat] at ho53; rw [← Ny169.out] at ho53)); have n0_ := Ax (Kd.R_elder' (by (with_reducible repeat (first | apply Kd.R_alloc | apply Kd.R_drewN | apply Kd.R_drew)); exact HO126.out) (Kd.R_base ho53) hb); have n1_ := Ax (Kd.R_elder' (by (with_reducible repeat (first | apply Kd.R_alloc | apply Kd.R_drewN | apply Kd.R_drew)); exact HO130.out) (Kd.R_base ho53) hb); have n2_ := Ax (Kd.R_elder' (by (with_reducible repeat (first | apply Kd.R_alloc | apply Kd.R_drewN | apply Kd.R_drew)); exact HO133.out) (Kd.R_base ho53) hb); have n3_ := Ax (Kd.R_elder' (by (with_reducible repeat (first | apply Kd.R_alloc | apply Kd.R_drewN | apply Kd.R_drew)); exact HO138.out) (Kd.R_base ho53) hb); have n4_ := Ax (Kd.R_elder' (by (with_reducible repeat (first | apply Kd.R_alloc | apply Kd.R_drewN | apply Kd.R_drew)); exact HO141.out) (Kd.R_base ho53) hb); have n5_ := Ax (Kd.R_elder' (by (with_reducible repeat (first | apply Kd.R_alloc | apply Kd.R_drewN | apply Kd.R_drew)); exact HO145.out) (Kd.R_base ho53) hb); have n6_ := Ax (Kd.R_elder' (by (with_reducible repeat (first | apply Kd.R_alloc | apply Kd.R_drewN | apply Kd.R_drew)); exact HO152.out) (Kd.R_base ho53) hb); have n7_ := Ax (Kd.R_elder' (by (with_reducible repeat (first | apply Kd.R_alloc | apply Kd.R_drewN | apply Kd.R_drew)); exact HO156.out) (Kd.R_base ho53) hb); have n8_ := Ax (Kd.R_elder' (by (with_reducible repeat (first | apply Kd.R_alloc | apply Kd.R_drewN | apply Kd.R_drew)); exact HO159.out) (Kd.R_base ho53) hb); have n9_ := Ax (Kd.R_elder' (by (with_reducible repeat (first | apply Kd.R_alloc | apply Kd.R_drewN | apply Kd.R_drew)); exact HO163.out) (Kd.R_base ho53) hb); have n10_ := Ax (Kd.R_elder' (by (with_reducible repeat (first | apply Kd.R_alloc | apply Kd.R_drewN | apply Kd.R_drew)); exact HO167.out) (Kd.R_base ho53) hb); have n11_ := Ax (Kd.R_lower (Kd.R_new' (Kd.R_new' (Kd.R_new' (Kd.R_new' (Kd.R_new' (Kd.R_new' (Kd.R_new' (Kd.R_new' (Kd.R_new' (Kd.R_new' (Kd.R_new' ho53 (Kd.R_lt (by (with_reducible repeat (first | apply Kd.R_alloc | apply Kd.R_drewN | apply Kd.R_drew)); exact HO126.out))) (Kd.R_lt (by (with_reducible repeat (first | apply Kd.R_alloc | apply Kd.R_drewN | apply Kd.R_drew)); exact HO130.out))) (Kd.R_lt (by (with_reducible repeat (first | apply Kd.R_alloc | apply Kd.R_drewN | apply Kd.R_drew)); exact HO133.out))) (Kd.R_lt (by (with_reducible repeat (first | apply Kd.R_alloc | apply Kd.R_drewN | apply Kd.R_drew)); exact HO138.out))) (Kd.R_lt (by (with_reducible repeat (first | apply Kd.R_alloc | apply Kd.R_drewN | apply Kd.R_drew)); exact HO141.out))) (Kd.R_lt (by (with_reducible repeat (first | apply Kd.R_alloc | apply Kd.R_drewN | apply Kd.R_drew)); exact HO145.out))) (Kd.R_lt (by (with_reducible repeat (first | apply Kd.R_alloc | apply Kd.R_drewN | apply Kd.R_drew)); exact HO152.out))) (Kd.R_lt (by (with_reducible repeat (first | apply Kd.R_alloc | apply Kd.R_drewN | apply Kd.R_drew)); exact HO156.out))) (Kd.R_lt (by (with_reducible repeat (first | apply Kd.R_alloc | apply Kd.R_drewN | apply Kd.R_drew)); exact HO159.out))) (Kd.R_lt (by (with_reducible repeat (first | apply Kd.R_alloc | apply Kd.R_drewN | apply Kd.R_drew)); exact HO163.out))) (Kd.R_lt (by (with_reducible repeat (first | apply Kd.R_alloc | apply Kd.R_drewN | apply Kd.R_drew)); exact HO167.out))) (below_size (bw0 HB.out))); have n12_ := Bs0 HB hb; clear HO126; clear HO130; clear HO133; clear HO138; clear HO141; clear HO145; clear HO152; clear HO156; clear HO159; clear HO163; clear HO167; clear HB; have HO126 := n0_; have HO130 := n1_; have HO133 := n2_; have HO138 := n3_; have HO141 := n4_; have HO145 := n5_; have HO152 := n6_; have HO156 := n7_; have HO159 := n8_; have HO163 := n9_; have HO167 := n10_; have HO171 := n11_; have HB := n12_; clear n0_ n1_ n2_ n3_ n4_ n5_ n6_ n7_ n8_ n9_ n10_ n11_ n12_; clear hb ho53; obtain ⟨Ao54, co54, eo54⟩ := Kd.R_slice HO145.out; subst eo54; obtain ⟨Ao55, co55, eo55⟩ := Kd.R_slice HO171.out; subst eo55) | (go_at_call 16; (with_reducible refine (spoorref19_Same.calls k _ _ t142 _ _ y169 true _ ?side1 ?side2 ?side3 ?side4 A17.out).mono ?_); (case side1 => repeat (first | exact (Kd.R_reads' HO145.out).2.2 | (with_reducible refine Kd.C_alloc ?_ _) | (with_reducible refine Kd.C_drewN ?_ _) | (with_reducible refine Kd.C_drew ?_))); (case side2 => exact (Kd.R_reads' HO145.out).2.1); (case side3 => repeat (first | exact (Kd.R_reads' HO171.out).2.2 | (with_reducible refine Kd.C_alloc ?_ _) | (with_reducible refine Kd.C_drewN ?_ _) | (with_reducible refine Kd.C_drew ?_))); (case side4 => exact (Kd.R_reads' HO171.out).2.1); rintro e w' ⟨rfl, ⟨nd, rfl⟩⟩))
             go_ret
             exact ⟨eS, bw0 HB.out⟩
            ·rw [if_neg c23] at H
             exact absurd H (by simp)
           ·rw [if_neg c22] at H
            exact absurd H (by simp)
          ·rw [if_neg c21] at H
           exact absurd H (by simp)
        ·rw [if_neg c19] at H
         exact absurd H (by simp)
       ·replace c18 := Bool.eq_false_iff.mpr c18
        subst c18
        have H1 : (none) = some r := by rw [if_neg (show ¬ (false = true) by decide)] at H; exact H
        clear H
        have H := H1
        clear H1
        exact absurd H (by simp)
      ·rw [if_neg c16] at H
       exact absurd H (by simp)
     ·replace c15 := Bool.eq_false_iff.mpr c15
      subst c15
      have H1 : (none) = some r := by rw [if_neg (show ¬ (false = true) by decide)] at H; exact H
      clear H
      have H := H1
      clear H1
      exact absurd H (by simp)
    ·rw [if_neg c13] at H
     exact absurd H (by simp)
   ·replace c12 := Bool.eq_false_iff.mpr c12
    subst c12
    have H1 : (none) = some r := by rw [if_neg (show ¬ (false = true) by decide)] at H; exact H
    clear H
    have H := H1
    clear H1
    exact absurd H (by simp)
  ·rw [if_neg c10] at H
   exact absurd H (by simp)
 ·replace c9 := Bool.eq_false_iff.mpr c9
  subst c9
  have H1 : (none) = some r := by rw [if_neg (show ¬ (false = true) by decide)] at H; exact H
  clear H
  have H := H1
  clear H1
  exact absurd H (by simp)
def spoorref19_One.f (a0_0 : Int) (a0_1 : Int) : Option (Bool) := if a0_0 ≥ 0 then (if a0_0 ≤ a0_1 then (some (decide (a0_1 ≤ 1099511627776))) else (some false)) else (some false)
set_option maxHeartbeats 8000000 in
set_option maxRecDepth 100000 in
theorem spoorref19_One.calls (a0_0 : Int) (a0_1 : Int) (r : Bool) (w : World) (h : spoorref19_One.f a0_0 a0_1 = some r) :
  Calls Try.prog 32 #[.agg #[.int .i64 a0_0, .int .i64 a0_1]] w fun e w' => e = .returned (.bool r) ∧ Below w.heap.size w w' := by
 have hu36 := Try.underlying36
 have HB := Ax (Below.refl w.heap.size w)
 have H : (if a0_0 ≥ 0 then (if a0_0 ≤ a0_1 then (some (decide (a0_1 ≤ 1099511627776))) else (some false)) else (some false)) = some r := h
 clear h
 by_cases c2 : a0_0 ≥ 0
 ·rw [if_pos c2] at H
  have c2b0 : decide (0 ≤ a0_0) = true := decide_eq_true c2
  clear c2
  by_cases c3 : a0_0 ≤ a0_1
  ·rw [if_pos c3] at H
   have c3b0 : decide (a0_0 ≤ a0_1) = true := decide_eq_true c3
   clear c3
   obtain rfl := Option.some.inj H
   go_enter Try.func32, Try.ntmps32
   go_wp2_with (first | ((with_reducible refine gate_dst (N := 1) rfl ?_); refine box_event ?hg (N := 1) ?hd (cs := #[.int .i64 a0_0, .int .i64 a0_1]) (t := 36) ?hr ?_; (case hd => rfl); (case hg => rfl); (case hr => first | (go_simp; done) | (go_simp; rfl)); intro gb173 hg w4 hbox hb; have n0_ := Bs0 HB hb; have n1_ := Ax (hbox); have n2_ := Gw0 HB hg; have n3_ := Gw0 HB hg; clear HB; have HB := n0_; have BK173 := n1_; have GW173 := n2_; have GE173 := n3_; clear n0_ n1_ n2_ n3_; clear hb hbox hg; obtain ⟨hcz5_0, hcz5_1, hfz5_0, hfz5_1⟩ := cl2 BK173))
   go_ret
   exact ⟨eS, bw1 HB.out GE173.out⟩
  ·rw [if_neg c3] at H
   have c3b0 : decide (a0_0 ≤ a0_1) = false := decide_eq_false c3
   clear c3
   obtain rfl := Option.some.inj H
   go_enter Try.func32, Try.ntmps32
   go_wp2_with (first | ((with_reducible refine gate_dst (N := 1) rfl ?_); refine box_event ?hg (N := 1) ?hd (cs := #[.int .i64 a0_0, .int .i64 a0_1]) (t := 36) ?hr ?_; (case hd => rfl); (case hg => rfl); (case hr => first | (go_simp; done) | (go_simp; rfl)); intro gb173 hg w6 hbox hb; have n0_ := Bs0 HB hb; have n1_ := Ax (hbox); have n2_ := Gw0 HB hg; have n3_ := Gw0 HB hg; clear HB; have HB := n0_; have BK173 := n1_; have GW173 := n2_; have GE173 := n3_; clear n0_ n1_ n2_ n3_; clear hb hbox hg; obtain ⟨hcz7_0, hcz7_1, hfz7_0, hfz7_1⟩ := cl2 BK173))
   go_ret
   exact ⟨eS, bw1 HB.out GE173.out⟩
 ·rw [if_neg c2] at H
  have c2b0 : decide (0 ≤ a0_0) = false := decide_eq_false c2
  clear c2
  obtain rfl := Option.some.inj H
  go_enter Try.func32, Try.ntmps32
  go_wp2_with (first | ((with_reducible refine gate_dst (N := 1) rfl ?_); refine box_event ?hg (N := 1) ?hd (cs := #[.int .i64 a0_0, .int .i64 a0_1]) (t := 36) ?hr ?_; (case hd => rfl); (case hg => rfl); (case hr => first | (go_simp; done) | (go_simp; rfl)); intro gb173 hg w8 hbox hb; have n0_ := Bs0 HB hb; have n1_ := Ax (hbox); have n2_ := Gw0 HB hg; have n3_ := Gw0 HB hg; clear HB; have HB := n0_; have BK173 := n1_; have GW173 := n2_; have GE173 := n3_; clear n0_ n1_ n2_ n3_; clear hb hbox hg; obtain ⟨hcz9_0, hcz9_1, hfz9_0, hfz9_1⟩ := cl2 BK173))
  go_ret
  exact ⟨eS, bw1 HB.out GE173.out⟩
def spoorref19_in.l0 : Nat → Int → List (S36) → Int → Int → Option (Bool)
 | 0, _, _, _, _ => none
 | k + 1, x1, x7, x8, x9 => if x9 < x8 then (if 0 ≤ x9 then (if x9 < (x7.length : Int) then (if ((rd_T36 x7 x9).f0) ≤ x1 then (if x1 ≤ ((rd_T36 x7 x9).f1) then (some true) else (spoorref19_in.l0 k x1 x7 x8 (wrap64 (x9 + 1)))) else (spoorref19_in.l0 k x1 x7 x8 (wrap64 (x9 + 1)))) else (none)) else (none)) else (some false)
def spoorref19_in.f (k : Nat) (l0 : List (S36)) (a1 : Int) : Option (Bool) := spoorref19_in.l0 k a1 l0 (l0.length : Int) 0
set_option maxHeartbeats 8000000 in
set_option maxRecDepth 100000 in
theorem spoorref19_in.calls (k : Nat) (A0 : Option Addr) (c0 : Nat) (l0 : List (S36)) (a1 : Int) (r : Bool) (w : World) (hr0 : Kd.C k36 w A0 l0.length l0) (hc0 : l0.length ≤ c0) (h : spoorref19_in.f k l0 a1 = some r) :
  Calls Try.prog 35 #[.slice A0 l0.length c0, .int .i64 a1] w fun e w' => e = .returned (.bool r) ∧ Below w.heap.size w w' := by
 have hu36 := Try.underlying36
 have HR0 := Ax hr0
 have HC0 := Ax hc0
 clear hr0 hc0
 have HB := Ax (Below.refl w.heap.size w)
 have H : (spoorref19_in.l0 k a1 l0 (l0.length : Int) 0) = some r := h
 clear h
 have H' := Ax H
 clear H
 go_enter Try.func35, Try.ntmps35
 go_wp2
 go_loopg [9] k (fun kq v9 w' => ∃ (x9_1 : Int), v9 = .int .i64 x9_1 ∧ Aside0 (spoorref19_in.l0 kq a1 l0 (l0.length : Int) x9_1 = some r) ∧ Aside0 (kq ≤ k) ∧ Aside0 (Below w.heap.size w w'))
 case atStart => exact ⟨(0), rS, H', ⟨Nat.le_refl _⟩, ⟨bw0 HB.out⟩⟩
 case round =>
  clear H'
  try clear p2
  obtain ⟨x9_1, rfl, HA, HK1, HB⟩ := hrel
  cases gk with
  | zero => exact absurd HA.out (by simp [spoorref19_in.l0])
  | succ k1 =>
   have H := HA.out
   clear HA
   simp only [spoorref19_in.l0] at H
   by_cases c3 : x9_1 < (l0.length : Int)
   ·rw [if_pos c3] at H
    have c3b0 : decide (x9_1 < (l0.length : Int)) = true := decide_eq_true c3
    clear c3
    by_cases c4 : 0 ≤ x9_1
    ·rw [if_pos c4] at H
     have c4b0 : decide (0 ≤ x9_1) = true := decide_eq_true c4
     clear c4
     by_cases c5 : x9_1 < (l0.length : Int)
     ·rw [if_pos c5] at H
      have c5b0 : decide (x9_1 < (l0.length : Int)) = true := decide_eq_true c5
      clear c5
      by_cases c6 : ((rd_T36 l0 x9_1).f0) ≤ a1
      ·rw [if_pos c6] at H
       have c6b0 : decide (((rd_T36 l0 x9_1).f0) ≤ a1) = true := decide_eq_true c6
       clear c6
       by_cases c7 : a1 ≤ ((rd_T36 l0 x9_1).f1)
       ·rw [if_pos c7] at H
        have c7b0 : decide (a1 ≤ ((rd_T36 l0 x9_1).f1)) = true := decide_eq_true c7
        clear c7
        obtain rfl := Option.some.inj H
        have p174 : 0 ≤ (x9_1 : Int) := of_decide_eq_true (by first | (with_reducible assumption) | assumption)
        have q174 : x9_1 < (l0.length : Int) := of_decide_eq_true (by first | (with_reducible assumption) | assumption)
        obtain ⟨ad174, e174, hx174_0, hx174_1⟩ := at_T36 HR0.out x9_1 p174 q174
        cases e174
        replace hx174_0 := (HB.out.cell (World.block_lt_of_cell? w _ hx174_0)).trans hx174_0
        replace hx174_1 := (HB.out.cell (World.block_lt_of_cell? w _ hx174_1)).trans hx174_1
        replace p174 := eq_true p174
        replace q174 := eq_true q174
        go_wp2_with (first | ((with_reducible refine gate_dst (N := 6) rfl ?_); refine box_event ?hg (N := 6) ?hd (cs := #[.int .i64 0, .int .i64 0]) (t := 36) ?hr ?_; (case hd => rfl); (case hg => rfl); (case hr => first | (go_simp; done) | (go_simp; rfl)); intro gb175 hg w8 hbox hb; have n0_ := Bs0 HB hb; have n1_ := Ax (hbox); have n2_ := Gw0 HB hg; have n3_ := Gw0 HB hg; clear HB; have HB := n0_; have BK175 := n1_; have GW175 := n2_; have GE175 := n3_; clear n0_ n1_ n2_ n3_; clear hb hbox hg; obtain ⟨hcz9_0, hcz9_1, hfz9_0, hfz9_1⟩ := cl2 BK175))
        go_ret
        exact ⟨eS, bw1 HB.out GE175.out⟩
       ·rw [if_neg c7] at H
        have c7b0 : decide (a1 ≤ ((rd_T36 l0 x9_1).f1)) = false := decide_eq_false c7
        clear c7
        have H' := Ax H
        clear H
        have p174 : 0 ≤ (x9_1 : Int) := of_decide_eq_true (by first | (with_reducible assumption) | assumption)
        have q174 : x9_1 < (l0.length : Int) := of_decide_eq_true (by first | (with_reducible assumption) | assumption)
        obtain ⟨ad174, e174, hx174_0, hx174_1⟩ := at_T36 HR0.out x9_1 p174 q174
        cases e174
        replace hx174_0 := (HB.out.cell (World.block_lt_of_cell? w _ hx174_0)).trans hx174_0
        replace hx174_1 := (HB.out.cell (World.block_lt_of_cell? w _ hx174_1)).trans hx174_1
        replace p174 := eq_true p174
        replace q174 := eq_true q174
        go_wp2_with (first | ((with_reducible refine gate_dst (N := 6) rfl ?_); refine box_event ?hg (N := 6) ?hd (cs := #[.int .i64 0, .int .i64 0]) (t := 36) ?hr ?_; (case hd => rfl); (case hg => rfl); (case hr => first | (go_simp; done) | (go_simp; rfl)); intro gb175 hg w10 hbox hb; have n0_ := Bs0 HB hb; have n1_ := Ax (hbox); have n2_ := Gw0 HB hg; have n3_ := Gw0 HB hg; clear HB; have HB := n0_; have BK175 := n1_; have GW175 := n2_; have GE175 := n3_; clear n0_ n1_ n2_ n3_; clear hb hbox hg; obtain ⟨hcz11_0, hcz11_1, hfz11_0, hfz11_1⟩ := cl2 BK175))
        go_roundg k1
        case measure => have := HK1.out; omega
        case rel => exact ⟨(wrap64 (x9_1 + 1)), rS, H', ⟨by have := HK1.out; omega⟩, ⟨bw1 HB.out GE175.out⟩⟩
      ·rw [if_neg c6] at H
       have c6b0 : decide (((rd_T36 l0 x9_1).f0) ≤ a1) = false := decide_eq_false c6
       clear c6
       have H' := Ax H
       clear H
       have p174 : 0 ≤ (x9_1 : Int) := of_decide_eq_true (by first | (with_reducible assumption) | assumption)
       have q174 : x9_1 < (l0.length : Int) := of_decide_eq_true (by first | (with_reducible assumption) | assumption)
       obtain ⟨ad174, e174, hx174_0, hx174_1⟩ := at_T36 HR0.out x9_1 p174 q174
       cases e174
       replace hx174_0 := (HB.out.cell (World.block_lt_of_cell? w _ hx174_0)).trans hx174_0
       replace hx174_1 := (HB.out.cell (World.block_lt_of_cell? w _ hx174_1)).trans hx174_1
       replace p174 := eq_true p174
       replace q174 := eq_true q174
       go_wp2_with (first | ((with_reducible refine gate_dst (N := 6) rfl ?_); refine box_event ?hg (N := 6) ?hd (cs := #[.int .i64 0, .int .i64 0]) (t := 36) ?hr ?_; (case hd => rfl); (case hg => rfl); (case hr => first | (go_simp; done) | (go_simp; rfl)); intro gb175 hg w12 hbox hb; have n0_ := Bs0 HB hb; have n1_ := Ax (hbox); have n2_ := Gw0 HB hg; have n3_ := Gw0 HB hg; clear HB; have HB := n0_; have BK175 := n1_; have GW175 := n2_; have GE175 := n3_; clear n0_ n1_ n2_ n3_; clear hb hbox hg; obtain ⟨hcz13_0, hcz13_1, hfz13_0, hfz13_1⟩ := cl2 BK175))
       go_roundg k1
       case measure => have := HK1.out; omega
       case rel => exact ⟨(wrap64 (x9_1 + 1)), rS, H', ⟨by have := HK1.out; omega⟩, ⟨bw1 HB.out GE175.out⟩⟩
     ·rw [if_neg c5] at H
      exact absurd H (by simp)
    ·rw [if_neg c4] at H
     exact absurd H (by simp)
   ·rw [if_neg c3] at H
    have c3b0 : decide (x9_1 < (l0.length : Int)) = false := decide_eq_false c3
    clear c3
    obtain rfl := Option.some.inj H
    go_wp2
    go_ret
    exact ⟨eS, bw0 HB.out⟩
def posL (t : Int) : List Int → Nat → Nat
  | xs, 0 => 0
  | xs, i + 1 => if t < xs.getD i 0 then posL t xs i else i + 1
theorem posL_le (t : Int) (xs : List Int) : ∀ i, posL t xs i ≤ i
  | 0 => Nat.le_refl _
  | i + 1 => by
    unfold posL
    split
    · exact Nat.le_succ_of_le (posL_le t xs i)
    · exact Nat.le_refl _
def insS (xs : List Int) (t : Int) : List Int :=
  if 0 < posL t xs xs.length ∧ xs.getD (posL t xs xs.length - 1) 0 = t then xs else xs.take (posL t xs xs.length) ++ t :: xs.drop (posL t xs xs.length)
theorem insS_len (xs : List Int) (t : Int) : (insS xs t).length ≤ xs.length + 1 := by
  unfold insS
  split
  · omega
  · have := posL_le t xs xs.length
    simp
    omega
theorem infoI : (Try.prog.info? 2).map (fun i => (i.zero, i.size, i.bytes)) = some (some (.int .i64 0), 1, 8) := by kernel_rfl
theorem shift_own {w' : World} {base g cap i : Nat} {xs : List Int} {cur : Array Value} (hi : i ≤ xs.length) (hg : base ≤ g) (hc : xs.length + 1 ≤ cap) (hm : cap ≤ maxLen) (hs : cur.size = cap * 1) (ht : cur.toList.take ((xs.length + 1) * 1) = encs (Value.int .i64) (xs ++ [0]))
    (h : w'.heap[g]? = some (.cells (splice cur.toList (i + 1) ((encs (Value.int .i64) (xs ++ [0])).drop i |>.take (xs.length - i))).toArray 2 (0, 0))) :
    w'.ownsRow base 2 1 (.slice (some ⟨g, 0, none⟩) (xs.length + 1) cap) (xs.length + 1) (encs (Value.int .i64) (xs.take i ++ (xs ++ [0]).getD i 0 :: xs.drop i)) := by
  have hl : cur.toList.length = cap := by simp [hs]
  have he : (encs (Value.int .i64) (xs ++ [0])).length = xs.length + 1 := by simp [encs]
  refine ⟨by simp [encs]; omega, .inr ⟨g, cap, _, rfl, hg, h, hc, hm, ?_, ?_⟩⟩
  · rw [List.size_toArray, length_splice _ _ _ (by rw [List.length_take, List.length_drop, he, hl]; omega), hl, Nat.mul_one]
  · have hcut : (((encs (Value.int .i64) (xs ++ [0])).drop i).take (xs.length - i)) = encs (Value.int .i64) (xs.drop i) := by
      unfold encs
      rw [← List.map_drop, ← List.map_take, List.drop_append_of_le_length hi]
      congr 1
      rw [List.take_append_of_le_length (by simp), List.take_of_length_le (by simp)]
    rw [hcut]
    have hlen : (encs (Value.int .i64) (xs.drop i)).length = xs.length - i := by simp [encs]
    show (splice cur.toList (i + 1) (encs (Value.int .i64) (xs.drop i))).take ((xs.length + 1) * 1) = _
    unfold splice
    have e1 : cur.toList.take (i + 1) = encs (Value.int .i64) (xs.take i ++ [(xs ++ [0]).getD i 0]) := by
      have h1 : cur.toList.take (i + 1) = (cur.toList.take ((xs.length + 1) * 1)).take (i + 1) := by rw [List.take_take]; congr 1; omega
      rw [h1, ht]
      unfold encs
      rw [← List.map_take]
      congr 1
      rw [List.take_succ_eq_append_getElem (by simp; omega), List.take_append_of_le_length hi]
      congr 1
      rw [List.getD_eq_getElem?_getD, List.getElem?_eq_getElem (by simp; omega)]
      rfl
    rw [e1, hlen, ← List.append_assoc]
    rw [List.take_append_of_le_length (by simp [encs]; omega), List.take_of_length_le (by simp [encs]; omega)]
    unfold encs
    rw [← List.map_append, List.append_assoc]
    rfl
theorem shift_len {xs : List Int} {i : Nat} (h : i ≤ xs.length) : (((encs (Value.int .i64) (xs ++ [0])).drop i).take (xs.length - i)).length = xs.length - i := by
  simp [encs]
  omega
theorem shift_hn {xs : List Int} {i : Nat} (h : i + 1 ≤ xs.length) : (((encs (Value.int .i64) (xs ++ [0])).drop (i + 1)).take (xs.length - (i + 1))).length = Nat.min (xs.length - i) (xs.length - (i + 1)) := by
  rw [shift_len h]
  show _ = min _ _
  omega
theorem shift_ne {xs : List Int} {i c : Nat} (h : i + 1 ≤ xs.length) (hp : 0 < (((encs (Value.int .i64) (xs ++ [0])).drop (i + 1)).take (xs.length - (i + 1))).length) (h1 : xs.length + 1 ≤ c) : ¬ c = i + 1 + 1 := by
  rw [shift_len h] at hp
  omega
theorem shift_hn0 (xs : List Int) : (((encs (Value.int .i64) (xs ++ [0])).drop 0).take (xs.length - 0)).length = Nat.min (xs.length + 1) xs.length := by
  rw [shift_len (Nat.zero_le _)]
  show _ = min _ _
  omega
theorem shift_ne0 {xs : List Int} {c : Nat} (hp : 0 < (((encs (Value.int .i64) (xs ++ [0])).drop 0).take (xs.length - 0)).length) (h1 : xs.length + 1 ≤ c) : ¬ c = 1 := by
  rw [shift_len (Nat.zero_le _)] at hp
  omega
theorem shift_ne2 {xs : List Int} {i c : Nat} (h : i + 1 ≤ xs.length) (h1 : xs.length + 1 ≤ c) : ¬ c = i + 1 := by omega
theorem shift_fit {xs : List Int} {i c : Nat} {cur : Array Value} (h : i ≤ xs.length) (h1 : xs.length + 1 ≤ c) (h2 : cur.size = c * 1) : i + 1 + (((encs (Value.int .i64) (xs ++ [0])).drop i).take (xs.length - i)).length ≤ cur.toList.length := by
  rw [shift_len h]
  simp
  omega
theorem shift_one {xs : List Int} {i : Nat} : ∀ v ∈ (((encs (Value.int .i64) (xs ++ [0])).drop i).take (xs.length - i)), v.oneCell' = true := by
  intro v hv
  obtain ⟨x, _, rfl⟩ := List.mem_map.1 (List.mem_of_mem_drop (List.mem_of_mem_take hv))
  rfl
theorem shift_cells {W : World} {xs : List Int} {g i : Nat} {cur : Array Value} (hg : W.heap[g]? = some (.cells cur 2 (0, 0))) (ht : cur.toList.take ((xs.length + 1) * 1) = encs (Value.int .i64) (xs ++ [0])) :
    ∀ j v, (((encs (Value.int .i64) (xs ++ [0])).drop i).take (xs.length - i))[j]? = some v → W.cell? ((⟨g, i, none⟩ : Addr).add j) = some v := by
  intro j v hj
  have hadd : (⟨g, i, none⟩ : Addr).add j = ⟨g, i + j, none⟩ := by unfold Addr.add; split <;> simp_all
  rw [hadd, blk_cell hg, ← Array.getElem?_toList]
  rw [List.getElem?_take] at hj
  split at hj
  · rw [List.getElem?_drop, ← ht, List.getElem?_take] at hj
    split at hj
    · exact hj
    · cases hj
  · cases hj
theorem posL_step {t : Int} {xs : List Int} {j : Nat} (h : t < xs.getD j 0) : posL t xs (j + 1) = posL t xs j := by
  show (if t < xs.getD j 0 then posL t xs j else j + 1) = _
  rw [if_pos h]
theorem posL_stop {t : Int} {xs : List Int} {j : Nat} (h : ¬ t < xs.getD j 0) : posL t xs (j + 1) = j + 1 := by
  show (if t < xs.getD j 0 then posL t xs j else j + 1) = _
  rw [if_neg h]
set_option maxRecDepth 100000 in
set_option maxHeartbeats 4000000 in
theorem sorted_is (A0 : Option Addr) (c0 : Nat) (l0 : List Int) (hL : (l0.length + 1) * 8 ≤ 140737488355328) (w : World) (hr0 : Kd.C (Kd.int .i64) w A0 l0.length l0) (hc0 : l0.length ≤ c0) :
    Calls Try.prog 49 #[.slice A0 l0.length c0] w fun e w' => ∃ v0_ : Value, e = .returned v0_ ∧ Kd.R (Kd.int .i64) 2 w' w.heap.size (fun _ => True) v0_ (l0.foldl insS []) ∧ Below w.heap.size w w' := by
  have HR := Aside0.mk hr0
  have HM := Aside0.mk (Kd.C_max hr0)
  have HL := Aside0.mk hL
  clear hr0 hL
  go_enter Try.func49, Try.ntmps49
  go_wp2
  go_loopg [3, 9] l0.length (fun kq v3 v9 w' => ∃ (i : Nat), v9 = .int .i64 (i : Int) ∧ Aside0 (i ≤ l0.length ∧ kq = l0.length - i) ∧ Aside0 (Kd.R (Kd.int .i64) 2 w' w.heap.size (fun _ => True) v3 ((l0.take i).foldl insS []) ∧ ((l0.take i).foldl insS []).length ≤ i) ∧ Aside0 (Below w.heap.size w w'))
  case atStart => exact ⟨0, rfl, ⟨Nat.zero_le _, rfl⟩, ⟨Kd.R_nil _ _ _ _ _, Nat.le_refl _⟩, ⟨Below.refl _ _⟩⟩
  case round =>
    obtain ⟨i, rfl, HI, HO, Hb⟩ := hrel
    have hm := HM.out
    by_cases hi : i < l0.length
    · have hd : decide ((i : Int) < (l0.length : Int)) = true := decide_eq_true (by omega)
      have hdn : decide (i < l0.length) = true := decide_eq_true hi
      obtain ⟨ad, ead, hx0⟩ := Kd.at_int (Kd.C_below HR.out Hb.out) (i : Int) (by omega) (by omega)
      cases ead
      simp only [Int.toNat_natCast] at hx0
      obtain ⟨t, ht⟩ : ∃ t, rd l0 (i : Int) = t := ⟨_, rfl⟩
      rw [ht] at hx0
      have htk : (l0.take (i + 1)).foldl insS [] = insS ((l0.take i).foldl insS []) t := by
        rw [List.take_succ_eq_append_getElem hi, List.foldl_append, ← ht]
        simp [rd, List.getD_eq_getElem?_getD, hi]
      have HT := Aside0.mk htk
      have HII := Aside0.mk hi
      have p0 : (0 ≤ (i : Int)) = True := eq_true (by omega)
      have q0 : ((i : Int) < (l0.length : Int)) = True := eq_true (by omega)
      obtain ⟨xs, hxs⟩ : ∃ xs, (l0.take i).foldl insS [] = xs := ⟨_, rfl⟩
      rw [hxs] at HO
      have HXS := Aside0.mk hxs
      obtain ⟨A, c, rfl⟩ := Kd.R_slice HO.out.1
      have HC := Aside0.mk (Kd.R_reads' HO.out.1).2.2
      have hm2 := Kd.C_max HC.out
      have hxl := HO.out.2
      have HLL : Aside0 ((xs.length + 1) * 8 ≤ 140737488355328) := ⟨Nat.le_trans (Nat.mul_le_mul_right 8 (show xs.length + 1 ≤ l0.length + 1 by omega)) HL.out⟩
      clear hxs htk ht hi
      go_wp2
      go_loopg [6] xs.length (fun kq v6 w2 => ∃ (j : Nat), v6 = .int .i64 (j : Int) ∧ Aside0 (j ≤ xs.length ∧ kq = j) ∧ Aside0 (posL t xs xs.length = posL t xs j) ∧ w2 = wr)
      case atStart => exact ⟨xs.length, rfl, ⟨Nat.le_refl _, rfl⟩, ⟨rfl⟩, rfl⟩
      case round =>
        obtain ⟨j, rfl, HJ, HP, rfl⟩ := hrel
        have hjl := HJ.out.1
        have rest : Aside0 (insS xs t = xs.take j ++ t :: xs.drop j) → True := fun _ => trivial
        clear rest
        cases j with
        | succ jp =>
          obtain ⟨ad2, ead2, hy0⟩ := Kd.at_int HC.out (jp : Int) (by omega) (by omega)
          cases ead2
          simp only [Int.toNat_natCast] at hy0
          obtain ⟨y, hy⟩ : ∃ y, xs.getD jp 0 = y := ⟨_, rfl⟩
          have hrd : rd xs (jp : Int) = y := by rw [← hy]; simp [rd]
          rw [hrd] at hy0
          have HY := Aside0.mk hy
          have wj : IntKind.i64.wrap (((jp + 1 : Nat) : Int) - 1) = (jp : Int) := by rw [i64_w]; unfold wrap64; omega
          have dj : decide ((0 : Int) < ((jp + 1 : Nat) : Int)) = true := decide_eq_true (by omega)
          have p1 : (0 ≤ (jp : Int)) = True := eq_true (by omega)
          have q1 : ((jp : Int) < (xs.length : Int)) = True := eq_true (by omega)
          have q2 : (jp < xs.length) = True := eq_true (by omega)
          clear hrd hy
          by_cases c1 : t < y
          · have d1 : decide (t < y) = true := decide_eq_true c1
            have HP2 : Aside0 (posL t xs xs.length = posL t xs jp) := ⟨by rw [HP.out]; exact posL_step (by rw [HY.out]; exact c1)⟩
            clear c1
            go_wp2
            go_roundg jp
            case measure => have := HJ.out.2; omega
            case rel => exact ⟨jp, by first | rfl | go_num, ⟨by have := HJ.out.1; omega, rfl⟩, HP2, rfl⟩
          · have d1 : decide (t < y) = false := decide_eq_false c1
            have HP2 : Aside0 (posL t xs xs.length = jp + 1) := ⟨by rw [HP.out]; exact posL_stop (by rw [HY.out]; exact c1)⟩
            clear c1
            by_cases c2 : y = t
            · have d2 : (y == t) = true := beq_iff_eq.mpr c2
              have HN : Aside0 (insS xs t = xs) := ⟨by
                unfold insS
                rw [if_pos]
                rw [HP2.out, Nat.add_sub_cancel, HY.out]
                exact ⟨by omega, c2⟩⟩
              clear c2
              go_wp2
              go_roundg (l0.length - (i + 1))
              case measure => have := HI.out; have := HII.out; omega
              case rel => have hii := HII.out; exact ⟨i + 1, by (have := HII.out; simp only [Value.int.injEq, true_and]; unfold wrap64; omega), ⟨HII.out, rfl⟩, ⟨by rw [HT.out, HXS.out, HN.out]; exact HO.out.1, by rw [HT.out, HXS.out, HN.out]; exact Nat.le_succ_of_le HO.out.2⟩, Hb⟩
            · have d2 : (y == t) = false := beq_eq_false_iff_ne.mpr c2
              have HN : Aside0 (insS xs t = xs.take (jp + 1) ++ t :: xs.drop (jp + 1)) := ⟨by
                unfold insS
                rw [HP2.out, if_neg]
                rw [Nat.add_sub_cancel, HY.out]
                exact fun h => c2 h.2⟩
              clear c2
              go_wp2_with (at_builtin; refine Kd.R_append (Kd.int .i64) (w0 := w) w.heap.size rfl (.tmp 39) (.tmp 40) 67 2 (.int .i64 0) 8 rfl Try.underlying67 infoI rfl (by decide) (by omega) _ xs 0 [.int .i64 0] (fun _ => True) (fun _ => False) rfl ?aX rfl (fun _ hk => hk.elim) (fun _ _ => trivial) HO.out.1 Hb.out Hb.out.size HLL.out ?_; (case aX => first | rfl | (go_simp; done) | (go_simp; rfl)); intro v1 w1 ho1 hb1 hg1 hat1; have HO1 := Aside0.mk ho1; have Hb1 := Aside0.mk hb1; obtain ⟨A1, c1, rfl⟩ := Kd.R_slice ho1; clear ho1 hb1 hg1 hat1)
              obtain ⟨hown1, (⟨_, h0⟩ | ⟨g, cap, cur, hv, hbg, hgg, hnc, hcm, hcs, htk⟩)⟩ := Kd.own_of_R HO1.out
              · simp at h0
              simp only [List.length_append, List.length_singleton] at hv hnc htk
              obtain ⟨rfl, _, rfl⟩ : A1 = some ⟨g, 0, none⟩ ∧ True ∧ c1 = cap := by simpa using hv
              have HG := Aside0.mk hgg
              have HCU := Aside0.mk (And.intro hnc (And.intro hcm (And.intro hcs (And.intro htk hbg))))
              have hii := HII.out
              have tn : ((jp : Int) + 1 + 1).toNat = jp + 1 + 1 := by omega
              have k1 : (0 ≤ (jp : Int) + 1 + 1) = True := eq_true (by omega)
              have k2 : ((jp : Int) + 1 + 1 ≤ (xs.length : Int) + 1) = True := eq_true (by omega)
              have k3 : (0 ≤ (jp : Int) + 1) = True := eq_true (by omega)
              have k4 : ((jp : Int) + 1 ≤ (xs.length : Int) + 1) = True := eq_true (by omega)
              have wk : IntKind.i64.wrap ((jp : Int) + 1 + 1) = (jp : Int) + 1 + 1 := by rw [i64_w]; unfold wrap64; omega
              clear hown1 hv hgg hnc hcm hcs htk hbg
              have HXL : Aside0 (jp + 1 ≤ xs.length) := ⟨hjl⟩
              refine start_ (n := 8) (S := fun _ => True) (ds := [7]) #[false,false,false,false,false,false,false,false] (by kernel_rfl) rfl rfl trivial (fun _ => ?_)
              refine pure_ (i := 0) (N := some 42) (v := ?_) (a' := ?_) #[true,false,false,false,false,false,false,false] rfl rfl (by kernel_rfl) (fun _ _ _ h => h) (Or.inl ⟨by rfl, ?_⟩) ?_ ?_
              rotate_left
              · intro w'
                go_simp
                with_reducible rfl
              rotate_left
              · simp only [sP]
                rfl
              refine pure_ (i := 1) (N := some 43) (v := ?_) (a' := ?_) #[true,true,false,false,false,false,false,false] rfl rfl (by kernel_rfl) (fun _ _ _ h => h) (Or.inl ⟨by rfl, ?_⟩) ?_ ?_
              rotate_left
              · intro w'
                go_simp
                with_reducible rfl
              rotate_left
              · simp only [sP]
                rfl
              refine pure_ (i := 2) (N := some 44) (v := ?_) (a' := ?_) #[true,true,true,false,false,false,false,false] rfl rfl (by kernel_rfl) (fun _ _ _ h => h) (Or.inl ⟨by rfl, ?_⟩) ?_ ?_
              rotate_left
              · intro w'
                go_simp
                with_reducible rfl
              rotate_left
              · simp only [sP]
                rfl
              refine pure_ (i := 3) (N := some 45) (v := ?_) (a' := ?_) #[true,true,true,true,false,false,false,false] rfl rfl (by kernel_rfl) (fun _ _ _ h => h) (Or.inl ⟨by rfl, ?_⟩) ?_ ?_
              rotate_left
              · intro w'
                go_simp
                with_reducible rfl
              rotate_left
              · simp only [sP]
                rfl
              refine pure_ (i := 4) (N := some 46) (v := ?_) (a' := ?_) #[true,true,true,true,true,false,false,false] rfl rfl (by kernel_rfl) (fun _ _ _ h => h) (Or.inl ⟨by rfl, ?_⟩) ?_ ?_
              rotate_left
              · intro w'
                go_simp
                with_reducible rfl
              rotate_left
              · simp only [sP]
                rfl
              refine pure_ (i := 5) (N := some 47) (v := ?_) (a' := ?_) #[true,true,true,true,true,true,false,false] rfl rfl (by kernel_rfl) (fun _ _ _ h => h) (Or.inl ⟨by rfl, ?_⟩) ?_ ?_
              rotate_left
              · intro w'
                go_simp
                with_reducible rfl
              rotate_left
              · simp only [sP]
                rfl
              refine pure_ (i := 6) (N := some 48) (v := ?_) (a' := ?_) #[true,true,true,true,true,true,true,false] rfl rfl (by kernel_rfl) (fun _ _ _ h => h) (Or.inl ⟨by rfl, ?_⟩) ?_ ?_
              rotate_left
              · intro w'
                go_simp
                with_reducible rfl
              rotate_left
              · simp only [sP]
                rfl
              refine last_ (i := 7) (N := some 49) #[true,true,true,true,true,true,true,true] rfl rfl (by kernel_rfl) (by decide) (fun K hK => ?_)
              refine step_copy_splice rfl (.tmp 45) (.tmp 48) 67 67 rfl 2 Try.underlying67 (by kernel_rfl) _ _ _ _ _ _ rfl rfl g (jp + 1 + 1) cur.toList 2 HG.out (((encs (Value.int .i64) (xs ++ [0])).drop (jp + 1)).take (xs.length - (jp + 1))) (shift_hn HXL.out) (fun hp => ⟨if_neg (shift_ne HXL.out hp HCU.out.1), _, if_neg (shift_ne2 HXL.out HCU.out.1), shift_cells HG.out HCU.out.2.2.2.1⟩) (shift_fit HXL.out HCU.out.1 HCU.out.2.2.1) shift_one w.heap.size w (below_drew1 Hb1.out) HCU.out.2.2.2.2 ?_
              intro w4 hg4 hb4
              refine hK _ _ (done_ (by kernel_rfl) ?_)
              have hsh := shift_own HXL.out HCU.out.2.2.2.2 HCU.out.1 HCU.out.2.1 HCU.out.2.2.1 HCU.out.2.2.2.1 hg4.out
              have hcell : w4.cell? ⟨g, jp + 1, none⟩ = some (.int .i64 ((xs ++ [0]).getD (jp + 1) 0)) := by
                rw [hsh.cellAt (jp + 1) (by have := HXL.out; omega)]
                have hl5 : (xs.take (jp + 1)).length = jp + 1 := by rw [List.length_take]; have := HXL.out; omega
                unfold encs
                rw [List.getElem?_map, List.getElem?_append_right (by omega), hl5, Nat.sub_self]
                rfl
              have hfro : w4.frozen? ⟨g, jp + 1, none⟩ = false := hsh.frozenAt _
              have hst := hsh.stored (jp + 1) (.int .i64 t)
              have e5 : (encs (Value.int .i64) (xs.take (jp + 1) ++ (xs ++ [0]).getD (jp + 1) 0 :: xs.drop (jp + 1))).set (jp + 1) (.int .i64 t) = encs (Value.int .i64) (insS xs t) := by
                rw [HN.out]
                unfold encs
                rw [← List.map_set]
                congr 1
                have hl5 : (xs.take (jp + 1)).length = jp + 1 := by rw [List.length_take]; have := HXL.out; omega
                rw [List.set_append_right _ _ (by omega), hl5, Nat.sub_self]
                rfl
              have hln : (insS xs t).length = xs.length + 1 := by rw [HN.out]; simp; have := HXL.out; omega
              have HF : Aside0 (Kd.R (Kd.int .i64) 2 (w4.setCell ⟨g, jp + 1, none⟩ (.int .i64 t)) w.heap.size (fun _ => True) (.slice (some ⟨g, 0, none⟩) (xs.length + 1) c1) (insS xs t)) := ⟨Kd.R_of_own (by rw [hln, ← e5]; exact hst.1) (fun _ _ => trivial)⟩
              have Hb9 : Aside0 (Below w.heap.size w (w4.setCell ⟨g, jp + 1, none⟩ (.int .i64 t))) := ⟨hb4.setCell (p := ⟨g, jp + 1, none⟩) HCU.out.2.2.2.2 _⟩
              have HLN := Aside0.mk hln
              have k5 : ((jp : Int) + 1 < (xs.length : Int) + 1) = True := eq_true (by have := HXL.out; omega)
              have k6 : (jp + 1 < xs.length + 1) = True := eq_true (by have := HXL.out; omega)
              clear hsh hst e5 hln hg4 hb4
              generalize (if c1 = jp + 1 + 1 then (some ⟨g, 0, none⟩ : Option Addr) else some ⟨g, jp + 1 + 1, none⟩) = D1
              generalize (if c1 = jp + 1 then (some ⟨g, 0, none⟩ : Option Addr) else some ⟨g, jp + 1, none⟩) = D2
              go_wp2
              go_roundg (l0.length - (i + 1))
              case measure => have := HI.out; have := HII.out; omega
              case rel => have hii := HII.out; exact ⟨i + 1, by first | rfl | (simp only [Value.int.injEq, true_and]; unfold wrap64; omega), ⟨HII.out, rfl⟩, ⟨by rw [HT.out, HXS.out]; exact HF.out, by rw [HT.out, HXS.out, HLN.out]; exact Nat.succ_le_succ HO.out.2⟩, Hb9⟩
        | zero =>
          have HN : Aside0 (insS xs t = xs.take 0 ++ t :: xs.drop 0) := ⟨by
            unfold insS
            rw [HP.out]
            exact if_neg (fun h => by cases h.1)⟩
          have dj : decide ((0 : Int) < ((0 : Nat) : Int)) = false := by decide
          have dj2 : decide ((0 : Int) < (0 : Int)) = false := by decide
          go_wp2_with (at_builtin; refine Kd.R_append (Kd.int .i64) (w0 := w) w.heap.size rfl (.tmp 39) (.tmp 40) 67 2 (.int .i64 0) 8 rfl Try.underlying67 infoI rfl (by decide) (by omega) _ xs 0 [.int .i64 0] (fun _ => True) (fun _ => False) rfl ?aX rfl (fun _ hk => hk.elim) (fun _ _ => trivial) HO.out.1 Hb.out Hb.out.size HLL.out ?_; (case aX => first | rfl | (go_simp; done) | (go_simp; rfl)); intro v1 w1 ho1 hb1 hg1 hat1; have HO1 := Aside0.mk ho1; have Hb1 := Aside0.mk hb1; obtain ⟨A1, c1, rfl⟩ := Kd.R_slice ho1; clear ho1 hb1 hg1 hat1)
          obtain ⟨hown1, (⟨_, h0⟩ | ⟨g, cap, cur, hv, hbg, hgg, hnc, hcm, hcs, htk⟩)⟩ := Kd.own_of_R HO1.out
          · simp at h0
          simp only [List.length_append, List.length_singleton] at hv hnc htk
          obtain ⟨rfl, _, rfl⟩ : A1 = some ⟨g, 0, none⟩ ∧ True ∧ c1 = cap := by simpa using hv
          have HG := Aside0.mk hgg
          have HCU := Aside0.mk (And.intro hnc (And.intro hcm (And.intro hcs (And.intro htk hbg))))
          have hii := HII.out
          have tn : (1 : Int).toNat = 1 := rfl
          have k1 : (0 ≤ (1 : Int)) = True := eq_true (by omega)
          have k2 : ((1 : Int) ≤ (xs.length : Int) + 1) = True := eq_true (by omega)
          have kw : wrap64 1 = 1 := by unfold wrap64; omega
          have k3 : (0 ≤ (0 : Int)) = True := eq_true (by omega)
          have k4 : ((0 : Int) ≤ (xs.length : Int) + 1) = True := eq_true (by omega)
          have wk : IntKind.i64.wrap ((0 : Int) + 1) = (0 : Int) + 1 := by rw [i64_w]; unfold wrap64; omega
          clear hown1 hv hgg hnc hcm hcs htk hbg
          have HXL : Aside0 (0 ≤ xs.length) := ⟨hjl⟩
          refine start_ (n := 8) (S := fun _ => True) (ds := [7]) #[false,false,false,false,false,false,false,false] (by kernel_rfl) rfl rfl trivial (fun _ => ?_)
          refine pure_ (i := 0) (N := some 42) (v := ?_) (a' := ?_) #[true,false,false,false,false,false,false,false] rfl rfl (by kernel_rfl) (fun _ _ _ h => h) (Or.inl ⟨by rfl, ?_⟩) ?_ ?_
          rotate_left
          · intro w'
            go_simp
            with_reducible rfl
          rotate_left
          · simp only [sP]
            rfl
          refine pure_ (i := 1) (N := some 43) (v := ?_) (a' := ?_) #[true,true,false,false,false,false,false,false] rfl rfl (by kernel_rfl) (fun _ _ _ h => h) (Or.inl ⟨by rfl, ?_⟩) ?_ ?_
          rotate_left
          · intro w'
            go_simp
            with_reducible rfl
          rotate_left
          · simp only [sP]
            rfl
          refine pure_ (i := 2) (N := some 44) (v := ?_) (a' := ?_) #[true,true,true,false,false,false,false,false] rfl rfl (by kernel_rfl) (fun _ _ _ h => h) (Or.inl ⟨by rfl, ?_⟩) ?_ ?_
          rotate_left
          · intro w'
            go_simp
            with_reducible rfl
          rotate_left
          · simp only [sP]
            rfl
          refine pure_ (i := 3) (N := some 45) (v := ?_) (a' := ?_) #[true,true,true,true,false,false,false,false] rfl rfl (by kernel_rfl) (fun _ _ _ h => h) (Or.inl ⟨by rfl, ?_⟩) ?_ ?_
          rotate_left
          · intro w'
            go_simp
            with_reducible rfl
          rotate_left
          · simp only [sP]
            rfl
          refine pure_ (i := 4) (N := some 46) (v := ?_) (a' := ?_) #[true,true,true,true,true,false,false,false] rfl rfl (by kernel_rfl) (fun _ _ _ h => h) (Or.inl ⟨by rfl, ?_⟩) ?_ ?_
          rotate_left
          · intro w'
            go_simp
            with_reducible rfl
          rotate_left
          · simp only [sP]
            rfl
          refine pure_ (i := 5) (N := some 47) (v := ?_) (a' := ?_) #[true,true,true,true,true,true,false,false] rfl rfl (by kernel_rfl) (fun _ _ _ h => h) (Or.inl ⟨by rfl, ?_⟩) ?_ ?_
          rotate_left
          · intro w'
            go_simp
            with_reducible rfl
          rotate_left
          · simp only [sP]
            rfl
          refine pure_ (i := 6) (N := some 48) (v := ?_) (a' := ?_) #[true,true,true,true,true,true,true,false] rfl rfl (by kernel_rfl) (fun _ _ _ h => h) (Or.inl ⟨by rfl, ?_⟩) ?_ ?_
          rotate_left
          · intro w'
            go_simp
            with_reducible rfl
          rotate_left
          · simp only [sP]
            rfl
          refine last_ (i := 7) (N := some 49) #[true,true,true,true,true,true,true,true] rfl rfl (by kernel_rfl) (by decide) (fun K hK => ?_)
          refine step_copy_splice rfl (.tmp 45) (.tmp 48) 67 67 rfl 2 Try.underlying67 (by kernel_rfl) _ _ _ _ _ _ rfl rfl g (0 + 1) cur.toList 2 HG.out (((encs (Value.int .i64) (xs ++ [0])).drop (0)).take (xs.length - (0))) (shift_hn0 xs) (fun hp => ⟨if_neg (shift_ne0 hp HCU.out.1), _, rfl, shift_cells HG.out HCU.out.2.2.2.1⟩) (shift_fit HXL.out HCU.out.1 HCU.out.2.2.1) shift_one w.heap.size w (below_drew1 Hb1.out) HCU.out.2.2.2.2 ?_
          intro w4 hg4 hb4
          refine hK _ _ (done_ (by kernel_rfl) ?_)
          have hsh := shift_own HXL.out HCU.out.2.2.2.2 HCU.out.1 HCU.out.2.1 HCU.out.2.2.1 HCU.out.2.2.2.1 hg4.out
          have hcell : w4.cell? ⟨g, 0, none⟩ = some (.int .i64 ((xs ++ [0]).getD (0) 0)) := by
            rw [hsh.cellAt (0) (by have := HXL.out; omega)]
            have hl5 : (xs.take (0)).length = 0 := by rw [List.length_take]; have := HXL.out; omega
            unfold encs
            rw [List.getElem?_map, List.getElem?_append_right (by omega), hl5, Nat.sub_self]
            rfl
          have hfro : w4.frozen? ⟨g, 0, none⟩ = false := hsh.frozenAt _
          have hst := hsh.stored (0) (.int .i64 t)
          have e5 : (encs (Value.int .i64) (xs.take (0) ++ (xs ++ [0]).getD (0) 0 :: xs.drop (0))).set (0) (.int .i64 t) = encs (Value.int .i64) (insS xs t) := by
            rw [HN.out]
            unfold encs
            rw [← List.map_set]
            congr 1
          have hln : (insS xs t).length = xs.length + 1 := by rw [HN.out]; simp
          have HF : Aside0 (Kd.R (Kd.int .i64) 2 (w4.setCell ⟨g, 0, none⟩ (.int .i64 t)) w.heap.size (fun _ => True) (.slice (some ⟨g, 0, none⟩) (xs.length + 1) c1) (insS xs t)) := ⟨Kd.R_of_own (by rw [hln, ← e5]; exact hst.1) (fun _ _ => trivial)⟩
          have Hb9 : Aside0 (Below w.heap.size w (w4.setCell ⟨g, 0, none⟩ (.int .i64 t))) := ⟨hb4.setCell (p := ⟨g, 0, none⟩) HCU.out.2.2.2.2 _⟩
          have HLN := Aside0.mk hln
          have k5 : ((0 : Int) < (xs.length : Int) + 1) = True := eq_true (by have := HXL.out; omega)
          have k6 : (0 < xs.length + 1) = True := eq_true (by have := HXL.out; omega)
          clear hsh hst e5 hln hg4 hb4
          generalize (if c1 = 1 then (some ⟨g, 0, none⟩ : Option Addr) else some ⟨g, 1, none⟩) = D1
          go_wp2
          go_roundg (l0.length - (i + 1))
          case measure => have := HI.out; have := HII.out; omega
          case rel => have hii := HII.out; exact ⟨i + 1, by first | rfl | (simp only [Value.int.injEq, true_and]; unfold wrap64; omega), ⟨HII.out, rfl⟩, ⟨by rw [HT.out, HXS.out]; exact HF.out, by rw [HT.out, HXS.out, HLN.out]; exact Nat.succ_le_succ HO.out.2⟩, Hb9⟩
    · have hd : decide ((i : Int) < (l0.length : Int)) = false := decide_eq_false (by omega)
      have hdn : decide (i < l0.length) = false := decide_eq_false hi
      have ho := HO.out.1
      rw [List.take_of_length_le (by omega)] at ho
      obtain ⟨A, c, rfl⟩ := Kd.R_slice ho
      have HO2 := Aside0.mk ho
      clear ho HO
      go_wp2
      go_ret
      exact ⟨_, rfl, HO2.out, Hb.out⟩
def spoorref19_Sorted.f (k : Nat) (l0 : List Int) : Option (List Int) := if (l0.length + 1) * 8 ≤ 140737488355328 then some (l0.foldl insS []) else none
theorem spoorref19_Sorted.calls (k : Nat) (A0 : Option Addr) (c0 : Nat) (l0 : List Int) (r : List Int) (w : World) (hr0 : Kd.C (Kd.int .i64) w A0 l0.length l0) (hc0 : l0.length ≤ c0) (h : spoorref19_Sorted.f k l0 = some r) :
    Calls Try.prog 49 #[.slice A0 l0.length c0] w fun e w' => ∃ v0_ : Value, e = .returned (v0_) ∧ Kd.R (Kd.int .i64) 2 w' w.heap.size (fun _ => True) v0_ r ∧ Below w.heap.size w w' := by
  unfold spoorref19_Sorted.f at h
  by_cases hl : (l0.length + 1) * 8 ≤ 140737488355328
  · rw [if_pos hl] at h
    obtain rfl := Option.some.inj h
    exact sorted_is A0 c0 l0 hl w hr0 hc0
  · rw [if_neg hl] at h; cases h
mutual
def spoorref19_row.l0 : Nat → Int → List (S36) → List (S36) → List Int → List (S36) → Int → Int → Option ((List (S36)))
 | 0, _, _, _, _, _, _, _ => none
 | k + 1, x0, x1, x2, x7, x21, x22, x23 => if x23 < x22 then (if 0 ≤ x23 then (if x23 < (x21.length : Int) then ((some (([(rd_T36 x21 x23).f0, wrap64 (((rd_T36 x21 x23).f1) + 1)] : List Int) : List Int)).bind fun y187 => (if x7.length + y187.length < 17592186044416 then (spoorref19_row.l0 k x0 x1 x2 (x7 ++ y187) x21 x22 (wrap64 (x23 + 1))) else (none))) else (none)) else (none)) else ((spoorref19_Sorted.f k x7).bind fun t193 => (spoorref19_row.l1 k x0 x1 x2 ([] : List (S36)) false t193 (t193.length : Int) 0))
def spoorref19_row.l1 : Nat → Int → List (S36) → List (S36) → List (S36) → Bool → List Int → Int → Int → Option ((List (S36)))
 | 0, _, _, _, _, _, _, _, _ => none
 | k + 1, x0, x1, x2, x10, x11, x37, x38, x39 => if x39 < x38 then (if 0 ≤ x39 then (if x39 < (x37.length : Int) then ((spoorref19_in.f k x1 (rd x37 x39)).bind fun t197 => ((spoorref19_in.f k x2 (rd x37 x39)).bind fun t198 => (if t197 = true then (spoorref19_row.j2 k x0 x1 x2 x10 x11 (rd x37 x39) t197 t198 true x37 x38 x39) else (spoorref19_row.j2 k x0 x1 x2 x10 x11 (rd x37 x39) t197 t198 t198 x37 x38 x39)))) else (none)) else (none)) else (some x10)
def spoorref19_row.j2 : Nat → Int → List (S36) → List (S36) → List (S36) → Bool → Int → Bool → Bool → Bool → List Int → Int → Int → Option ((List (S36)))
 | 0, _, _, _, _, _, _, _, _, _, _, _, _ => none
 | k + 1, x0, x1, x2, x10, x11, x13, x14, x15, x16, x37, x38, x39 => if x0 = 1 then (if x14 = true then (spoorref19_row.j3 k x0 x1 x2 x10 x11 x13 x14 x15 x15 x37 x38 x39) else (spoorref19_row.j3 k x0 x1 x2 x10 x11 x13 x14 x15 false x37 x38 x39)) else (spoorref19_row.j3 k x0 x1 x2 x10 x11 x13 x14 x15 x16 x37 x38 x39)
def spoorref19_row.j3 : Nat → Int → List (S36) → List (S36) → List (S36) → Bool → Int → Bool → Bool → Bool → List Int → Int → Int → Option ((List (S36)))
 | 0, _, _, _, _, _, _, _, _, _, _, _, _ => none
 | k + 1, x0, x1, x2, x10, x11, x13, x14, x15, x16, x37, x38, x39 => if x0 = 2 then (if x14 = true then (spoorref19_row.j4 k x0 x1 x2 x10 x11 x13 (!x15) x37 x38 x39) else (spoorref19_row.j4 k x0 x1 x2 x10 x11 x13 false x37 x38 x39)) else (spoorref19_row.j4 k x0 x1 x2 x10 x11 x13 x16 x37 x38 x39)
def spoorref19_row.j4 : Nat → Int → List (S36) → List (S36) → List (S36) → Bool → Int → Bool → List Int → Int → Int → Option ((List (S36)))
 | 0, _, _, _, _, _, _, _, _, _, _ => none
 | k + 1, x0, x1, x2, x10, x11, x13, x16, x37, x38, x39 => if x11 = true then (spoorref19_row.j5 k x0 x1 x2 x10 x11 x13 x16 x37 x38 x39 (!x16)) else (spoorref19_row.j5 k x0 x1 x2 x10 x11 x13 x16 x37 x38 x39 false)
def spoorref19_row.j5 : Nat → Int → List (S36) → List (S36) → List (S36) → Bool → Int → Bool → List Int → Int → Int → Bool → Option ((List (S36)))
 | 0, _, _, _, _, _, _, _, _, _, _, _ => none
 | k + 1, x0, x1, x2, x10, x11, x13, x16, x37, x38, x39, x70 => if x70 = true then (if 0 ≤ (wrap64 ((x10.length : Int) - 1)) then (if (wrap64 ((x10.length : Int) - 1)) < (x10.length : Int) then ((some (x10.set ((wrap64 ((x10.length : Int) - 1)) : Int).toNat (⟨(rd_T36 x10 (wrap64 ((x10.length : Int) - 1))).f0, wrap64 (x13 - 1)⟩ : S36) : List (S36))).bind fun y199 => (if x11 = true then (spoorref19_row.l1 k x0 x1 x2 y199 x16 x37 x38 (wrap64 (x39 + 1))) else (if x16 = true then (if y199.length < 8796093022208 then (spoorref19_row.l1 k x0 x1 x2 (y199 ++ [(⟨x13, 0⟩ : S36)]) x16 x37 x38 (wrap64 (x39 + 1))) else (none)) else (spoorref19_row.l1 k x0 x1 x2 y199 x16 x37 x38 (wrap64 (x39 + 1)))))) else (none)) else (none)) else (if x11 = true then (spoorref19_row.l1 k x0 x1 x2 x10 x16 x37 x38 (wrap64 (x39 + 1))) else (if x16 = true then (if x10.length < 8796093022208 then (spoorref19_row.l1 k x0 x1 x2 (x10 ++ [(⟨x13, 0⟩ : S36)]) x16 x37 x38 (wrap64 (x39 + 1))) else (none)) else (spoorref19_row.l1 k x0 x1 x2 x10 x16 x37 x38 (wrap64 (x39 + 1)))))
end
def spoorref19_row.f (k : Nat) (a0 : Int) (l1 : List (S36)) (l2 : List (S36)) : Option ((List (S36))) := (some (([] : List (S36)) : List (S36))).bind fun y176 => (if y176.length + l1.length < 8796093022208 then ((some (y176 ++ l1 : List (S36))).bind fun y179 => (if y179.length + l2.length < 8796093022208 then ((some (y179 ++ l2 : List (S36))).bind fun y182 => (spoorref19_row.l0 k a0 l1 l2 ([] : List Int) y182 (y182.length : Int) 0)) else (none))) else (none))
end Go.Proofs.Ytkjjidanakmkeaa.Q
end
section
namespace Go.Proofs.Ytkjjidanakmkeaa.Q
open Go.RowKit Go.Proofs.YtkjjidanakmkeaaW.PrintWords Go.Proofs.YtkjjidanakmkeaaW.PrintLast Go.Proofs.YtkjjidanakmkeaaW.PrintMore
attribute [local go_sem] max2_int min2_int max_two min_two max_three min_three max_four min_four   -- for this text's walks alone
set_option linter.unusedVariables false
set_option linter.unusedSimpArgs false
set_option maxHeartbeats 8000000 in
set_option maxRecDepth 100000 in
theorem spoorref19_row.calls (k : Nat) (a0 : Int) (A1 : Option Addr) (c1 : Nat) (l1 : List (S36)) (A2 : Option Addr) (c2 : Nat) (l2 : List (S36)) (r : List (S36)) (w : World) (hr1 : Kd.C k36 w A1 l1.length l1) (hc1 : l1.length ≤ c1) (hr2 : Kd.C k36 w A2 l2.length l2) (hc2 : l2.length ≤ c2) (h : spoorref19_row.f k a0 l1 l2 = some r) :
  Calls Try.prog 33 #[.int .i64 a0, .slice A1 l1.length c1, .slice A2 l2.length c2] w fun e w' => ∃ v0_ : Value, e = .returned (v0_) ∧ Kd.R k36 36 w' w.heap.size (fun _ => True) v0_ r ∧ Below w.heap.size w w' := by
 have hu36 := Try.underlying36
 have HR1 := Ax hr1
 have HC1 := Ax hc1
 clear hr1 hc1
 have HR2 := Ax hr2
 have HC2 := Ax hc2
 clear hr2 hc2
 have HB := Ax (Below.refl w.heap.size w)
 have H : ((some (([] : List (S36)) : List (S36))).bind fun y176 => (if y176.length + l1.length < 8796093022208 then ((some (y176 ++ l1 : List (S36))).bind fun y179 => (if y179.length + l2.length < 8796093022208 then ((some (y179 ++ l2 : List (S36))).bind fun y182 => (spoorref19_row.l0 k a0 l1 l2 ([] : List Int) y182 (y182.length : Int) 0)) else (none))) else (none))) = some r := h
 clear h
 obtain ⟨y176, hy176⟩ : ∃ y_ : List (S36), y_ = (([] : List (S36))) := ⟨_, rfl⟩
 replace H : (if y176.length + l1.length < 8796093022208 then ((some (y176 ++ l1 : List (S36))).bind fun y179 => (if y179.length + l2.length < 8796093022208 then ((some (y179 ++ l2 : List (S36))).bind fun y182 => (spoorref19_row.l0 k a0 l1 l2 ([] : List Int) y182 (y182.length : Int) 0)) else (none))) else (none)) = some r := by first | (rw [hy176]; with_reducible exact H) | (have H2_ := (Option.bind_some _ _).symm.trans H; rw [hy176]; with_reducible exact H2_) | (have H2_ := (Option.bind_some _ _).symm.trans H; with_reducible exact H2_) | with_reducible exact H | (rw [hy176]; exact H) | exact H
 have Ny176 := Ax hy176
 clear hy176
 by_cases c4 : y176.length + l1.length < 8796093022208
 ·rw [if_pos c4] at H
  have LMc4 := Ax c4
  clear c4
  obtain ⟨y179, hy179⟩ : ∃ y_ : List (S36), y_ = (y176 ++ l1) := ⟨_, rfl⟩
  replace H : (if y179.length + l2.length < 8796093022208 then ((some (y179 ++ l2 : List (S36))).bind fun y182 => (spoorref19_row.l0 k a0 l1 l2 ([] : List Int) y182 (y182.length : Int) 0)) else (none)) = some r := by first | (rw [hy179]; with_reducible exact H) | (have H2_ := (Option.bind_some _ _).symm.trans H; rw [hy179]; with_reducible exact H2_) | (have H2_ := (Option.bind_some _ _).symm.trans H; with_reducible exact H2_) | with_reducible exact H | (rw [hy179]; exact H) | exact H
  have Ny179 := Ax hy179
  clear hy179
  by_cases c5 : y179.length + l2.length < 8796093022208
  ·rw [if_pos c5] at H
   have LMc5 := Ax c5
   clear c5
   obtain ⟨y182, hy182⟩ : ∃ y_ : List (S36), y_ = (y179 ++ l2) := ⟨_, rfl⟩
   replace H : (spoorref19_row.l0 k a0 l1 l2 ([] : List Int) y182 (y182.length : Int) 0) = some r := by first | (rw [hy182]; with_reducible exact H) | (have H2_ := (Option.bind_some _ _).symm.trans H; rw [hy182]; with_reducible exact H2_) | (have H2_ := (Option.bind_some _ _).symm.trans H; with_reducible exact H2_) | with_reducible exact H | (rw [hy182]; exact H) | exact H
   have Ny182 := Ax hy182
   clear hy182
   have H' := Ax H
   clear H
   go_enter Try.func33, Try.ntmps33
   go_wp2_with (first | ((with_reducible refine gate_dst (N := 17) rfl ?_); refine Kd.R_lit k36 _ 36 ?hg (N := 17) ?hd (xs := ([] : List (S36))) (inner := []) (ok := fun _ => True) (okp := fun _ => True) ?hr ?hp (fun _ hk => hk) trivial (Below.refl _ _) (Nat.le_refl _) (by simp) ?_; (case hd => rfl); (case hg => rfl); (case hr => first | (go_simp; done) | (go_simp; rfl)); (case hp => exact (Reps.none _ _)); intro v177 w6 ho7 hb hg_ hnew_; clear hg_ hnew_; (first | rw [← Ny176.out] at ho7 | (simp only [Int.reduceToNat] at ho7; rw [← Ny176.out] at ho7)); have HO178 := Ax (Kd.R_lower ho7 (below_size (bw0 HB.out))); replace HB := Bs0 HB hb; clear hb ho7) | ((with_reducible refine gate_builtin (b := .append) (xs := #[.tmp 17, .tmp 18]) rfl ?_); at_builtin; refine Kd.R_append_rows k36 (w0 := w) w.heap.size rfl (.tmp 17) (.tmp 18) 22 36 (.agg #[(.int .i64 0), (.int .i64 0)]) 16 rfl Try.underlying22 info36 rfl (by decide) (by omega) v177 y176 l1 _ _ _ (fun _ => True) (fun _ => False) rfl rfl ?aO ?aR (fun _ _ h => h) (fun _ h => h.elim) ?aF ?aB ?aS ?aL ?_; (case aR => repeat (first | exact (Kd.C_below HR1.out HB.out) | (with_reducible refine Kd.C_alloc ?_ _) | (with_reducible refine Kd.C_drewN ?_ _) | (with_reducible refine Kd.C_drew ?_))); (case aB => exact (bw0 HB.out)); (case aF => exact (fun _ _ => trivial)); (case aO => exact (by (with_reducible repeat (first | apply Kd.R_alloc | apply Kd.R_drewN | apply Kd.R_drew)); exact HO178.out)); (case aS => exact (below_size (bw0 HB.out))); (case aL => have := LMc4.out; omega); intro v180 w8 ho hb hg hat; rw [← Ny179.out] at ho; have n0_ := Ax (hb); have n1_ := Ax (ho); clear HB; clear HO178; have HB := n0_; have HO181 := n1_; clear n0_ n1_; clear ho hb hg hat) | ((with_reducible refine gate_builtin (b := .append) (xs := #[.tmp 19, .tmp 20]) rfl ?_); at_builtin; refine Kd.R_append_rows k36 (w0 := w) w.heap.size rfl (.tmp 19) (.tmp 20) 22 36 (.agg #[(.int .i64 0), (.int .i64 0)]) 16 rfl Try.underlying22 info36 rfl (by decide) (by omega) v180 y179 l2 _ _ _ (fun _ => True) (fun _ => False) rfl rfl ?aO ?aR (fun _ _ h => h) (fun _ h => h.elim) ?aF ?aB ?aS ?aL ?_; (case aR => repeat (first | exact (Kd.C_below HR2.out HB.out) | (with_reducible refine Kd.C_alloc ?_ _) | (with_reducible refine Kd.C_drewN ?_ _) | (with_reducible refine Kd.C_drew ?_))); (case aB => exact (bw0 HB.out)); (case aF => exact (fun _ _ => trivial)); (case aO => exact (by (with_reducible repeat (first | apply Kd.R_alloc | apply Kd.R_drewN | apply Kd.R_drew)); exact HO181.out)); (case aS => exact (below_size (bw0 HB.out))); (case aL => have := LMc5.out; omega); intro v183 w9 ho hb hg hat; rw [← Ny182.out] at ho; have n0_ := Ax (hb); have n1_ := Ax (ho); clear HB; clear HO181; have HB := n0_; have HO184 := n1_; clear n0_ n1_; clear ho hb hg hat; obtain ⟨Ao10, co10, eo10⟩ := Kd.R_slice HO184.out; subst eo10))
   go_loopg [7, 23] k (fun kq v7 v23 w' => ∃ (x7_1 : List Int) (x23_1 : Int), v23 = .int .i64 x23_1 ∧ Aside0 (spoorref19_row.l0 kq a0 l1 l2 x7_1 y182 (y182.length : Int) x23_1 = some r) ∧ Aside0 (kq ≤ k) ∧ Aside0 (Kd.R (Kd.int .i64) 2 w' w.heap.size (fun _ => True) v7 x7_1) ∧ Aside0 (Kd.R k36 36 w' w.heap.size (fun _ => True) (.slice Ao10 y182.length co10) y182) ∧ Aside0 (Below w.heap.size w w'))
   case atStart => exact ⟨(([] : List Int)), (0), rS, H', ⟨Nat.le_refl _⟩, ⟨by first | exact Kd.R_nil _ _ _ _ _ | exact Kd.N_nil _ _ _ _ _ | exact Kd.V_nil _ _ _ _ _ | exact Kd.Q_nil _ _ _ _ _ | exact Kd.S_nil _ _ _ _ _⟩, ⟨by (with_reducible repeat (first | apply Kd.R_alloc | apply Kd.R_drewN | apply Kd.R_drew)); exact HO184.out⟩, ⟨bw0 HB.out⟩⟩
   case round =>
    clear H'
    try clear c1
    try clear c2
    try clear p2
    try clear c3
    try clear c4
    try clear c5
    obtain ⟨x7_1, x23_1, rfl, HA, HK1, HO_7, HO_21, HB⟩ := hrel
    cases gk with
    | zero => exact absurd HA.out (by simp [spoorref19_row.l0])
    | succ k1 =>
     have H := HA.out
     clear HA
     simp only [spoorref19_row.l0] at H
     by_cases c11 : x23_1 < (y182.length : Int)
     ·rw [if_pos c11] at H
      have c11b0 : decide (x23_1 < (y182.length : Int)) = true := decide_eq_true c11
      clear c11
      by_cases c12 : 0 ≤ x23_1
      ·rw [if_pos c12] at H
       have c12b0 : decide (0 ≤ x23_1) = true := decide_eq_true c12
       clear c12
       by_cases c13 : x23_1 < (y182.length : Int)
       ·rw [if_pos c13] at H
        have c13b0 : decide (x23_1 < (y182.length : Int)) = true := decide_eq_true c13
        clear c13
        obtain ⟨y187, hy187⟩ : ∃ y_ : List Int, y_ = (([(rd_T36 y182 x23_1).f0, wrap64 (((rd_T36 y182 x23_1).f1) + 1)] : List Int)) := ⟨_, rfl⟩
        replace H : (if x7_1.length + y187.length < 17592186044416 then (spoorref19_row.l0 k1 a0 l1 l2 (x7_1 ++ y187) y182 (y182.length : Int) (wrap64 (x23_1 + 1))) else (none)) = some r := by first | (rw [hy187]; with_reducible exact H) | (have H2_ := (Option.bind_some _ _).symm.trans H; rw [hy187]; with_reducible exact H2_) | (have H2_ := (Option.bind_some _ _).symm.trans H; with_reducible exact H2_) | with_reducible exact H | (rw [hy187]; exact H) | exact H
        have Ny187 := Ax hy187
        clear hy187
        by_cases c14 : x7_1.length + y187.length < 17592186044416
        ·rw [if_pos c14] at H
         have LMc14 := Ax c14
         clear c14
         obtain ⟨y190, hy190⟩ : ∃ y_ : List Int, y_ = (x7_1 ++ y187) := ⟨_, rfl⟩
         replace H : (spoorref19_row.l0 k1 a0 l1 l2 y190 y182 (y182.length : Int) (wrap64 (x23_1 + 1))) = some r := by first | (rw [hy190]; with_reducible exact H) | (have H2_ := (Option.bind_some _ _).symm.trans H; rw [hy190]; with_reducible exact H2_) | (have H2_ := (Option.bind_some _ _).symm.trans H; with_reducible exact H2_) | with_reducible exact H | (rw [hy190]; exact H) | exact H
         have Ny190 := Ax hy190
         clear hy190
         have H' := Ax H
         clear H
         have p185 : 0 ≤ (x23_1 : Int) := of_decide_eq_true (by first | (with_reducible assumption) | assumption)
         have q185 : x23_1 < (y182.length : Int) := of_decide_eq_true (by first | (with_reducible assumption) | assumption)
         obtain ⟨ad185, e185, hx185_0, hx185_1⟩ := at_T36 (Kd.R_reads' HO_21.out).2.2 x23_1 p185 q185
         cases e185
         replace p185 := eq_true p185
         replace q185 := eq_true q185
         go_wp2_with (first | ((with_reducible refine gate_dst (N := 9) rfl ?_); refine box_event ?hg (N := 9) ?hd (cs := #[.int .i64 0, .int .i64 0]) (t := 36) ?hr ?_; (case hd => rfl); (case hg => rfl); (case hr => first | (go_simp; done) | (go_simp; rfl)); intro gb186 hg w15 hbox hb; have n0_ := Ax (Kd.R_below (by (with_reducible repeat (first | apply Kd.R_alloc | apply Kd.R_drewN | apply Kd.R_drew)); exact HO_7.out) hb); have n1_ := Ax (Kd.R_below (Kd.R_elderB (by (with_reducible repeat (first | apply Kd.R_alloc | apply Kd.R_drewN | apply Kd.R_drew)); exact HO_21.out) gb186 (Nat.le_of_eq hg.symm)) hb); have n2_ := Bs0 HB hb; have n3_ := Ax (hbox); have n4_ := Gw0 HB hg; have n5_ := Gw0 HB hg; clear HO_7; clear HO_21; clear HB; have HO_7 := n0_; have HO_21 := n1_; have HB := n2_; have BK186 := n3_; have GW186 := n4_; have GE186 := n5_; clear n0_ n1_ n2_ n3_ n4_ n5_; clear hb hbox hg; obtain ⟨hcz16_0, hcz16_1, hfz16_0, hfz16_1⟩ := cl2 BK186) | ((with_reducible refine gate_dst (N := 33) rfl ?_); refine Kd.R_lit (Kd.int .i64) _ 2 ?hg (N := 33) ?hd (xs := ([(rd_T36 y182 x23_1).f0, wrap64 (((rd_T36 y182 x23_1).f1) + 1)] : List Int)) (inner := [.int .i64 ((rd_T36 y182 x23_1).f0), .int .i64 (wrap64 (((rd_T36 y182 x23_1).f1) + 1))]) (ok := fun _ => True) (okp := fun _ => True) ?hr ?hp (fun _ hk => hk) trivial (Below.refl _ _) (Nat.le_refl _) (by simp) ?_; (case hd => rfl); (case hg => rfl); (case hr => first | (go_simp; done) | (go_simp; rfl)); (case hp => exact (Reps.one (show Kd.M (Kd.int .i64) _ _ _ ((rd_T36 y182 x23_1).f0) [.int .i64 ((rd_T36 y182 x23_1).f0)] from rfl) (Reps.one (show Kd.M (Kd.int .i64) _ _ _ (wrap64 (((rd_T36 y182 x23_1).f1) + 1)) [.int .i64 (wrap64 (((rd_T36 y182 x23_1).f1) + 1))] from rfl) (Reps.none _ _)))); intro v188 w17 ho18 hb hg_ hnew_; clear hg_ hnew_; (first | rw [← Ny187.out] at ho18 | (simp only [Int.reduceToNat] at ho18; rw [← Ny187.out] at ho18)); have n0_ := Ax (Kd.R_elder' (by (with_reducible repeat (first | apply Kd.R_alloc | apply Kd.R_drewN | apply Kd.R_drew)); exact (Kd.R_mono (Kd.R_far (p := ⟨gb186, 1, none⟩) (Kd.R_far (p := ⟨gb186, 0, none⟩) (Kd.R_types HO_7.out BK186.out (by decide)) (fun _ hk => hk.2) (.int .i64 ((rd_T36 y182 x23_1).f0))) (fun _ hk => hk.2) (.int .i64 ((rd_T36 y182 x23_1).f1))) (fun _ h_ => h_.1))) (Kd.R_base ho18) hb); have n1_ := Ax (Kd.R_below (by (with_reducible repeat (first | apply Kd.R_alloc | apply Kd.R_drewN | apply Kd.R_drew)); exact (Kd.R_mono (Kd.R_far (p := ⟨gb186, 1, none⟩) (Kd.R_far (p := ⟨gb186, 0, none⟩) (Kd.R_mono HO_21.out (fun k_ hk => (⟨hk, hk.2⟩ : _ ∧ k_ ≠ gb186))) (fun _ hk => hk.2) (.int .i64 ((rd_T36 y182 x23_1).f0))) (fun _ hk => hk.2) (.int .i64 ((rd_T36 y182 x23_1).f1))) (fun _ h_ => h_.1))) hb); have n2_ := Ax (Kd.R_lower (Kd.R_new' ho18 (Kd.R_lt (by (with_reducible repeat (first | apply Kd.R_alloc | apply Kd.R_drewN | apply Kd.R_drew)); exact (Kd.R_mono (Kd.R_far (p := ⟨gb186, 1, none⟩) (Kd.R_far (p := ⟨gb186, 0, none⟩) (Kd.R_types HO_7.out BK186.out (by decide)) (fun _ hk => hk.2) (.int .i64 ((rd_T36 y182 x23_1).f0))) (fun _ hk => hk.2) (.int .i64 ((rd_T36 y182 x23_1).f1))) (fun _ h_ => h_.1))))) (below_size (bw1 HB.out GE186.out))); have n3_ := Ax (blk_below (g := gb186) (o := .cells #[.int .i64 ((rd_T36 y182 x23_1).f0), .int .i64 ((rd_T36 y182 x23_1).f1)] 36 (0, 0)) (by (with_reducible repeat (first | refine blk_drewN ?_ _ | refine blk_drew ?_ | refine blk_alloc ?_ _)); refine blk_put (cs := #[.int .i64 ((rd_T36 y182 x23_1).f0), .int .i64 0]) ?_ 1 _ rfl; (with_reducible repeat (first | refine blk_drewN ?_ _ | refine blk_drew ?_ | refine blk_alloc ?_ _)); refine blk_put (cs := #[.int .i64 0, .int .i64 0]) ?_ 0 _ rfl; (with_reducible repeat (first | refine blk_drewN ?_ _ | refine blk_drew ?_ | refine blk_alloc ?_ _)); exact BK186.out) hb); have n4_ := Bs1 HB hb GE186.out; clear HO_7; clear HO_21; clear BK186; clear HB; have HO_7 := n0_; have HO_21 := n1_; have HO189 := n2_; have BK186 := n3_; have HB := n4_; clear n0_ n1_ n2_ n3_ n4_; clear hb ho18; obtain ⟨Ao20, co20, eo20⟩ := Kd.R_slice HO189.out; subst eo20) | ((with_reducible refine gate_builtin (b := .append) (xs := #[.tmp 27, .tmp 33]) rfl ?_); at_builtin; refine Kd.R_append_rows (Kd.int .i64) (w0 := w) w.heap.size rfl (.tmp 27) (.tmp 33) 67 2 (.int .i64 0) 8 rfl Try.underlying67 info2 rfl (by decide) (by omega) u7 x7_1 y187 _ _ _ (fun k_ => some k_ ≠ (.slice Ao20 y187.length co20 : Value).ownBlock) (fun _ => False) rfl rfl ?aO ?aR (fun _ _ h => h) (fun _ h => h.elim) ?aF ?aB ?aS ?aL ?_; (case aR => repeat (first | exact (Kd.R_reads' HO189.out).2.2 | (with_reducible refine Kd.C_alloc ?_ _) | (with_reducible refine Kd.C_drewN ?_ _) | (with_reducible refine Kd.C_drew ?_))); (case aB => exact (bw1 HB.out GE186.out)); (case aF => exact (fun k_ hk => Kd.fresh' (Kd.R_lt (by (with_reducible repeat (first | apply Kd.R_alloc | apply Kd.R_drewN | apply Kd.R_drew)); exact HO189.out)) k_ hk)); (case aO => exact (by (with_reducible repeat (first | apply Kd.R_alloc | apply Kd.R_drewN | apply Kd.R_drew)); exact Kd.R_mono HO_7.out (fun _ hk => hk.2))); (case aS => exact (below_size (bw1 HB.out GE186.out))); (case aL => have := LMc14.out; omega); intro v191 w19 ho hb hg hat; rw [← Ny190.out] at ho; have n0_ := Ax (Kd.R_over' (by (with_reducible repeat (first | apply Kd.R_alloc | apply Kd.R_drewN | apply Kd.R_drew)); exact HO_21.out) (Kd.R_typed (by (with_reducible repeat (first | apply Kd.R_alloc | apply Kd.R_drewN | apply Kd.R_drew)); exact HO_7.out)) (by decide) hg); have n1_ := Ax (blk_grown (g := gb186) (o := .cells #[.int .i64 ((rd_T36 y182 x23_1).f0), .int .i64 ((rd_T36 y182 x23_1).f1)] 36 (0, 0)) (bf0 BK186.out) hg (Kd.R_ne HO_7.out BK186.out (by decide))); have n2_ := Ax (Kd.R_after (ok := (fun _ => True)) (by (with_reducible repeat (first | apply Kd.R_alloc | apply Kd.R_drewN | apply Kd.R_drew)); exact HO189.out) hg hat); have n3_ := Ax (hb); have n4_ := Ax (ho); clear HO_21; clear BK186; clear HO189; clear HB; clear HO_7; have HO_21 := n0_; have BK186 := n1_; have HO189 := n2_; have HB := n3_; have HO192 := n4_; clear n0_ n1_ n2_ n3_ n4_; clear ho hb hg hat))
         go_roundg k1
         case measure => have := HK1.out; omega
         case rel => exact ⟨(y190), (wrap64 (x23_1 + 1)), rS, H', ⟨by have := HK1.out; omega⟩, ⟨by (with_reducible repeat (first | apply Kd.R_alloc | apply Kd.R_drewN | apply Kd.R_drew)); exact Kd.R_mono HO192.out (fun _ hk => trivial)⟩, ⟨by (with_reducible repeat (first | apply Kd.R_alloc | apply Kd.R_drewN | apply Kd.R_drew)); exact Kd.R_mono HO_21.out (fun _ hk => trivial)⟩, ⟨bw1 HB.out GE186.out⟩⟩
        ·rw [if_neg c14] at H
         exact absurd H (by simp)
       ·rw [if_neg c13] at H
        exact absurd H (by simp)
      ·rw [if_neg c12] at H
       exact absurd H (by simp)
     ·rw [if_neg c11] at H
      have c11b0 : decide (x23_1 < (y182.length : Int)) = false := decide_eq_false c11
      clear c11
      replace H := Option.bind_eq_some_iff.mp H
      obtain ⟨t193, A210, H⟩ := H
      replace H : (spoorref19_row.l1 k1 a0 l1 l2 ([] : List (S36)) false t193 (t193.length : Int) 0) = some r := H
      have A21 := Ax A210
      clear A210
      have H' := Ax H
      clear H
      obtain ⟨Ao22, co22, eo22⟩ := Kd.R_slice HO_7.out
      subst eo22
      go_wp2_with (first | ((with_reducible refine gate_callee (f := 49) rfl ?_); refine goesL_ (some 37) rfl rfl Try.func49 (by kernel_rfl) rfl #[.slice Ao22 x7_1.length co22] rfl gS ?_; (with_reducible refine (spoorref19_Sorted.calls k1 _ _ x7_1 t193 _ ?side1 ?side2 A21.out).mono ?_); (case side1 => repeat (first | exact (Kd.R_reads' HO_7.out).2.2 | (with_reducible refine Kd.C_alloc ?_ _) | (with_reducible refine Kd.C_drewN ?_ _) | (with_reducible refine Kd.C_drew ?_))); (case side2 => exact (Kd.R_reads' HO_7.out).2.1); rintro e w23 ⟨v194, rfl, ho0, hb⟩; refine ⟨_, rfl, ?_⟩; have n0_ := Ax (Kd.R_elder' (by (with_reducible repeat (first | apply Kd.R_alloc | apply Kd.R_drewN | apply Kd.R_drew)); exact HO_7.out) (Kd.R_base ho0) hb); have n1_ := Ax (Kd.R_below (by (with_reducible repeat (first | apply Kd.R_alloc | apply Kd.R_drewN | apply Kd.R_drew)); exact HO_21.out) hb); have n2_ := Ax (Kd.R_lower (Kd.R_new' ho0 (Kd.R_lt (by (with_reducible repeat (first | apply Kd.R_alloc | apply Kd.R_drewN | apply Kd.R_drew)); exact HO_7.out))) (below_size (bw0 HB.out))); have n3_ := Bs0 HB hb; clear HO_7; clear HO_21; clear HB; have HO_7 := n0_; have HO_21 := n1_; have HO195 := n2_; have HB := n3_; clear n0_ n1_ n2_ n3_; (try clear hb); (try clear hb2); (try clear hk); (try clear hi); (try clear ho0); obtain ⟨Ao24, co24, eo24⟩ := Kd.R_slice HO195.out; subst eo24))
      go_loopg [10, 11, 39] k1 (fun kq v10 v11 v39 w' => ∃ (x10_2 : List (S36)) (x11_2 : Bool) (x39_2 : Int), v11 = .bool x11_2 ∧ v39 = .int .i64 x39_2 ∧ Aside0 (spoorref19_row.l1 kq a0 l1 l2 x10_2 x11_2 t193 (t193.length : Int) x39_2 = some r) ∧ Aside0 (kq ≤ k1) ∧ Aside0 (Kd.R k36 36 w' w.heap.size (fun _ => True) v10 x10_2) ∧ Aside0 (Kd.R (Kd.int .i64) 2 w' w.heap.size (fun _ => True) (.slice Ao24 t193.length co24) t193) ∧ Aside0 (Below w.heap.size w w'))
      case atStart => exact ⟨(([] : List (S36))), (false), (0), rS, rS, H', ⟨Nat.le_refl _⟩, ⟨by first | exact Kd.R_nil _ _ _ _ _ | exact Kd.N_nil _ _ _ _ _ | exact Kd.V_nil _ _ _ _ _ | exact Kd.Q_nil _ _ _ _ _ | exact Kd.S_nil _ _ _ _ _⟩, ⟨by (with_reducible repeat (first | apply Kd.R_alloc | apply Kd.R_drewN | apply Kd.R_drew)); exact Kd.R_mono HO195.out (fun _ hk => trivial)⟩, ⟨bw0 HB.out⟩⟩
      case round =>
       clear H'
       try clear c1
       try clear p1
       try clear q1
       try clear hx1
       try clear c2
       try clear p2
       try clear c3
       try clear c4
       try clear c5
       try clear p6
       try clear c11
       try clear c11b0
       try clear c12
       try clear c12b0
       try clear c13
       try clear c13b0
       try clear c14
       try clear p18
       try clear q18
       try clear hx18
       try clear hcz16_0
       try clear hcz16_1
       try clear hfz16_0
       try clear hfz16_1
       try clear hx185_0
       try clear hx185_1
       try clear p185
       try clear p2
       try clear q185
       obtain ⟨x10_2, x11_2, x39_2, rfl, rfl, HA, HK2, HO_10, HO_37, HB⟩ := hrel
       cases gk with
       | zero => exact absurd HA.out (by simp [spoorref19_row.l1])
       | succ k2 =>
        have H := HA.out
        clear HA
        simp only [spoorref19_row.l1] at H
        by_cases c25 : x39_2 < (t193.length : Int)
        ·rw [if_pos c25] at H
         have c25b0 : decide (x39_2 < (t193.length : Int)) = true := decide_eq_true c25
         clear c25
         by_cases c26 : 0 ≤ x39_2
         ·rw [if_pos c26] at H
          have c26b0 : decide (0 ≤ x39_2) = true := decide_eq_true c26
          clear c26
          by_cases c27 : x39_2 < (t193.length : Int)
          ·rw [if_pos c27] at H
           have c27b0 : decide (x39_2 < (t193.length : Int)) = true := decide_eq_true c27
           clear c27
           replace H := Option.bind_eq_some_iff.mp H
           obtain ⟨t197, A280, H⟩ := H
           replace H : ((spoorref19_in.f k2 l2 (rd t193 x39_2)).bind fun t198 => (if t197 = true then (spoorref19_row.j2 k2 a0 l1 l2 x10_2 x11_2 (rd t193 x39_2) t197 t198 true t193 (t193.length : Int) x39_2) else (spoorref19_row.j2 k2 a0 l1 l2 x10_2 x11_2 (rd t193 x39_2) t197 t198 t198 t193 (t193.length : Int) x39_2))) = some r := H
           have A28 := Ax A280
           clear A280
           replace H := Option.bind_eq_some_iff.mp H
           obtain ⟨t198, A290, H⟩ := H
           replace H : (if t197 = true then (spoorref19_row.j2 k2 a0 l1 l2 x10_2 x11_2 (rd t193 x39_2) t197 t198 true t193 (t193.length : Int) x39_2) else (spoorref19_row.j2 k2 a0 l1 l2 x10_2 x11_2 (rd t193 x39_2) t197 t198 t198 t193 (t193.length : Int) x39_2)) = some r := H
           have A29 := Ax A290
           clear A290
           have HC30 := Ax H
           clear H
           have p196 : 0 ≤ (x39_2 : Int) := of_decide_eq_true (by first | (with_reducible assumption) | assumption)
           have q196 : x39_2 < (t193.length : Int) := of_decide_eq_true (by first | (with_reducible assumption) | assumption)
           obtain ⟨ad196, e196, hx196_0⟩ := Kd.at_int (Kd.R_reads' HO_37.out).2.2 x39_2 p196 q196
           cases e196
           replace p196 := eq_true p196
           replace q196 := eq_true q196
           go_upto_region 13 with (first | ((with_reducible refine gate_callee (f := 35) rfl ?_); refine goesL_ (some 45) rfl rfl Try.func35 (by kernel_rfl) rfl #[.slice A1 l1.length c1, .int .i64 (rd t193 x39_2)] rfl gS ?_; (with_reducible refine (spoorref19_in.calls k2 _ _ l1 (rd t193 x39_2) t197 _ ?side1 ?side2 A28.out).mono ?_); (case side1 => repeat (first | exact (Kd.C_below HR1.out HB.out) | (with_reducible refine Kd.C_alloc ?_ _) | (with_reducible refine Kd.C_drewN ?_ _) | (with_reducible refine Kd.C_drew ?_))); (case side2 => exact HC1.out); rintro e w31 ⟨rfl, hb⟩; refine ⟨_, rfl, ?_⟩; have n0_ := Ax (Kd.R_below (by (with_reducible repeat (first | apply Kd.R_alloc | apply Kd.R_drewN | apply Kd.R_drew)); exact HO_10.out) hb); have n1_ := Ax (Kd.R_below (by (with_reducible repeat (first | apply Kd.R_alloc | apply Kd.R_drewN | apply Kd.R_drew)); exact HO_37.out) hb); have n2_ := Bs0 HB hb; clear HO_10; clear HO_37; clear HB; have HO_10 := n0_; have HO_37 := n1_; have HB := n2_; clear n0_ n1_ n2_; (try clear hb); (try clear hb2); (try clear hk); (try clear hi)) | ((with_reducible refine gate_callee (f := 35) rfl ?_); refine goesL_ (some 48) rfl rfl Try.func35 (by kernel_rfl) rfl #[.slice A2 l2.length c2, .int .i64 (rd t193 x39_2)] rfl gS ?_; (with_reducible refine (spoorref19_in.calls k2 _ _ l2 (rd t193 x39_2) t198 _ ?side1 ?side2 A29.out).mono ?_); (case side1 => repeat (first | exact (Kd.C_below HR2.out HB.out) | (with_reducible refine Kd.C_alloc ?_ _) | (with_reducible refine Kd.C_drewN ?_ _) | (with_reducible refine Kd.C_drew ?_))); (case side2 => exact HC2.out); rintro e w32 ⟨rfl, hb⟩; refine ⟨_, rfl, ?_⟩; have n0_ := Ax (Kd.R_below (by (with_reducible repeat (first | apply Kd.R_alloc | apply Kd.R_drewN | apply Kd.R_drew)); exact HO_10.out) hb); have n1_ := Ax (Kd.R_below (by (with_reducible repeat (first | apply Kd.R_alloc | apply Kd.R_drewN | apply Kd.R_drew)); exact HO_37.out) hb); have n2_ := Bs0 HB hb; clear HO_10; clear HO_37; clear HB; have HO_10 := n0_; have HO_37 := n1_; have HB := n2_; clear n0_ n1_ n2_; (try clear hb); (try clear hb2); (try clear hk); (try clear hi)))
           (try simp only [Act.put, List.setIfInBounds_toArray, List.set_cons_zero, List.set_cons_succ])
           go_cut [16] (fun v16 wc => ∃ (kq : Nat) (x16_29 : Bool), v16 = .bool x16_29 ∧ Aside0 (spoorref19_row.j2 kq a0 l1 l2 x10_2 x11_2 (rd t193 x39_2) t197 t198 x16_29 t193 (t193.length : Int) x39_2 = some r) ∧ Aside0 (kq ≤ k2) ∧ Aside0 (Kd.R k36 36 wc w.heap.size (fun _ => True) u10 x10_2) ∧ Aside0 (Kd.R (Kd.int .i64) 2 wc w.heap.size (fun _ => True) (.slice (some ad196) t193.length co24) t193) ∧ Aside0 (Below w.heap.size w wc))
           case first =>
            have H := HC30.out
            clear HC30
            by_cases c33 : t197 = true
            ·subst c33
             have H1 : (spoorref19_row.j2 k2 a0 l1 l2 x10_2 x11_2 (rd t193 x39_2) true t198 true t193 (t193.length : Int) x39_2) = some r := by rw [if_pos rfl] at H; exact H
             clear H
             have H := H1
             clear H1
             have H' := Ax H
             clear H
             go_wp2
             go_meet
             case rel => exact ⟨_, (true), rS, H', ⟨by have := HK1.out; have := HK2.out; first | omega | exact Nat.le_refl _⟩, ⟨by (with_reducible repeat (first | apply Kd.R_alloc | apply Kd.R_drewN | apply Kd.R_drew)); exact HO_10.out⟩, ⟨by (with_reducible repeat (first | apply Kd.R_alloc | apply Kd.R_drewN | apply Kd.R_drew)); exact HO_37.out⟩, ⟨bw0 HB.out⟩⟩
            ·replace c33 := Bool.eq_false_iff.mpr c33
             subst c33
             have H1 : (spoorref19_row.j2 k2 a0 l1 l2 x10_2 x11_2 (rd t193 x39_2) false t198 t198 t193 (t193.length : Int) x39_2) = some r := by rw [if_neg (show ¬ (false = true) by decide)] at H; exact H
             clear H
             have H := H1
             clear H1
             have H' := Ax H
             clear H
             go_wp2
             go_meet
             case rel => exact ⟨_, (t198), rS, H', ⟨by have := HK1.out; have := HK2.out; first | omega | exact Nat.le_refl _⟩, ⟨by (with_reducible repeat (first | apply Kd.R_alloc | apply Kd.R_drewN | apply Kd.R_drew)); exact HO_10.out⟩, ⟨by (with_reducible repeat (first | apply Kd.R_alloc | apply Kd.R_drewN | apply Kd.R_drew)); exact HO_37.out⟩, ⟨bw0 HB.out⟩⟩
           case rest =>
            clear HC30
            try clear c1
            try clear p1
            try clear q1
            try clear hx1
            try clear c2
            try clear p2
            try clear c3
            try clear c4
            try clear c5
            try clear p6
            try clear c11
            try clear c11b0
            try clear c12
            try clear c12b0
            try clear c13
            try clear c13b0
            try clear c14
            try clear p18
            try clear q18
            try clear hx18
            try clear p19
            try clear q19
            try clear hx19
            try clear c25
            try clear c25b0
            try clear c26
            try clear c26b0
            try clear c27
            try clear c27b0
            try clear c33
            try clear hcz16_0
            try clear hcz16_1
            try clear hfz16_0
            try clear hfz16_1
            try clear hx185_0
            try clear hx185_1
            try clear hx196_0
            try clear p1
            try clear p18
            try clear p185
            try clear p196
            try clear p2
            try clear p6
            try clear q1
            try clear q18
            try clear q185
            try clear q196
            obtain ⟨kq, x16_29, rfl, HA, HJ29, HO_10, HO_37, HB⟩ := hcut
            cases kq with
            | zero => exact absurd HA.out (by simp [spoorref19_row.j2])
            | succ kj29 =>
             have H := HA.out
             clear HA
             simp only [spoorref19_row.j2] at H
             have HC34 := Ax H
             clear H
             go_upto_if 54 with (fail)
             go_cut [16] (fun v16 wc => ∃ (kq : Nat) (x16_33 : Bool), v16 = .bool x16_33 ∧ Aside0 (spoorref19_row.j3 kq a0 l1 l2 x10_2 x11_2 (rd t193 x39_2) t197 t198 x16_33 t193 (t193.length : Int) x39_2 = some r) ∧ Aside0 (kq ≤ kj29) ∧ Aside0 (Kd.R k36 36 wc w.heap.size (fun _ => True) u10 x10_2) ∧ Aside0 (Kd.R (Kd.int .i64) 2 wc w.heap.size (fun _ => True) (.slice (some ad196) t193.length co24) t193) ∧ Aside0 (Below w.heap.size w wc))
             case first =>
              have H := HC34.out
              clear HC34
              by_cases c35 : a0 = 1
              ·rw [if_pos c35] at H
               have c35b0 : (a0 == 1) = true := beq_iff_eq.mpr c35
               have c35b1 : (a0 != 1) = false := bne_eq_false_iff_eq.mpr c35
               clear c35
               (first | rw [c35b0] | (simp only [i64_w, i32_w]; rw [c35b0]) | skip)
               by_cases c36 : t197 = true
               ·subst c36
                have H1 : (spoorref19_row.j3 kj29 a0 l1 l2 x10_2 x11_2 (rd t193 x39_2) true t198 t198 t193 (t193.length : Int) x39_2) = some r := by rw [if_pos rfl] at H; exact H
                clear H
                have H := H1
                clear H1
                have H' := Ax H
                clear H
                go_wp2
                go_meet
                case rel => exact ⟨_, (t198), rS, H', ⟨by have := HK1.out; have := HK2.out; have := HJ29.out; first | omega | exact Nat.le_refl _⟩, ⟨by (with_reducible repeat (first | apply Kd.R_alloc | apply Kd.R_drewN | apply Kd.R_drew)); exact HO_10.out⟩, ⟨by (with_reducible repeat (first | apply Kd.R_alloc | apply Kd.R_drewN | apply Kd.R_drew)); exact HO_37.out⟩, ⟨bw0 HB.out⟩⟩
               ·replace c36 := Bool.eq_false_iff.mpr c36
                subst c36
                have H1 : (spoorref19_row.j3 kj29 a0 l1 l2 x10_2 x11_2 (rd t193 x39_2) false t198 false t193 (t193.length : Int) x39_2) = some r := by rw [if_neg (show ¬ (false = true) by decide)] at H; exact H
                clear H
                have H := H1
                clear H1
                have H' := Ax H
                clear H
                go_wp2
                go_meet
                case rel => exact ⟨_, (false), rS, H', ⟨by have := HK1.out; have := HK2.out; have := HJ29.out; first | omega | exact Nat.le_refl _⟩, ⟨by (with_reducible repeat (first | apply Kd.R_alloc | apply Kd.R_drewN | apply Kd.R_drew)); exact HO_10.out⟩, ⟨by (with_reducible repeat (first | apply Kd.R_alloc | apply Kd.R_drewN | apply Kd.R_drew)); exact HO_37.out⟩, ⟨bw0 HB.out⟩⟩
              ·rw [if_neg c35] at H
               have c35b0 : (a0 == 1) = false := beq_eq_false_iff_ne.mpr c35
               have c35b1 : (a0 != 1) = true := bne_iff_ne.mpr c35
               (first | rw [c35b0] | (simp only [i64_w, i32_w]; rw [c35b0]) | skip)
               have H' := Ax H
               clear H
               go_wp2
               go_meet
               case rel => exact ⟨_, (x16_29), rS, H', ⟨by have := HK1.out; have := HK2.out; have := HJ29.out; first | omega | exact Nat.le_refl _⟩, ⟨by (with_reducible repeat (first | apply Kd.R_alloc | apply Kd.R_drewN | apply Kd.R_drew)); exact HO_10.out⟩, ⟨by (with_reducible repeat (first | apply Kd.R_alloc | apply Kd.R_drewN | apply Kd.R_drew)); exact HO_37.out⟩, ⟨bw0 HB.out⟩⟩
             case rest =>
              clear HC34
              try clear c1
              try clear p1
              try clear q1
              try clear hx1
              try clear c2
              try clear p2
              try clear c3
              try clear c4
              try clear c5
              try clear p6
              try clear c11
              try clear c11b0
              try clear c12
              try clear c12b0
              try clear c13
              try clear c13b0
              try clear c14
              try clear p18
              try clear q18
              try clear hx18
              try clear p19
              try clear q19
              try clear hx19
              try clear c25
              try clear c25b0
              try clear c26
              try clear c26b0
              try clear c27
              try clear c27b0
              try clear c33
              try clear c35
              try clear c35b0
              try clear c35b1
              try clear c36
              try clear hcz16_0
              try clear hcz16_1
              try clear hfz16_0
              try clear hfz16_1
              try clear hx185_0
              try clear hx185_1
              try clear hx196_0
              try clear p1
              try clear p18
              try clear p185
              try clear p19
              try clear p196
              try clear p2
              try clear p6
              try clear q1
              try clear q18
              try clear q185
              try clear q19
              try clear q196
              obtain ⟨kq, x16_33, rfl, HA, HJ33, HO_10, HO_37, HB⟩ := hcut
              cases kq with
              | zero => exact absurd HA.out (by simp [spoorref19_row.j3])
              | succ kj33 =>
               have H := HA.out
               clear HA
               simp only [spoorref19_row.j3] at H
               have HC37 := Ax H
               clear H
               go_upto_if 60 with (fail)
               go_cut [16] (fun v16 wc => ∃ (kq : Nat) (x16_36 : Bool), v16 = .bool x16_36 ∧ Aside0 (spoorref19_row.j4 kq a0 l1 l2 x10_2 x11_2 (rd t193 x39_2) x16_36 t193 (t193.length : Int) x39_2 = some r) ∧ Aside0 (kq ≤ kj33) ∧ Aside0 (Kd.R k36 36 wc w.heap.size (fun _ => True) u10 x10_2) ∧ Aside0 (Kd.R (Kd.int .i64) 2 wc w.heap.size (fun _ => True) (.slice (some ad196) t193.length co24) t193) ∧ Aside0 (Below w.heap.size w wc))
               case first =>
                have H := HC37.out
                clear HC37
                by_cases c38 : a0 = 2
                ·rw [if_pos c38] at H
                 have c38b0 : (a0 == 2) = true := beq_iff_eq.mpr c38
                 have c38b1 : (a0 != 2) = false := bne_eq_false_iff_eq.mpr c38
                 clear c38
                 (first | rw [c38b0] | (simp only [i64_w, i32_w]; rw [c38b0]) | skip)
                 by_cases c39 : t197 = true
                 ·subst c39
                  have H1 : (spoorref19_row.j4 kj33 a0 l1 l2 x10_2 x11_2 (rd t193 x39_2) (!t198) t193 (t193.length : Int) x39_2) = some r := by rw [if_pos rfl] at H; exact H
                  clear H
                  have H := H1
                  clear H1
                  have H' := Ax H
                  clear H
                  go_wp2
                  go_meet
                  case rel => exact ⟨_, (!t198), rS, H', ⟨by have := HK1.out; have := HK2.out; have := HJ29.out; have := HJ33.out; first | omega | exact Nat.le_refl _⟩, ⟨by (with_reducible repeat (first | apply Kd.R_alloc | apply Kd.R_drewN | apply Kd.R_drew)); exact HO_10.out⟩, ⟨by (with_reducible repeat (first | apply Kd.R_alloc | apply Kd.R_drewN | apply Kd.R_drew)); exact HO_37.out⟩, ⟨bw0 HB.out⟩⟩
                 ·replace c39 := Bool.eq_false_iff.mpr c39
                  subst c39
                  have H1 : (spoorref19_row.j4 kj33 a0 l1 l2 x10_2 x11_2 (rd t193 x39_2) false t193 (t193.length : Int) x39_2) = some r := by rw [if_neg (show ¬ (false = true) by decide)] at H; exact H
                  clear H
                  have H := H1
                  clear H1
                  have H' := Ax H
                  clear H
                  go_wp2
                  go_meet
                  case rel => exact ⟨_, (false), rS, H', ⟨by have := HK1.out; have := HK2.out; have := HJ29.out; have := HJ33.out; first | omega | exact Nat.le_refl _⟩, ⟨by (with_reducible repeat (first | apply Kd.R_alloc | apply Kd.R_drewN | apply Kd.R_drew)); exact HO_10.out⟩, ⟨by (with_reducible repeat (first | apply Kd.R_alloc | apply Kd.R_drewN | apply Kd.R_drew)); exact HO_37.out⟩, ⟨bw0 HB.out⟩⟩
                ·rw [if_neg c38] at H
                 have c38b0 : (a0 == 2) = false := beq_eq_false_iff_ne.mpr c38
                 have c38b1 : (a0 != 2) = true := bne_iff_ne.mpr c38
                 (first | rw [c38b0] | (simp only [i64_w, i32_w]; rw [c38b0]) | skip)
                 have H' := Ax H
                 clear H
                 go_wp2
                 go_meet
                 case rel => exact ⟨_, (x16_33), rS, H', ⟨by have := HK1.out; have := HK2.out; have := HJ29.out; have := HJ33.out; first | omega | exact Nat.le_refl _⟩, ⟨by (with_reducible repeat (first | apply Kd.R_alloc | apply Kd.R_drewN | apply Kd.R_drew)); exact HO_10.out⟩, ⟨by (with_reducible repeat (first | apply Kd.R_alloc | apply Kd.R_drewN | apply Kd.R_drew)); exact HO_37.out⟩, ⟨bw0 HB.out⟩⟩
               case rest =>
                clear HC37
                try clear c1
                try clear p1
                try clear q1
                try clear hx1
                try clear c2
                try clear p2
                try clear c3
                try clear c4
                try clear c5
                try clear p6
                try clear c11
                try clear c11b0
                try clear c12
                try clear c12b0
                try clear c13
                try clear c13b0
                try clear c14
                try clear p18
                try clear q18
                try clear hx18
                try clear p19
                try clear q19
                try clear hx19
                try clear c25
                try clear c25b0
                try clear c26
                try clear c26b0
                try clear c27
                try clear c27b0
                try clear c33
                try clear c35
                try clear c35b0
                try clear c35b1
                try clear c36
                try clear c38
                try clear c38b0
                try clear c38b1
                try clear c39
                try clear hcz16_0
                try clear hcz16_1
                try clear hfz16_0
                try clear hfz16_1
                try clear hx185_0
                try clear hx185_1
                try clear hx196_0
                try clear p1
                try clear p18
                try clear p185
                try clear p19
                try clear p196
                try clear p2
                try clear p6
                try clear q1
                try clear q18
                try clear q185
                try clear q19
                try clear q196
                obtain ⟨kq, x16_36, rfl, HA, HJ36, HO_10, HO_37, HB⟩ := hcut
                cases kq with
                | zero => exact absurd HA.out (by simp [spoorref19_row.j4])
                | succ kj36 =>
                 have H := HA.out
                 clear HA
                 simp only [spoorref19_row.j4] at H
                 have HC40 := Ax H
                 clear H
                 go_upto_region 18 with (fail)
                 go_cut [70] (fun v70 wc => ∃ (kq : Nat) (x70_39 : Bool), v70 = .bool x70_39 ∧ Aside0 (spoorref19_row.j5 kq a0 l1 l2 x10_2 x11_2 (rd t193 x39_2) x16_36 t193 (t193.length : Int) x39_2 x70_39 = some r) ∧ Aside0 (kq ≤ kj36) ∧ Aside0 (Kd.R k36 36 wc w.heap.size (fun _ => True) u10 x10_2) ∧ Aside0 (Kd.R (Kd.int .i64) 2 wc w.heap.size (fun _ => True) (.slice (some ad196) t193.length co24) t193) ∧ Aside0 (Below w.heap.size w wc))
                 case first =>
                  have H := HC40.out
                  clear HC40
                  by_cases c41 : x11_2 = true
                  ·subst c41
                   have H1 : (spoorref19_row.j5 kj36 a0 l1 l2 x10_2 true (rd t193 x39_2) x16_36 t193 (t193.length : Int) x39_2 (!x16_36)) = some r := by rw [if_pos rfl] at H; exact H
                   clear H
                   have H := H1
                   clear H1
                   have H' := Ax H
                   clear H
                   go_wp2
                   go_meet
                   case rel => exact ⟨_, (!x16_36), rS, H', ⟨by have := HK1.out; have := HK2.out; have := HJ29.out; have := HJ33.out; have := HJ36.out; first | omega | exact Nat.le_refl _⟩, ⟨by (with_reducible repeat (first | apply Kd.R_alloc | apply Kd.R_drewN | apply Kd.R_drew)); exact HO_10.out⟩, ⟨by (with_reducible repeat (first | apply Kd.R_alloc | apply Kd.R_drewN | apply Kd.R_drew)); exact HO_37.out⟩, ⟨bw0 HB.out⟩⟩
                  ·replace c41 := Bool.eq_false_iff.mpr c41
                   subst c41
                   have H1 : (spoorref19_row.j5 kj36 a0 l1 l2 x10_2 false (rd t193 x39_2) x16_36 t193 (t193.length : Int) x39_2 false) = some r := by rw [if_neg (show ¬ (false = true) by decide)] at H; exact H
                   clear H
                   have H := H1
                   clear H1
                   have H' := Ax H
                   clear H
                   go_wp2
                   go_meet
                   case rel => exact ⟨_, (false), rS, H', ⟨by have := HK1.out; have := HK2.out; have := HJ29.out; have := HJ33.out; have := HJ36.out; first | omega | exact Nat.le_refl _⟩, ⟨by (with_reducible repeat (first | apply Kd.R_alloc | apply Kd.R_drewN | apply Kd.R_drew)); exact HO_10.out⟩, ⟨by (with_reducible repeat (first | apply Kd.R_alloc | apply Kd.R_drewN | apply Kd.R_drew)); exact HO_37.out⟩, ⟨bw0 HB.out⟩⟩
                 case rest =>
                  clear HC40
                  try clear c1
                  try clear p1
                  try clear q1
                  try clear hx1
                  try clear c2
                  try clear p2
                  try clear c3
                  try clear c4
                  try clear c5
                  try clear p6
                  try clear c11
                  try clear c11b0
                  try clear c12
                  try clear c12b0
                  try clear c13
                  try clear c13b0
                  try clear c14
                  try clear p18
                  try clear q18
                  try clear hx18
                  try clear p19
                  try clear q19
                  try clear hx19
                  try clear c25
                  try clear c25b0
                  try clear c26
                  try clear c26b0
                  try clear c27
                  try clear c27b0
                  try clear c33
                  try clear c35
                  try clear c35b0
                  try clear c35b1
                  try clear c36
                  try clear c38
                  try clear c38b0
                  try clear c38b1
                  try clear c39
                  try clear c41
                  try clear hcz16_0
                  try clear hcz16_1
                  try clear hfz16_0
                  try clear hfz16_1
                  try clear hx185_0
                  try clear hx185_1
                  try clear hx196_0
                  try clear p1
                  try clear p18
                  try clear p185
                  try clear p19
                  try clear p196
                  try clear p2
                  try clear p6
                  try clear q1
                  try clear q18
                  try clear q185
                  try clear q19
                  try clear q196
                  obtain ⟨kq, x70_39, rfl, HA, HJ39, HO_10, HO_37, HB⟩ := hcut
                  cases kq with
                  | zero => exact absurd HA.out (by simp [spoorref19_row.j5])
                  | succ kj39 =>
                   have H := HA.out
                   clear HA
                   simp only [spoorref19_row.j5] at H
                   by_cases c42 : x70_39 = true
                   ·subst c42
                    have H1 : (if 0 ≤ (wrap64 ((x10_2.length : Int) - 1)) then (if (wrap64 ((x10_2.length : Int) - 1)) < (x10_2.length : Int) then ((some (x10_2.set ((wrap64 ((x10_2.length : Int) - 1)) : Int).toNat (⟨(rd_T36 x10_2 (wrap64 ((x10_2.length : Int) - 1))).f0, wrap64 ((rd t193 x39_2) - 1)⟩ : S36) : List (S36))).bind fun y199 => (if x11_2 = true then (spoorref19_row.l1 kj39 a0 l1 l2 y199 x16_36 t193 (t193.length : Int) (wrap64 (x39_2 + 1))) else (if x16_36 = true then (if y199.length < 8796093022208 then (spoorref19_row.l1 kj39 a0 l1 l2 (y199 ++ [(⟨(rd t193 x39_2), 0⟩ : S36)]) x16_36 t193 (t193.length : Int) (wrap64 (x39_2 + 1))) else (none)) else (spoorref19_row.l1 kj39 a0 l1 l2 y199 x16_36 t193 (t193.length : Int) (wrap64 (x39_2 + 1)))))) else (none)) else (none)) = some r := by rw [if_pos rfl] at H; exact H
                    clear H
                    have H := H1
                    clear H1
                    obtain ⟨ji43, hji43⟩ : ∃ j_ : Int, (wrap64 ((x10_2.length : Int) - 1)) = j_ := ⟨_, rfl⟩
                    replace H : (if 0 ≤ (ji43) then (if (ji43) < (x10_2.length : Int) then ((some (x10_2.set ((ji43) : Int).toNat (⟨(rd_T36 x10_2 (ji43)).f0, wrap64 ((rd t193 x39_2) - 1)⟩ : S36) : List (S36))).bind fun y199 => (if x11_2 = true then (spoorref19_row.l1 kj39 a0 l1 l2 y199 x16_36 t193 (t193.length : Int) (wrap64 (x39_2 + 1))) else (if x16_36 = true then (if y199.length < 8796093022208 then (spoorref19_row.l1 kj39 a0 l1 l2 (y199 ++ [(⟨(rd t193 x39_2), 0⟩ : S36)]) x16_36 t193 (t193.length : Int) (wrap64 (x39_2 + 1))) else (none)) else (spoorref19_row.l1 kj39 a0 l1 l2 y199 x16_36 t193 (t193.length : Int) (wrap64 (x39_2 + 1)))))) else (none)) else (none)) = some r := by first | (rw [hji43] at H; exact H) | (simp only [hji43] at H ⊢; exact H)
                    have hji43w : (IntKind.i64.wrap ((x10_2.length : Int) - 1)) = ji43 := (i64_w _).trans hji43
                    by_cases c44 : 0 ≤ (ji43)
                    ·rw [if_pos c44] at H
                     have c44b0 : decide (0 ≤ (ji43)) = true := decide_eq_true c44
                     clear c44
                     by_cases c45 : (ji43) < (x10_2.length : Int)
                     ·rw [if_pos c45] at H
                      have c45b0 : decide ((ji43) < (x10_2.length : Int)) = true := decide_eq_true c45
                      clear c45
                      obtain ⟨y199, hy199⟩ : ∃ y_ : List (S36), y_ = (x10_2.set ((ji43) : Int).toNat (⟨(rd_T36 x10_2 (ji43)).f0, wrap64 ((rd t193 x39_2) - 1)⟩ : S36)) := ⟨_, rfl⟩
                      replace H : (if x11_2 = true then (spoorref19_row.l1 kj39 a0 l1 l2 y199 x16_36 t193 (t193.length : Int) (wrap64 (x39_2 + 1))) else (if x16_36 = true then (if y199.length < 8796093022208 then (spoorref19_row.l1 kj39 a0 l1 l2 (y199 ++ [(⟨(rd t193 x39_2), 0⟩ : S36)]) x16_36 t193 (t193.length : Int) (wrap64 (x39_2 + 1))) else (none)) else (spoorref19_row.l1 kj39 a0 l1 l2 y199 x16_36 t193 (t193.length : Int) (wrap64 (x39_2 + 1))))) = some r := by first | (rw [hy199]; with_reducible exact H) | (have H2_ := (Option.bind_some _ _).symm.trans H; rw [hy199]; with_reducible exact H2_) | (have H2_ := (Option.bind_some _ _).symm.trans H; with_reducible exact H2_) | with_reducible exact H | (rw [hy199]; exact H) | exact H
                      have Ny199 := Ax hy199
                      clear hy199
                      by_cases c47 : x11_2 = true
                      ·subst c47
                       have H1 : (spoorref19_row.l1 kj39 a0 l1 l2 y199 x16_36 t193 (t193.length : Int) (wrap64 (x39_2 + 1))) = some r := by rw [if_pos rfl] at H; exact H
                       clear H
                       have H := H1
                       clear H1
                       have H' := Ax H
                       clear H
                       obtain ⟨Ao48, co48, eo48⟩ := Kd.R_slice HO_10.out
                       subst eo48
                       have p46 : 0 ≤ ((ji43) : Int) := of_decide_eq_true (by first | (with_reducible assumption) | assumption)
                       have q46 : ((ji43) : Int) < ((x10_2.length : Int) : Int) := of_decide_eq_true (by first | (with_reducible assumption) | assumption)
                       obtain ⟨go46, co46, eo46, gb46, gl46, cl46, HG46⟩ := Kd.R_form HO_10.out (by omega)
                       (first | cases eo46 | (injection eo46 with ea_ en_ ec_; (first | subst ea_ | (injection ea_ with ea_; subst ea_)); subst ec_; clear en_))
                       have GB46 := Ax gb46
                       have GG46 := Ax HG46
                       clear gb46 gl46 HG46
                       obtain ⟨ce46, hcl46, hM46, hcc46, hfr46⟩ := Kd.R_elem HO_10.out z36 ((ji43) : Int) p46 q46
                       obtain rfl := k36_openM hM46
                       have hx46_0 : wc.cell? ⟨go46, ((ji43) : Int).toNat * 2, none⟩ = some (.int .i64 ((rd_T36 x10_2 (ji43)).f0)) := hcc46 0 _ rfl
                       have hx46_1 : wc.cell? ⟨go46, ((ji43) : Int).toNat * 2 + 1, none⟩ = some (.int .i64 ((rd_T36 x10_2 (ji43)).f1)) := hcc46 1 _ rfl
                       have hf46_0 : wc.frozen? ⟨go46, ((ji43) : Int).toNat * 2, none⟩ = false := hfr46 0
                       have hf46_1 : wc.frozen? ⟨go46, ((ji43) : Int).toNat * 2 + 1, none⟩ = false := hfr46 1
                       clear hcl46 hcc46 hfr46 hM46
                       replace p46 := eq_true p46
                       replace q46 := eq_true q46
                       have HX49 := Ax (show Kd.R k36 36 wc w.heap.size (fun _ => True) (.slice (some ⟨go46, 0, none⟩) x10_2.length co48) x10_2 from (by (with_reducible repeat (first | apply Kd.R_alloc | apply Kd.R_drewN | apply Kd.R_drew)); exact HO_10.out))
                       obtain ⟨ce49, hcl49, hM49, hcc49, hfr49⟩ := Kd.R_elem HX49.out z36 ((ji43) : Int) (of_decide_eq_true (by first | (with_reducible assumption) | assumption)) (by have h_ : ((ji43) : Int) < ((x10_2.length : Int) : Int) := of_decide_eq_true (by first | (with_reducible assumption) | assumption); first | exact h_ | (have e_ := (Kd.R_reads' HO_10.out).1; omega) | simpa using h_)
                       obtain rfl := k36_openM hM49
                       have HP49 := Kd.R_seg HX49.out ((ji43) : Int) (of_decide_eq_true (by first | (with_reducible assumption) | assumption)) (by have h_ : ((ji43) : Int) < ((x10_2.length : Int) : Int) := of_decide_eq_true (by first | (with_reducible assumption) | assumption); first | exact h_ | (have e_ := (Kd.R_reads' HO_10.out).1; omega) | simpa using h_) (seg := [.int .i64 (wrap64 ((rd t193 x39_2) - 1))]) (j := 1) hcl49 hcc49 (show 2 ≤ 2 from by decide) (x' := (⟨(rd_T36 x10_2 (ji43)).f0, wrap64 ((rd t193 x39_2) - 1)⟩ : S36)) (k36_mkM _ _ _ (⟨(rd_T36 x10_2 (ji43)).f0, wrap64 ((rd t193 x39_2) - 1)⟩ : S36) ) (fun _ hk => hk)
                       have hx49_1 := hcc49 1 _ rfl
                       (try simp only [show (k36).sz = 2 from rfl, Nat.mul_one, Nat.add_zero] at hx49_1)
                       have hf49_1 := hfr49 1
                       (try simp only [show (k36).sz = 2 from rfl, Nat.mul_one, Nat.add_zero] at hf49_1)
                       clear hcl49 hcc49 hfr49 hM49
                       go_wp2_with (first | ((with_reducible refine gate_store (t := 2) (p := 78) rfl ?_); refine store_event (t := 2) (p := 78) (v := ?vo_w50) (w1 := (wc.setCell ⟨go46, ((ji43) : Int).toNat * 2 + 1, none⟩ (.int .i64 (wrap64 ((rd t193 x39_2) - 1))))) ?hg ?ho ?hn ?hr ?_; (case ho => rfl); (case hg => rfl); (case hn => rfl); (case hr => first | (go_simp; done) | (go_simp; rfl)); intro w50 hw; have hg : wc.grownBy w50 (some go46) := (by rw [hw]; exact HP49.2); have hp_ : Kd.R k36 36 w50 w.heap.size (fun _ => True) (.slice (some ⟨go46, 0, none⟩) x10_2.length co48) y199 := (by rw [hw, Ny199.out]; exact HP49.1); clear HP49; have n0_ := Ax (hp_); have n1_ := Ax (Kd.R_over' (v := (.slice (some ⟨go46, 0, none⟩) x10_2.length co48)) (by (with_reducible repeat (first | apply Kd.R_alloc | apply Kd.R_drewN | apply Kd.R_drew)); exact HO_37.out) (Kd.R_typed HO_10.out) (by decide) hg); have n2_ := Ax ((by rw [hw]; exact below_set (HB.out) GB46.out : Below w.heap.size w w50)); clear HO_10; clear HO_37; clear HB; have HO_10 := n0_; have HO_37 := n1_; have HB := n2_; clear n0_ n1_ n2_; clear hg hw hp_))
                       go_roundg kj39
                       case measure => have := HK1.out; have := HK2.out; have := HJ29.out; have := HJ33.out; have := HJ36.out; have := HJ39.out; omega
                       case rel => exact ⟨(y199), (x16_36), (wrap64 (x39_2 + 1)), rS, rS, H', ⟨by have := HK1.out; have := HK2.out; have := HJ29.out; have := HJ33.out; have := HJ36.out; have := HJ39.out; omega⟩, ⟨by (with_reducible repeat (first | apply Kd.R_alloc | apply Kd.R_drewN | apply Kd.R_drew)); exact HO_10.out⟩, ⟨by (with_reducible repeat (first | apply Kd.R_alloc | apply Kd.R_drewN | apply Kd.R_drew)); exact HO_37.out⟩, ⟨bw0 HB.out⟩⟩
                      ·replace c47 := Bool.eq_false_iff.mpr c47
                       subst c47
                       have H1 : (if x16_36 = true then (if y199.length < 8796093022208 then (spoorref19_row.l1 kj39 a0 l1 l2 (y199 ++ [(⟨(rd t193 x39_2), 0⟩ : S36)]) x16_36 t193 (t193.length : Int) (wrap64 (x39_2 + 1))) else (none)) else (spoorref19_row.l1 kj39 a0 l1 l2 y199 x16_36 t193 (t193.length : Int) (wrap64 (x39_2 + 1)))) = some r := by rw [if_neg (show ¬ (false = true) by decide)] at H; exact H
                       clear H
                       have H := H1
                       clear H1
                       by_cases c51 : x16_36 = true
                       ·subst c51
                        have H1 : (if y199.length < 8796093022208 then (spoorref19_row.l1 kj39 a0 l1 l2 (y199 ++ [(⟨(rd t193 x39_2), 0⟩ : S36)]) true t193 (t193.length : Int) (wrap64 (x39_2 + 1))) else (none)) = some r := by rw [if_pos rfl] at H; exact H
                        clear H
                        have H := H1
                        clear H1
                        by_cases c52 : y199.length < 8796093022208
                        ·rw [if_pos c52] at H
                         have LMc52 := Ax c52
                         clear c52
                         obtain ⟨y200, hy200⟩ : ∃ y_ : List (S36), y_ = (y199 ++ [(⟨(rd t193 x39_2), 0⟩ : S36)]) := ⟨_, rfl⟩
                         replace H : (spoorref19_row.l1 kj39 a0 l1 l2 y200 true t193 (t193.length : Int) (wrap64 (x39_2 + 1))) = some r := by first | (rw [hy200]; with_reducible exact H) | (have H2_ := (Option.bind_some _ _).symm.trans H; rw [hy200]; with_reducible exact H2_) | (have H2_ := (Option.bind_some _ _).symm.trans H; with_reducible exact H2_) | with_reducible exact H | (rw [hy200]; exact H) | exact H
                         have Ny200 := Ax hy200
                         clear hy200
                         have H' := Ax H
                         clear H
                         obtain ⟨Ao53, co53, eo53⟩ := Kd.R_slice HO_10.out
                         subst eo53
                         have p46 : 0 ≤ ((ji43) : Int) := of_decide_eq_true (by first | (with_reducible assumption) | assumption)
                         have q46 : ((ji43) : Int) < ((x10_2.length : Int) : Int) := of_decide_eq_true (by first | (with_reducible assumption) | assumption)
                         obtain ⟨go46, co46, eo46, gb46, gl46, cl46, HG46⟩ := Kd.R_form HO_10.out (by omega)
                         (first | cases eo46 | (injection eo46 with ea_ en_ ec_; (first | subst ea_ | (injection ea_ with ea_; subst ea_)); subst ec_; clear en_))
                         have GB46 := Ax gb46
                         have GG46 := Ax HG46
                         clear gb46 gl46 HG46
                         obtain ⟨ce46, hcl46, hM46, hcc46, hfr46⟩ := Kd.R_elem HO_10.out z36 ((ji43) : Int) p46 q46
                         obtain rfl := k36_openM hM46
                         have hx46_0 : wc.cell? ⟨go46, ((ji43) : Int).toNat * 2, none⟩ = some (.int .i64 ((rd_T36 x10_2 (ji43)).f0)) := hcc46 0 _ rfl
                         have hx46_1 : wc.cell? ⟨go46, ((ji43) : Int).toNat * 2 + 1, none⟩ = some (.int .i64 ((rd_T36 x10_2 (ji43)).f1)) := hcc46 1 _ rfl
                         have hf46_0 : wc.frozen? ⟨go46, ((ji43) : Int).toNat * 2, none⟩ = false := hfr46 0
                         have hf46_1 : wc.frozen? ⟨go46, ((ji43) : Int).toNat * 2 + 1, none⟩ = false := hfr46 1
                         clear hcl46 hcc46 hfr46 hM46
                         replace p46 := eq_true p46
                         replace q46 := eq_true q46
                         have HX54 := Ax (show Kd.R k36 36 wc w.heap.size (fun _ => True) (.slice (some ⟨go46, 0, none⟩) x10_2.length co53) x10_2 from (by (with_reducible repeat (first | apply Kd.R_alloc | apply Kd.R_drewN | apply Kd.R_drew)); exact HO_10.out))
                         obtain ⟨ce54, hcl54, hM54, hcc54, hfr54⟩ := Kd.R_elem HX54.out z36 ((ji43) : Int) (of_decide_eq_true (by first | (with_reducible assumption) | assumption)) (by have h_ : ((ji43) : Int) < ((x10_2.length : Int) : Int) := of_decide_eq_true (by first | (with_reducible assumption) | assumption); first | exact h_ | (have e_ := (Kd.R_reads' HO_10.out).1; omega) | simpa using h_)
                         obtain rfl := k36_openM hM54
                         have HP54 := Kd.R_seg HX54.out ((ji43) : Int) (of_decide_eq_true (by first | (with_reducible assumption) | assumption)) (by have h_ : ((ji43) : Int) < ((x10_2.length : Int) : Int) := of_decide_eq_true (by first | (with_reducible assumption) | assumption); first | exact h_ | (have e_ := (Kd.R_reads' HO_10.out).1; omega) | simpa using h_) (seg := [.int .i64 (wrap64 ((rd t193 x39_2) - 1))]) (j := 1) hcl54 hcc54 (show 2 ≤ 2 from by decide) (x' := (⟨(rd_T36 x10_2 (ji43)).f0, wrap64 ((rd t193 x39_2) - 1)⟩ : S36)) (k36_mkM _ _ _ (⟨(rd_T36 x10_2 (ji43)).f0, wrap64 ((rd t193 x39_2) - 1)⟩ : S36) ) (fun _ hk => hk)
                         have hx54_1 := hcc54 1 _ rfl
                         (try simp only [show (k36).sz = 2 from rfl, Nat.mul_one, Nat.add_zero] at hx54_1)
                         have hf54_1 := hfr54 1
                         (try simp only [show (k36).sz = 2 from rfl, Nat.mul_one, Nat.add_zero] at hf54_1)
                         clear hcl54 hcc54 hfr54 hM54
                         go_wp2_with (first | ((with_reducible refine gate_store (t := 2) (p := 78) rfl ?_); refine store_event (t := 2) (p := 78) (v := ?vo_w55) (w1 := (wc.setCell ⟨go46, ((ji43) : Int).toNat * 2 + 1, none⟩ (.int .i64 (wrap64 ((rd t193 x39_2) - 1))))) ?hg ?ho ?hn ?hr ?_; (case ho => rfl); (case hg => rfl); (case hn => rfl); (case hr => first | (go_simp; done) | (go_simp; rfl)); intro w55 hw; have hg : wc.grownBy w55 (some go46) := (by rw [hw]; exact HP54.2); have hp_ : Kd.R k36 36 w55 w.heap.size (fun _ => True) (.slice (some ⟨go46, 0, none⟩) x10_2.length co53) y199 := (by rw [hw, Ny199.out]; exact HP54.1); clear HP54; have n0_ := Ax (hp_); have n1_ := Ax (Kd.R_over' (v := (.slice (some ⟨go46, 0, none⟩) x10_2.length co53)) (by (with_reducible repeat (first | apply Kd.R_alloc | apply Kd.R_drewN | apply Kd.R_drew)); exact HO_37.out) (Kd.R_typed HO_10.out) (by decide) hg); have n2_ := Ax ((by rw [hw]; exact below_set (HB.out) GB46.out : Below w.heap.size w w55)); clear HO_10; clear HO_37; clear HB; have HO_10 := n0_; have HO_37 := n1_; have HB := n2_; clear n0_ n1_ n2_; clear hg hw hp_) | ((with_reducible refine gate_builtin (b := .append) (xs := #[.tmp 84, .tmp 87]) rfl ?_); at_builtin; refine Kd.R_append k36 (w0 := w) w.heap.size rfl (.tmp 84) (.tmp 87) 22 36 (.agg #[(.int .i64 0), (.int .i64 0)]) 16 rfl Try.underlying22 info36 rfl (by decide) (by omega) (.slice (some ⟨go46, 0, none⟩) x10_2.length co53) y199 (⟨(rd t193 x39_2), 0⟩ : S36) [.int .i64 (rd t193 x39_2), .int .i64 0] (fun _ => True) (fun _ => False) rfl rfl ?aP (fun _ hk => hk.elim) ?aF ?aO ?aB ?aS ?aL ?_; (case aP => exact k36_mkM _ _ _ (⟨(rd t193 x39_2), 0⟩ : S36)); (case aB => exact (bw0 HB.out)); (case aF => exact (fun _ _ => trivial)); (case aO => exact (by (with_reducible repeat (first | apply Kd.R_alloc | apply Kd.R_drewN | apply Kd.R_drew)); exact HO_10.out)); (case aS => exact (below_size (bw0 HB.out))); (case aL => have := LMc52.out; omega); intro v201 w56 ho hb hg hat; rw [← Ny200.out] at ho; have n0_ := Ax (Kd.R_over' (by (with_reducible repeat (first | apply Kd.R_alloc | apply Kd.R_drewN | apply Kd.R_drew)); exact HO_37.out) (Kd.R_typed (by (with_reducible repeat (first | apply Kd.R_alloc | apply Kd.R_drewN | apply Kd.R_drew)); exact HO_10.out)) (by decide) hg); have n1_ := Ax (hb); have n2_ := Ax (ho); clear HO_37; clear HB; clear HO_10; have HO_37 := n0_; have HB := n1_; have HO202 := n2_; clear n0_ n1_ n2_; clear ho hb hg hat))
                         go_roundg kj39
                         case measure => have := HK1.out; have := HK2.out; have := HJ29.out; have := HJ33.out; have := HJ36.out; have := HJ39.out; omega
                         case rel => exact ⟨(y200), (true), (wrap64 (x39_2 + 1)), rS, rS, H', ⟨by have := HK1.out; have := HK2.out; have := HJ29.out; have := HJ33.out; have := HJ36.out; have := HJ39.out; omega⟩, ⟨by (with_reducible repeat (first | apply Kd.R_alloc | apply Kd.R_drewN | apply Kd.R_drew)); exact HO202.out⟩, ⟨by (with_reducible repeat (first | apply Kd.R_alloc | apply Kd.R_drewN | apply Kd.R_drew)); exact HO_37.out⟩, ⟨bw0 HB.out⟩⟩
                        ·rw [if_neg c52] at H
                         exact absurd H (by simp)
                       ·replace c51 := Bool.eq_false_iff.mpr c51
                        subst c51
                        have H1 : (spoorref19_row.l1 kj39 a0 l1 l2 y199 false t193 (t193.length : Int) (wrap64 (x39_2 + 1))) = some r := by rw [if_neg (show ¬ (false = true) by decide)] at H; exact H
                        clear H
                        have H := H1
                        clear H1
                        have H' := Ax H
                        clear H
                        obtain ⟨Ao57, co57, eo57⟩ := Kd.R_slice HO_10.out
                        subst eo57
                        have p46 : 0 ≤ ((ji43) : Int) := of_decide_eq_true (by first | (with_reducible assumption) | assumption)
                        have q46 : ((ji43) : Int) < ((x10_2.length : Int) : Int) := of_decide_eq_true (by first | (with_reducible assumption) | assumption)
                        obtain ⟨go46, co46, eo46, gb46, gl46, cl46, HG46⟩ := Kd.R_form HO_10.out (by omega)
                        (first | cases eo46 | (injection eo46 with ea_ en_ ec_; (first | subst ea_ | (injection ea_ with ea_; subst ea_)); subst ec_; clear en_))
                        have GB46 := Ax gb46
                        have GG46 := Ax HG46
                        clear gb46 gl46 HG46
                        obtain ⟨ce46, hcl46, hM46, hcc46, hfr46⟩ := Kd.R_elem HO_10.out z36 ((ji43) : Int) p46 q46
                        obtain rfl := k36_openM hM46
                        have hx46_0 : wc.cell? ⟨go46, ((ji43) : Int).toNat * 2, none⟩ = some (.int .i64 ((rd_T36 x10_2 (ji43)).f0)) := hcc46 0 _ rfl
                        have hx46_1 : wc.cell? ⟨go46, ((ji43) : Int).toNat * 2 + 1, none⟩ = some (.int .i64 ((rd_T36 x10_2 (ji43)).f1)) := hcc46 1 _ rfl
                        have hf46_0 : wc.frozen? ⟨go46, ((ji43) : Int).toNat * 2, none⟩ = false := hfr46 0
                        have hf46_1 : wc.frozen? ⟨go46, ((ji43) : Int).toNat * 2 + 1, none⟩ = false := hfr46 1
                        clear hcl46 hcc46 hfr46 hM46
                        replace p46 := eq_true p46
                        replace q46 := eq_true q46
                        have HX58 := Ax (show Kd.R k36 36 wc w.heap.size (fun _ => True) (.slice (some ⟨go46, 0, none⟩) x10_2.length co57) x10_2 from (by (with_reducible repeat (first | apply Kd.R_alloc | apply Kd.R_drewN | apply Kd.R_drew)); exact HO_10.out))
                        obtain ⟨ce58, hcl58, hM58, hcc58, hfr58⟩ := Kd.R_elem HX58.out z36 ((ji43) : Int) (of_decide_eq_true (by first | (with_reducible assumption) | assumption)) (by have h_ : ((ji43) : Int) < ((x10_2.length : Int) : Int) := of_decide_eq_true (by first | (with_reducible assumption) | assumption); first | exact h_ | (have e_ := (Kd.R_reads' HO_10.out).1; omega) | simpa using h_)
                        obtain rfl := k36_openM hM58
                        have HP58 := Kd.R_seg HX58.out ((ji43) : Int) (of_decide_eq_true (by first | (with_reducible assumption) | assumption)) (by have h_ : ((ji43) : Int) < ((x10_2.length : Int) : Int) := of_decide_eq_true (by first | (with_reducible assumption) | assumption); first | exact h_ | (have e_ := (Kd.R_reads' HO_10.out).1; omega) | simpa using h_) (seg := [.int .i64 (wrap64 ((rd t193 x39_2) - 1))]) (j := 1) hcl58 hcc58 (show 2 ≤ 2 from by decide) (x' := (⟨(rd_T36 x10_2 (ji43)).f0, wrap64 ((rd t193 x39_2) - 1)⟩ : S36)) (k36_mkM _ _ _ (⟨(rd_T36 x10_2 (ji43)).f0, wrap64 ((rd t193 x39_2) - 1)⟩ : S36) ) (fun _ hk => hk)
                        have hx58_1 := hcc58 1 _ rfl
                        (try simp only [show (k36).sz = 2 from rfl, Nat.mul_one, Nat.add_zero] at hx58_1)
                        have hf58_1 := hfr58 1
                        (try simp only [show (k36).sz = 2 from rfl, Nat.mul_one, Nat.add_zero] at hf58_1)
                        clear hcl58 hcc58 hfr58 hM58
                        go_wp2_with (first | ((with_reducible refine gate_store (t := 2) (p := 78) rfl ?_); refine store_event (t := 2) (p := 78) (v := ?vo_w59) (w1 := (wc.setCell ⟨go46, ((ji43) : Int).toNat * 2 + 1, none⟩ (.int .i64 (wrap64 ((rd t193 x39_2) - 1))))) ?hg ?ho ?hn ?hr ?_; (case ho => rfl); (case hg => rfl); (case hn => rfl); (case hr => first | (go_simp; done) | (go_simp; rfl)); intro w59 hw; have hg : wc.grownBy w59 (some go46) := (by rw [hw]; exact HP58.2); have hp_ : Kd.R k36 36 w59 w.heap.size (fun _ => True) (.slice (some ⟨go46, 0, none⟩) x10_2.length co57) y199 := (by rw [hw, Ny199.out]; exact HP58.1); clear HP58; have n0_ := Ax (hp_); have n1_ := Ax (Kd.R_over' (v := (.slice (some ⟨go46, 0, none⟩) x10_2.length co57)) (by (with_reducible repeat (first | apply Kd.R_alloc | apply Kd.R_drewN | apply Kd.R_drew)); exact HO_37.out) (Kd.R_typed HO_10.out) (by decide) hg); have n2_ := Ax ((by rw [hw]; exact below_set (HB.out) GB46.out : Below w.heap.size w w59)); clear HO_10; clear HO_37; clear HB; have HO_10 := n0_; have HO_37 := n1_; have HB := n2_; clear n0_ n1_ n2_; clear hg hw hp_))
                        go_roundg kj39
                        case measure => have := HK1.out; have := HK2.out; have := HJ29.out; have := HJ33.out; have := HJ36.out; have := HJ39.out; omega
                        case rel => exact ⟨(y199), (false), (wrap64 (x39_2 + 1)), rS, rS, H', ⟨by have := HK1.out; have := HK2.out; have := HJ29.out; have := HJ33.out; have := HJ36.out; have := HJ39.out; omega⟩, ⟨by (with_reducible repeat (first | apply Kd.R_alloc | apply Kd.R_drewN | apply Kd.R_drew)); exact HO_10.out⟩, ⟨by (with_reducible repeat (first | apply Kd.R_alloc | apply Kd.R_drewN | apply Kd.R_drew)); exact HO_37.out⟩, ⟨bw0 HB.out⟩⟩
                     ·rw [if_neg c45] at H
                      exact absurd H (by simp)
                    ·rw [if_neg c44] at H
                     exact absurd H (by simp)
                   ·replace c42 := Bool.eq_false_iff.mpr c42
                    subst c42
                    have H1 : (if x11_2 = true then (spoorref19_row.l1 kj39 a0 l1 l2 x10_2 x16_36 t193 (t193.length : Int) (wrap64 (x39_2 + 1))) else (if x16_36 = true then (if x10_2.length < 8796093022208 then (spoorref19_row.l1 kj39 a0 l1 l2 (x10_2 ++ [(⟨(rd t193 x39_2), 0⟩ : S36)]) x16_36 t193 (t193.length : Int) (wrap64 (x39_2 + 1))) else (none)) else (spoorref19_row.l1 kj39 a0 l1 l2 x10_2 x16_36 t193 (t193.length : Int) (wrap64 (x39_2 + 1))))) = some r := by rw [if_neg (show ¬ (false = true) by decide)] at H; exact H
                    clear H
                    have H := H1
                    clear H1
                    by_cases c60 : x11_2 = true
                    ·subst c60
                     have H1 : (spoorref19_row.l1 kj39 a0 l1 l2 x10_2 x16_36 t193 (t193.length : Int) (wrap64 (x39_2 + 1))) = some r := by rw [if_pos rfl] at H; exact H
                     clear H
                     have H := H1
                     clear H1
                     have H' := Ax H
                     clear H
                     go_wp2
                     go_roundg kj39
                     case measure => have := HK1.out; have := HK2.out; have := HJ29.out; have := HJ33.out; have := HJ36.out; have := HJ39.out; omega
                     case rel => exact ⟨(x10_2), (x16_36), (wrap64 (x39_2 + 1)), rS, rS, H', ⟨by have := HK1.out; have := HK2.out; have := HJ29.out; have := HJ33.out; have := HJ36.out; have := HJ39.out; omega⟩, ⟨by (with_reducible repeat (first | apply Kd.R_alloc | apply Kd.R_drewN | apply Kd.R_drew)); exact HO_10.out⟩, ⟨by (with_reducible repeat (first | apply Kd.R_alloc | apply Kd.R_drewN | apply Kd.R_drew)); exact HO_37.out⟩, ⟨bw0 HB.out⟩⟩
                    ·replace c60 := Bool.eq_false_iff.mpr c60
                     subst c60
                     have H1 : (if x16_36 = true then (if x10_2.length < 8796093022208 then (spoorref19_row.l1 kj39 a0 l1 l2 (x10_2 ++ [(⟨(rd t193 x39_2), 0⟩ : S36)]) x16_36 t193 (t193.length : Int) (wrap64 (x39_2 + 1))) else (none)) else (spoorref19_row.l1 kj39 a0 l1 l2 x10_2 x16_36 t193 (t193.length : Int) (wrap64 (x39_2 + 1)))) = some r := by rw [if_neg (show ¬ (false = true) by decide)] at H; exact H
                     clear H
                     have H := H1
                     clear H1
                     by_cases c61 : x16_36 = true
                     ·subst c61
                      have H1 : (if x10_2.length < 8796093022208 then (spoorref19_row.l1 kj39 a0 l1 l2 (x10_2 ++ [(⟨(rd t193 x39_2), 0⟩ : S36)]) true t193 (t193.length : Int) (wrap64 (x39_2 + 1))) else (none)) = some r := by rw [if_pos rfl] at H; exact H
                      clear H
                      have H := H1
                      clear H1
                      by_cases c62 : x10_2.length < 8796093022208
                      ·rw [if_pos c62] at H
                       have LMc62 := Ax c62
                       clear c62
                       obtain ⟨y203, hy203⟩ : ∃ y_ : List (S36), y_ = (x10_2 ++ [(⟨(rd t193 x39_2), 0⟩ : S36)]) := ⟨_, rfl⟩
                       replace H : (spoorref19_row.l1 kj39 a0 l1 l2 y203 true t193 (t193.length : Int) (wrap64 (x39_2 + 1))) = some r := by first | (rw [hy203]; with_reducible exact H) | (have H2_ := (Option.bind_some _ _).symm.trans H; rw [hy203]; with_reducible exact H2_) | (have H2_ := (Option.bind_some _ _).symm.trans H; with_reducible exact H2_) | with_reducible exact H | (rw [hy203]; exact H) | exact H
                       have Ny203 := Ax hy203
                       clear hy203
                       have H' := Ax H
                       clear H
                       go_wp2_with (first | ((with_reducible refine gate_builtin (b := .append) (xs := #[.tmp 84, .tmp 87]) rfl ?_); at_builtin; refine Kd.R_append k36 (w0 := w) w.heap.size rfl (.tmp 84) (.tmp 87) 22 36 (.agg #[(.int .i64 0), (.int .i64 0)]) 16 rfl Try.underlying22 info36 rfl (by decide) (by omega) u10 x10_2 (⟨(rd t193 x39_2), 0⟩ : S36) [.int .i64 (rd t193 x39_2), .int .i64 0] (fun _ => True) (fun _ => False) rfl rfl ?aP (fun _ hk => hk.elim) ?aF ?aO ?aB ?aS ?aL ?_; (case aP => exact k36_mkM _ _ _ (⟨(rd t193 x39_2), 0⟩ : S36)); (case aB => exact (bw0 HB.out)); (case aF => exact (fun _ _ => trivial)); (case aO => exact (by (with_reducible repeat (first | apply Kd.R_alloc | apply Kd.R_drewN | apply Kd.R_drew)); exact HO_10.out)); (case aS => exact (below_size (bw0 HB.out))); (case aL => have := LMc62.out; omega); intro v204 w63 ho hb hg hat; rw [← Ny203.out] at ho; have n0_ := Ax (Kd.R_over' (by (with_reducible repeat (first | apply Kd.R_alloc | apply Kd.R_drewN | apply Kd.R_drew)); exact HO_37.out) (Kd.R_typed (by (with_reducible repeat (first | apply Kd.R_alloc | apply Kd.R_drewN | apply Kd.R_drew)); exact HO_10.out)) (by decide) hg); have n1_ := Ax (hb); have n2_ := Ax (ho); clear HO_37; clear HB; clear HO_10; have HO_37 := n0_; have HB := n1_; have HO205 := n2_; clear n0_ n1_ n2_; clear ho hb hg hat))
                       go_roundg kj39
                       case measure => have := HK1.out; have := HK2.out; have := HJ29.out; have := HJ33.out; have := HJ36.out; have := HJ39.out; omega
                       case rel => exact ⟨(y203), (true), (wrap64 (x39_2 + 1)), rS, rS, H', ⟨by have := HK1.out; have := HK2.out; have := HJ29.out; have := HJ33.out; have := HJ36.out; have := HJ39.out; omega⟩, ⟨by (with_reducible repeat (first | apply Kd.R_alloc | apply Kd.R_drewN | apply Kd.R_drew)); exact HO205.out⟩, ⟨by (with_reducible repeat (first | apply Kd.R_alloc | apply Kd.R_drewN | apply Kd.R_drew)); exact HO_37.out⟩, ⟨bw0 HB.out⟩⟩
                      ·rw [if_neg c62] at H
                       exact absurd H (by simp)
                     ·replace c61 := Bool.eq_false_iff.mpr c61
                      subst c61
                      have H1 : (spoorref19_row.l1 kj39 a0 l1 l2 x10_2 false t193 (t193.length : Int) (wrap64 (x39_2 + 1))) = some r := by rw [if_neg (show ¬ (false = true) by decide)] at H; exact H
                      clear H
                      have H := H1
                      clear H1
                      have H' := Ax H
                      clear H
                      go_wp2
                      go_roundg kj39
                      case measure => have := HK1.out; have := HK2.out; have := HJ29.out; have := HJ33.out; have := HJ36.out; have := HJ39.out; omega
                      case rel => exact ⟨(x10_2), (false), (wrap64 (x39_2 + 1)), rS, rS, H', ⟨by have := HK1.out; have := HK2.out; have := HJ29.out; have := HJ33.out; have := HJ36.out; have := HJ39.out; omega⟩, ⟨by (with_reducible repeat (first | apply Kd.R_alloc | apply Kd.R_drewN | apply Kd.R_drew)); exact HO_10.out⟩, ⟨by (with_reducible repeat (first | apply Kd.R_alloc | apply Kd.R_drewN | apply Kd.R_drew)); exact HO_37.out⟩, ⟨bw0 HB.out⟩⟩
          ·rw [if_neg c27] at H
           exact absurd H (by simp)
         ·rw [if_neg c26] at H
          exact absurd H (by simp)
        ·rw [if_neg c25] at H
         have c25b0 : decide (x39_2 < (t193.length : Int)) = false := decide_eq_false c25
         clear c25
         obtain rfl := Option.some.inj H
         go_wp2
         go_ret
         exact ⟨_, eS, by (with_reducible repeat (first | apply Kd.R_alloc | apply Kd.R_drewN | apply Kd.R_drew)); exact HO_10.out, bw0 HB.out⟩
  ·rw [if_neg c5] at H
   exact absurd H (by simp)
 ·rw [if_neg c4] at H
  exact absurd H (by simp)
def spoorref19_Make.l0 : Nat → List (S36) → List (S36) → Int → Int → Option ((List (S36)) × Int)
 | 0, _, _, _, _ => none
 | k + 1, x0, x9, x10, x11 => if x11 < x10 then (if 0 ≤ x11 then (if x11 < (x9.length : Int) then ((spoorref19_One.f ((rd_T36 x9 x11).f0) ((rd_T36 x9 x11).f1)).bind fun t208 => (if t208 = true then (spoorref19_Make.l0 k x0 x9 x10 (wrap64 (x11 + 1))) else (some (([] : List (S36)), 2)))) else (none)) else (none)) else ((spoorref19_row.f k 0 x0 ([] : List (S36))).bind fun t209 => (some (t209, 0)))
def spoorref19_Make.f (k : Nat) (l0 : List (S36)) : Option ((List (S36)) × Int) := if (l0.length : Int) > 1024 then (some (([] : List (S36)), 11)) else (spoorref19_Make.l0 k l0 l0 (l0.length : Int) 0)
set_option maxHeartbeats 8000000 in
set_option maxRecDepth 100000 in
theorem spoorref19_Make.calls (k : Nat) (A0 : Option Addr) (c0 : Nat) (l0 : List (S36)) (r1 : List (S36)) (r2 : Int) (w : World) (hr0 : Kd.C k36 w A0 l0.length l0) (hc0 : l0.length ≤ c0) (h : spoorref19_Make.f k l0 = some (r1, r2)) :
  Calls Try.prog 11 #[.slice A0 l0.length c0] w fun e w' => ∃ v0_ : Value, e = .returned (.tuple #[v0_, .int .i64 r2]) ∧ Kd.R k36 36 w' w.heap.size (fun _ => True) v0_ r1 ∧ Below w.heap.size w w' := by
 have hu36 := Try.underlying36
 have HR0 := Ax hr0
 have HC0 := Ax hc0
 clear hr0 hc0
 have HB := Ax (Below.refl w.heap.size w)
 have H : (if (l0.length : Int) > 1024 then (some (([] : List (S36)), 11)) else (spoorref19_Make.l0 k l0 l0 (l0.length : Int) 0)) = some (r1, r2) := h
 clear h
 by_cases c2 : (l0.length : Int) > 1024
 ·rw [if_pos c2] at H
  have c2b0 : decide (1024 < (l0.length : Int)) = true := decide_eq_true c2
  have c2b1 : decide (1024 < l0.length) = true := decide_eq_true (by omega)
  clear c2
  simp only [Option.some.injEq, Prod.mk.injEq] at H
  obtain ⟨rfl, rfl⟩ := H
  go_enter Try.func11, Try.ntmps11
  go_wp2
  go_ret2
  exact ⟨_, eS, by first | exact Kd.R_nil _ _ _ _ _ | exact Kd.N_nil _ _ _ _ _ | exact Kd.V_nil _ _ _ _ _ | exact Kd.Q_nil _ _ _ _ _ | exact Kd.S_nil _ _ _ _ _, bw0 HB.out⟩
 ·rw [if_neg c2] at H
  have c2b0 : decide (1024 < (l0.length : Int)) = false := decide_eq_false c2
  have c2b1 : decide (1024 < l0.length) = false := decide_eq_false (by omega)
  clear c2
  have H' := Ax H
  clear H
  go_enter Try.func11, Try.ntmps11
  go_wp2
  go_loopg [11] k (fun kq v11 w' => ∃ (x11_1 : Int), v11 = .int .i64 x11_1 ∧ Aside0 (spoorref19_Make.l0 kq l0 l0 (l0.length : Int) x11_1 = some (r1, r2)) ∧ Aside0 (kq ≤ k) ∧ Aside0 (Below w.heap.size w w'))
  case atStart => exact ⟨(0), rS, H', ⟨Nat.le_refl _⟩, ⟨bw0 HB.out⟩⟩
  case round =>
   clear H'
   try clear c1
   try clear c2
   try clear c2b0
   try clear c2b1
   try clear p2
   obtain ⟨x11_1, rfl, HA, HK1, HB⟩ := hrel
   cases gk with
   | zero => exact absurd HA.out (by simp [spoorref19_Make.l0])
   | succ k1 =>
    have H := HA.out
    clear HA
    simp only [spoorref19_Make.l0] at H
    by_cases c3 : x11_1 < (l0.length : Int)
    ·rw [if_pos c3] at H
     have c3b0 : decide (x11_1 < (l0.length : Int)) = true := decide_eq_true c3
     clear c3
     by_cases c4 : 0 ≤ x11_1
     ·rw [if_pos c4] at H
      have c4b0 : decide (0 ≤ x11_1) = true := decide_eq_true c4
      clear c4
      by_cases c5 : x11_1 < (l0.length : Int)
      ·rw [if_pos c5] at H
       have c5b0 : decide (x11_1 < (l0.length : Int)) = true := decide_eq_true c5
       clear c5
       replace H := Option.bind_eq_some_iff.mp H
       obtain ⟨t208, A60, H⟩ := H
       replace H : (if t208 = true then (spoorref19_Make.l0 k1 l0 l0 (l0.length : Int) (wrap64 (x11_1 + 1))) else (some (([] : List (S36)), 2))) = some (r1, r2) := H
       have A6 := Ax A60
       clear A60
       by_cases c7 : t208 = true
       ·subst c7
        have H1 : (spoorref19_Make.l0 k1 l0 l0 (l0.length : Int) (wrap64 (x11_1 + 1))) = some (r1, r2) := by rw [if_pos rfl] at H; exact H
        clear H
        have H := H1
        clear H1
        have H' := Ax H
        clear H
        have p206 : 0 ≤ (x11_1 : Int) := of_decide_eq_true (by first | (with_reducible assumption) | assumption)
        have q206 : x11_1 < (l0.length : Int) := of_decide_eq_true (by first | (with_reducible assumption) | assumption)
        obtain ⟨ad206, e206, hx206_0, hx206_1⟩ := at_T36 HR0.out x11_1 p206 q206
        cases e206
        replace hx206_0 := (HB.out.cell (World.block_lt_of_cell? w _ hx206_0)).trans hx206_0
        replace hx206_1 := (HB.out.cell (World.block_lt_of_cell? w _ hx206_1)).trans hx206_1
        replace p206 := eq_true p206
        replace q206 := eq_true q206
        go_wp2_with (first | ((with_reducible refine gate_dst (N := 5) rfl ?_); refine box_event ?hg (N := 5) ?hd (cs := #[.int .i64 0, .int .i64 0]) (t := 36) ?hr ?_; (case hd => rfl); (case hg => rfl); (case hr => first | (go_simp; done) | (go_simp; rfl)); intro gb207 hg w8 hbox hb; have n0_ := Bs0 HB hb; have n1_ := Ax (hbox); have n2_ := Gw0 HB hg; have n3_ := Gw0 HB hg; clear HB; have HB := n0_; have BK207 := n1_; have GW207 := n2_; have GE207 := n3_; clear n0_ n1_ n2_ n3_; clear hb hbox hg; obtain ⟨hcz9_0, hcz9_1, hfz9_0, hfz9_1⟩ := cl2 BK207) | ((with_reducible refine gate_callee (f := 32) rfl ?_); refine goesL_ (some 16) rfl rfl Try.func32 (by kernel_rfl) rfl #[.agg #[.int .i64 ((rd_T36 l0 x11_1).f0), .int .i64 ((rd_T36 l0 x11_1).f1)]] rfl gS ?_; (with_reducible refine (spoorref19_One.calls ((rd_T36 l0 x11_1).f0) ((rd_T36 l0 x11_1).f1) true _ A6.out).mono ?_); rintro e w10 ⟨rfl, hb⟩; refine ⟨_, rfl, ?_⟩; have n0_ := Ax (blk_below (g := gb207) (o := .cells #[.int .i64 ((rd_T36 l0 x11_1).f0), .int .i64 ((rd_T36 l0 x11_1).f1)] 36 (0, 0)) (by (with_reducible repeat (first | refine blk_drewN ?_ _ | refine blk_drew ?_ | refine blk_alloc ?_ _)); refine blk_put (cs := #[.int .i64 ((rd_T36 l0 x11_1).f0), .int .i64 0]) ?_ 1 _ rfl; (with_reducible repeat (first | refine blk_drewN ?_ _ | refine blk_drew ?_ | refine blk_alloc ?_ _)); refine blk_put (cs := #[.int .i64 0, .int .i64 0]) ?_ 0 _ rfl; (with_reducible repeat (first | refine blk_drewN ?_ _ | refine blk_drew ?_ | refine blk_alloc ?_ _)); exact BK207.out) hb); have n1_ := Bs1 HB hb GE207.out; clear BK207; clear HB; have BK207 := n0_; have HB := n1_; clear n0_ n1_; (try clear hb)))
        go_roundg k1
        case measure => have := HK1.out; omega
        case rel => exact ⟨(wrap64 (x11_1 + 1)), rS, H', ⟨by have := HK1.out; omega⟩, ⟨bw1 HB.out GE207.out⟩⟩
       ·replace c7 := Bool.eq_false_iff.mpr c7
        subst c7
        have H1 : (some (([] : List (S36)), 2)) = some (r1, r2) := by rw [if_neg (show ¬ (false = true) by decide)] at H; exact H
        clear H
        have H := H1
        clear H1
        simp only [Option.some.injEq, Prod.mk.injEq] at H
        obtain ⟨rfl, rfl⟩ := H
        have p206 : 0 ≤ (x11_1 : Int) := of_decide_eq_true (by first | (with_reducible assumption) | assumption)
        have q206 : x11_1 < (l0.length : Int) := of_decide_eq_true (by first | (with_reducible assumption) | assumption)
        obtain ⟨ad206, e206, hx206_0, hx206_1⟩ := at_T36 HR0.out x11_1 p206 q206
        cases e206
        replace hx206_0 := (HB.out.cell (World.block_lt_of_cell? w _ hx206_0)).trans hx206_0
        replace hx206_1 := (HB.out.cell (World.block_lt_of_cell? w _ hx206_1)).trans hx206_1
        replace p206 := eq_true p206
        replace q206 := eq_true q206
        go_wp2_with (first | ((with_reducible refine gate_dst (N := 5) rfl ?_); refine box_event ?hg (N := 5) ?hd (cs := #[.int .i64 0, .int .i64 0]) (t := 36) ?hr ?_; (case hd => rfl); (case hg => rfl); (case hr => first | (go_simp; done) | (go_simp; rfl)); intro gb207 hg w11 hbox hb; have n0_ := Bs0 HB hb; have n1_ := Ax (hbox); have n2_ := Gw0 HB hg; have n3_ := Gw0 HB hg; clear HB; have HB := n0_; have BK207 := n1_; have GW207 := n2_; have GE207 := n3_; clear n0_ n1_ n2_ n3_; clear hb hbox hg; obtain ⟨hcz12_0, hcz12_1, hfz12_0, hfz12_1⟩ := cl2 BK207) | ((with_reducible refine gate_callee (f := 32) rfl ?_); refine goesL_ (some 16) rfl rfl Try.func32 (by kernel_rfl) rfl #[.agg #[.int .i64 ((rd_T36 l0 x11_1).f0), .int .i64 ((rd_T36 l0 x11_1).f1)]] rfl gS ?_; (with_reducible refine (spoorref19_One.calls ((rd_T36 l0 x11_1).f0) ((rd_T36 l0 x11_1).f1) false _ A6.out).mono ?_); rintro e w13 ⟨rfl, hb⟩; refine ⟨_, rfl, ?_⟩; have n0_ := Ax (blk_below (g := gb207) (o := .cells #[.int .i64 ((rd_T36 l0 x11_1).f0), .int .i64 ((rd_T36 l0 x11_1).f1)] 36 (0, 0)) (by (with_reducible repeat (first | refine blk_drewN ?_ _ | refine blk_drew ?_ | refine blk_alloc ?_ _)); refine blk_put (cs := #[.int .i64 ((rd_T36 l0 x11_1).f0), .int .i64 0]) ?_ 1 _ rfl; (with_reducible repeat (first | refine blk_drewN ?_ _ | refine blk_drew ?_ | refine blk_alloc ?_ _)); refine blk_put (cs := #[.int .i64 0, .int .i64 0]) ?_ 0 _ rfl; (with_reducible repeat (first | refine blk_drewN ?_ _ | refine blk_drew ?_ | refine blk_alloc ?_ _)); exact BK207.out) hb); have n1_ := Bs1 HB hb GE207.out; clear BK207; clear HB; have BK207 := n0_; have HB := n1_; clear n0_ n1_; (try clear hb)))
        go_ret2
        exact ⟨_, eS, by first | exact Kd.R_nil _ _ _ _ _ | exact Kd.N_nil _ _ _ _ _ | exact Kd.V_nil _ _ _ _ _ | exact Kd.Q_nil _ _ _ _ _ | exact Kd.S_nil _ _ _ _ _, bw1 HB.out GE207.out⟩
      ·rw [if_neg c5] at H
       exact absurd H (by simp)
     ·rw [if_neg c4] at H
      exact absurd H (by simp)
    ·rw [if_neg c3] at H
     have c3b0 : decide (x11_1 < (l0.length : Int)) = false := decide_eq_false c3
     clear c3
     replace H := Option.bind_eq_some_iff.mp H
     obtain ⟨t209, A140, H⟩ := H
     replace H : (some (t209, 0)) = some (r1, r2) := H
     have A14 := Ax A140
     clear A140
     simp only [Option.some.injEq, Prod.mk.injEq] at H
     obtain ⟨rfl, rfl⟩ := H
     go_wp2_with (first | ((with_reducible refine gate_callee (f := 33) rfl ?_); refine goesL_ (some 20) rfl rfl Try.func33 (by kernel_rfl) rfl #[.int .i64 0, .slice A0 l0.length c0, .slice none 0 0] rfl gS ?_; (refine (spoorref19_row.calls k1 0 _ _ l0 _ _ ([] : List (S36)) t209 _ ?side1 ?side2 ?side3 ?side4 A14.out).mono ?_); (case side1 => repeat (first | exact (Kd.C_below HR0.out HB.out) | (with_reducible refine Kd.C_alloc ?_ _) | (with_reducible refine Kd.C_drewN ?_ _) | (with_reducible refine Kd.C_drew ?_))); (case side2 => exact HC0.out); (case side3 => exact Kd.C_nil _ _); (case side4 => exact Nat.le_refl _); rintro e w15 ⟨v210, rfl, ho0, hb⟩; refine ⟨_, rfl, ?_⟩; have HO211 := Ax (Kd.R_lower ho0 (below_size (bw0 HB.out))); replace HB := Bs0 HB hb; (try clear hb); (try clear ho0)))
     go_ret2
     exact ⟨_, eS, by (with_reducible repeat (first | apply Kd.R_alloc | apply Kd.R_drewN | apply Kd.R_drew)); exact HO211.out, bw0 HB.out⟩
def spoorref19_Check.l0 : Nat → List (S36) → List (S36) → Int → Int → Option (Int)
 | 0, _, _, _, _ => none
 | k + 1, x0, x8, x9, x10 => if x10 < x9 then (if 0 ≤ x10 then (if x10 < (x8.length : Int) then ((spoorref19_One.f ((rd_T36 x8 x10).f0) ((rd_T36 x8 x10).f1)).bind fun t214 => (if t214 = true then (if x10 > 0 then (if 0 ≤ (wrap64 (x10 - 1)) then (if (wrap64 (x10 - 1)) < (x0.length : Int) then (if ((rd_T36 x8 x10).f0) ≤ (wrap64 (((rd_T36 x0 (wrap64 (x10 - 1))).f1) + 1)) then (some 2) else (spoorref19_Check.l0 k x0 x8 x9 (wrap64 (x10 + 1)))) else (none)) else (none)) else (spoorref19_Check.l0 k x0 x8 x9 (wrap64 (x10 + 1)))) else (some 2))) else (none)) else (none)) else (some 0)
def spoorref19_Check.f (k : Nat) (l0 : List (S36)) : Option (Int) := if (l0.length : Int) > 1024 then (some 2) else (spoorref19_Check.l0 k l0 l0 (l0.length : Int) 0)
def spoorref19_Check.T6 : Bool × List (List Nat × List Nat) := (true, [([], []), ([0], [0]), ([1], [1]), ([2, 1], [2]), ([3], [3]), ([4, 3], [3, 4]), ([5, 3, 3], [3, 5]), ([6], [6]), ([7, 6], [6, 7]), ([6], [6]), ([6], [6]), ([10, 6], [6, 10]), ([9, 11, 6], [6, 9, 11]), ([12, 6], [6, 12]), ([13, 6], [6, 13]), ([14, 6], [6, 14]), ([8, 15, 6], [6, 8, 15]), ([6, 16, 3], [3, 6, 16]), ([3, 17], [3, 17])])
def spoorref19_Check.B6 : List Nat := [0, 1, 3, 7, 15, 31, 63, 127, 255, 127, 127, 1151, 3711, 7807, 15999, 32383, 65535, 131071, 262143]
theorem spoorref19_Check.tab6 : rtab .any (opsOf Try.f18 6) = spoorref19_Check.T6 := by kernel_rfl
theorem spoorref19_Check.bits6 : waitsOk spoorref19_Check.T6.2 spoorref19_Check.B6 = true := by kernel_rfl
end Go.Proofs.Ytkjjidanakmkeaa.Q
end
