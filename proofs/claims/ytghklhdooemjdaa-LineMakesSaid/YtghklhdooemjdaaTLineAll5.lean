-- Merged and trimmed by this session's program wip/tools/trim.py.
import Derived.Test.YtghklhdooemjdaaTLineAll4
section
namespace Go.Proofs.Ytghklhdooemjdaa.Q
open Go.RowKit Go.Proofs.YtghklhdooemjdaaW.PrintWords Go.Proofs.YtghklhdooemjdaaW.PrintLast Go.Proofs.YtghklhdooemjdaaW.PrintMore
attribute [local go_sem] max2_int min2_int max_two min_two max_three min_three max_four min_four   -- for this text's walks alone
set_option linter.unusedVariables false
set_option linter.unusedSimpArgs false
attribute [local go_sem high] eqA35
set_option maxHeartbeats 8000000 in
set_option maxRecDepth 100000 in
theorem spoorlaw20_lives.calls (k : Nat)  (r : Bool) (w : World) (h : spoorlaw20_lives.f k  = some r) :
  Calls Try.prog 10 #[] w fun e w' => e = .returned (.bool r) ∧ Below w.heap.size w w' := by
 have hu23 := Try.underlying23
 have hu35 := Try.underlying35
 have hu46 := Try.underlying46
 have hu52 := Try.underlying52
 have HB := Ax (Below.refl w.heap.size w)
 have H : ((line_Make.f k 0 9 (([(⟨0, (⟨3, 1⟩ : S35)⟩ : S46), (⟨3, (⟨3, 1⟩ : S35)⟩ : S46), (⟨5, (⟨1, 2⟩ : S35)⟩ : S46)] : List (S46)))).bind fun bt178 => ((line_At.f k 0 9 bt178.1 4).bind fun bt182 => ((line_When.f k 0 9 bt178.1 1 2).bind fun bt186 => ((line_Cut.f k 0 9 bt178.1 4 5).bind fun bt190 => ((line_Make.f k 0 9 (([(⟨0, (⟨3, 1⟩ : S35)⟩ : S46)] : List (S46)))).bind fun bt197 => ((line_Differ.f k 0 9 bt178.1 bt197.1).bind fun bt201 => ((line_At.f k 0 9 bt178.1 10).bind fun bt205 => ((line_Make.f k 0 9 (([(⟨1, (⟨3, 1⟩ : S35)⟩ : S46)] : List (S46)))).bind fun bt212 => ((spoorref20_Same.f k bt178.1 (([(⟨(⟨0, 4⟩ : S23), (⟨3, 1⟩ : S35)⟩ : S52), (⟨(⟨5, 9⟩ : S23), (⟨1, 2⟩ : S35)⟩ : S52)] : List (S52)))).bind fun t219 => (if t219 = true then (if bt178.2 = 0 then (if (bt182.1 == 3 && (bt182.2.1 == 1)) = true then (if bt182.2.2 = 0 then ((spoorref19_Same.f k bt186.1 (([(⟨5, 9⟩ : S23)] : List (S23)))).bind fun t223 => (if t223 = true then (if bt186.2 = 0 then ((spoorref20_Same.f k bt190.1 (([(⟨(⟨4, 4⟩ : S23), (⟨3, 1⟩ : S35)⟩ : S52), (⟨(⟨5, 5⟩ : S23), (⟨1, 2⟩ : S35)⟩ : S52)] : List (S52)))).bind fun t227 => (if t227 = true then (if bt190.2 = 0 then (if bt197.2 = 0 then ((spoorref19_Same.f k bt201.1 (([(⟨5, 9⟩ : S23)] : List (S23)))).bind fun t231 => (if t231 = true then (if bt201.2 = 0 then (if bt205.2.2 = 1 then (if bt212.2 = 2 then ((line_Check.f k 0 9 bt178.1).bind fun t232 => (some (t232 == 0))) else (none)) else (none)) else (none)) else (none))) else (none)) else (none)) else (none))) else (none)) else (none))) else (none)) else (none)) else (none)) else (none))))))))))) = some r := h
 clear h
 obtain ⟨y175, hy175⟩ : ∃ y_ : List (S46), y_ = (([(⟨0, (⟨3, 1⟩ : S35)⟩ : S46), (⟨3, (⟨3, 1⟩ : S35)⟩ : S46), (⟨5, (⟨1, 2⟩ : S35)⟩ : S46)] : List (S46))) := ⟨_, rfl⟩
 replace H : ((line_Make.f k 0 9 y175).bind fun bt178 => ((line_At.f k 0 9 bt178.1 4).bind fun bt182 => ((line_When.f k 0 9 bt178.1 1 2).bind fun bt186 => ((line_Cut.f k 0 9 bt178.1 4 5).bind fun bt190 => ((line_Make.f k 0 9 (([(⟨0, (⟨3, 1⟩ : S35)⟩ : S46)] : List (S46)))).bind fun bt197 => ((line_Differ.f k 0 9 bt178.1 bt197.1).bind fun bt201 => ((line_At.f k 0 9 bt178.1 10).bind fun bt205 => ((line_Make.f k 0 9 (([(⟨1, (⟨3, 1⟩ : S35)⟩ : S46)] : List (S46)))).bind fun bt212 => ((spoorref20_Same.f k bt178.1 (([(⟨(⟨0, 4⟩ : S23), (⟨3, 1⟩ : S35)⟩ : S52), (⟨(⟨5, 9⟩ : S23), (⟨1, 2⟩ : S35)⟩ : S52)] : List (S52)))).bind fun t219 => (if t219 = true then (if bt178.2 = 0 then (if (bt182.1 == 3 && (bt182.2.1 == 1)) = true then (if bt182.2.2 = 0 then ((spoorref19_Same.f k bt186.1 (([(⟨5, 9⟩ : S23)] : List (S23)))).bind fun t223 => (if t223 = true then (if bt186.2 = 0 then ((spoorref20_Same.f k bt190.1 (([(⟨(⟨4, 4⟩ : S23), (⟨3, 1⟩ : S35)⟩ : S52), (⟨(⟨5, 5⟩ : S23), (⟨1, 2⟩ : S35)⟩ : S52)] : List (S52)))).bind fun t227 => (if t227 = true then (if bt190.2 = 0 then (if bt197.2 = 0 then ((spoorref19_Same.f k bt201.1 (([(⟨5, 9⟩ : S23)] : List (S23)))).bind fun t231 => (if t231 = true then (if bt201.2 = 0 then (if bt205.2.2 = 1 then (if bt212.2 = 2 then ((line_Check.f k 0 9 bt178.1).bind fun t232 => (some (t232 == 0))) else (none)) else (none)) else (none)) else (none))) else (none)) else (none)) else (none))) else (none)) else (none))) else (none)) else (none)) else (none)) else (none))))))))))) = some r := by first | (rw [hy175]; with_reducible exact H) | (have H2_ := (Option.bind_some _ _).symm.trans H; rw [hy175]; with_reducible exact H2_) | (have H2_ := (Option.bind_some _ _).symm.trans H; with_reducible exact H2_) | with_reducible exact H | (rw [hy175]; exact H) | exact H
 have Ny175 := Ax hy175
 clear hy175
 replace H := Option.bind_eq_some_iff.mp H
 obtain ⟨⟨t178, t181⟩, A10, H⟩ := H
 replace H : ((line_At.f k 0 9 t178 4).bind fun bt182 => ((line_When.f k 0 9 t178 1 2).bind fun bt186 => ((line_Cut.f k 0 9 t178 4 5).bind fun bt190 => ((line_Make.f k 0 9 (([(⟨0, (⟨3, 1⟩ : S35)⟩ : S46)] : List (S46)))).bind fun bt197 => ((line_Differ.f k 0 9 t178 bt197.1).bind fun bt201 => ((line_At.f k 0 9 t178 10).bind fun bt205 => ((line_Make.f k 0 9 (([(⟨1, (⟨3, 1⟩ : S35)⟩ : S46)] : List (S46)))).bind fun bt212 => ((spoorref20_Same.f k t178 (([(⟨(⟨0, 4⟩ : S23), (⟨3, 1⟩ : S35)⟩ : S52), (⟨(⟨5, 9⟩ : S23), (⟨1, 2⟩ : S35)⟩ : S52)] : List (S52)))).bind fun t219 => (if t219 = true then (if t181 = 0 then (if (bt182.1 == 3 && (bt182.2.1 == 1)) = true then (if bt182.2.2 = 0 then ((spoorref19_Same.f k bt186.1 (([(⟨5, 9⟩ : S23)] : List (S23)))).bind fun t223 => (if t223 = true then (if bt186.2 = 0 then ((spoorref20_Same.f k bt190.1 (([(⟨(⟨4, 4⟩ : S23), (⟨3, 1⟩ : S35)⟩ : S52), (⟨(⟨5, 5⟩ : S23), (⟨1, 2⟩ : S35)⟩ : S52)] : List (S52)))).bind fun t227 => (if t227 = true then (if bt190.2 = 0 then (if bt197.2 = 0 then ((spoorref19_Same.f k bt201.1 (([(⟨5, 9⟩ : S23)] : List (S23)))).bind fun t231 => (if t231 = true then (if bt201.2 = 0 then (if bt205.2.2 = 1 then (if bt212.2 = 2 then ((line_Check.f k 0 9 t178).bind fun t232 => (some (t232 == 0))) else (none)) else (none)) else (none)) else (none))) else (none)) else (none)) else (none))) else (none)) else (none))) else (none)) else (none)) else (none)) else (none)))))))))) = some r := H
 have A1 := Ax A10
 clear A10
 replace H := Option.bind_eq_some_iff.mp H
 obtain ⟨⟨t182, t183, t184⟩, A20, H⟩ := H
 replace H : ((line_When.f k 0 9 t178 1 2).bind fun bt186 => ((line_Cut.f k 0 9 t178 4 5).bind fun bt190 => ((line_Make.f k 0 9 (([(⟨0, (⟨3, 1⟩ : S35)⟩ : S46)] : List (S46)))).bind fun bt197 => ((line_Differ.f k 0 9 t178 bt197.1).bind fun bt201 => ((line_At.f k 0 9 t178 10).bind fun bt205 => ((line_Make.f k 0 9 (([(⟨1, (⟨3, 1⟩ : S35)⟩ : S46)] : List (S46)))).bind fun bt212 => ((spoorref20_Same.f k t178 (([(⟨(⟨0, 4⟩ : S23), (⟨3, 1⟩ : S35)⟩ : S52), (⟨(⟨5, 9⟩ : S23), (⟨1, 2⟩ : S35)⟩ : S52)] : List (S52)))).bind fun t219 => (if t219 = true then (if t181 = 0 then (if (t182 == 3 && (t183 == 1)) = true then (if t184 = 0 then ((spoorref19_Same.f k bt186.1 (([(⟨5, 9⟩ : S23)] : List (S23)))).bind fun t223 => (if t223 = true then (if bt186.2 = 0 then ((spoorref20_Same.f k bt190.1 (([(⟨(⟨4, 4⟩ : S23), (⟨3, 1⟩ : S35)⟩ : S52), (⟨(⟨5, 5⟩ : S23), (⟨1, 2⟩ : S35)⟩ : S52)] : List (S52)))).bind fun t227 => (if t227 = true then (if bt190.2 = 0 then (if bt197.2 = 0 then ((spoorref19_Same.f k bt201.1 (([(⟨5, 9⟩ : S23)] : List (S23)))).bind fun t231 => (if t231 = true then (if bt201.2 = 0 then (if bt205.2.2 = 1 then (if bt212.2 = 2 then ((line_Check.f k 0 9 t178).bind fun t232 => (some (t232 == 0))) else (none)) else (none)) else (none)) else (none))) else (none)) else (none)) else (none))) else (none)) else (none))) else (none)) else (none)) else (none)) else (none))))))))) = some r := H
 have A2 := Ax A20
 clear A20
 replace H := Option.bind_eq_some_iff.mp H
 obtain ⟨⟨t186, t189⟩, A30, H⟩ := H
 replace H : ((line_Cut.f k 0 9 t178 4 5).bind fun bt190 => ((line_Make.f k 0 9 (([(⟨0, (⟨3, 1⟩ : S35)⟩ : S46)] : List (S46)))).bind fun bt197 => ((line_Differ.f k 0 9 t178 bt197.1).bind fun bt201 => ((line_At.f k 0 9 t178 10).bind fun bt205 => ((line_Make.f k 0 9 (([(⟨1, (⟨3, 1⟩ : S35)⟩ : S46)] : List (S46)))).bind fun bt212 => ((spoorref20_Same.f k t178 (([(⟨(⟨0, 4⟩ : S23), (⟨3, 1⟩ : S35)⟩ : S52), (⟨(⟨5, 9⟩ : S23), (⟨1, 2⟩ : S35)⟩ : S52)] : List (S52)))).bind fun t219 => (if t219 = true then (if t181 = 0 then (if (t182 == 3 && (t183 == 1)) = true then (if t184 = 0 then ((spoorref19_Same.f k t186 (([(⟨5, 9⟩ : S23)] : List (S23)))).bind fun t223 => (if t223 = true then (if t189 = 0 then ((spoorref20_Same.f k bt190.1 (([(⟨(⟨4, 4⟩ : S23), (⟨3, 1⟩ : S35)⟩ : S52), (⟨(⟨5, 5⟩ : S23), (⟨1, 2⟩ : S35)⟩ : S52)] : List (S52)))).bind fun t227 => (if t227 = true then (if bt190.2 = 0 then (if bt197.2 = 0 then ((spoorref19_Same.f k bt201.1 (([(⟨5, 9⟩ : S23)] : List (S23)))).bind fun t231 => (if t231 = true then (if bt201.2 = 0 then (if bt205.2.2 = 1 then (if bt212.2 = 2 then ((line_Check.f k 0 9 t178).bind fun t232 => (some (t232 == 0))) else (none)) else (none)) else (none)) else (none))) else (none)) else (none)) else (none))) else (none)) else (none))) else (none)) else (none)) else (none)) else (none)))))))) = some r := H
 have A3 := Ax A30
 clear A30
 replace H := Option.bind_eq_some_iff.mp H
 obtain ⟨⟨t190, t193⟩, A40, H⟩ := H
 replace H : ((line_Make.f k 0 9 (([(⟨0, (⟨3, 1⟩ : S35)⟩ : S46)] : List (S46)))).bind fun bt197 => ((line_Differ.f k 0 9 t178 bt197.1).bind fun bt201 => ((line_At.f k 0 9 t178 10).bind fun bt205 => ((line_Make.f k 0 9 (([(⟨1, (⟨3, 1⟩ : S35)⟩ : S46)] : List (S46)))).bind fun bt212 => ((spoorref20_Same.f k t178 (([(⟨(⟨0, 4⟩ : S23), (⟨3, 1⟩ : S35)⟩ : S52), (⟨(⟨5, 9⟩ : S23), (⟨1, 2⟩ : S35)⟩ : S52)] : List (S52)))).bind fun t219 => (if t219 = true then (if t181 = 0 then (if (t182 == 3 && (t183 == 1)) = true then (if t184 = 0 then ((spoorref19_Same.f k t186 (([(⟨5, 9⟩ : S23)] : List (S23)))).bind fun t223 => (if t223 = true then (if t189 = 0 then ((spoorref20_Same.f k t190 (([(⟨(⟨4, 4⟩ : S23), (⟨3, 1⟩ : S35)⟩ : S52), (⟨(⟨5, 5⟩ : S23), (⟨1, 2⟩ : S35)⟩ : S52)] : List (S52)))).bind fun t227 => (if t227 = true then (if t193 = 0 then (if bt197.2 = 0 then ((spoorref19_Same.f k bt201.1 (([(⟨5, 9⟩ : S23)] : List (S23)))).bind fun t231 => (if t231 = true then (if bt201.2 = 0 then (if bt205.2.2 = 1 then (if bt212.2 = 2 then ((line_Check.f k 0 9 t178).bind fun t232 => (some (t232 == 0))) else (none)) else (none)) else (none)) else (none))) else (none)) else (none)) else (none))) else (none)) else (none))) else (none)) else (none)) else (none)) else (none))))))) = some r := H
 have A4 := Ax A40
 clear A40
 obtain ⟨y194, hy194⟩ : ∃ y_ : List (S46), y_ = (([(⟨0, (⟨3, 1⟩ : S35)⟩ : S46)] : List (S46))) := ⟨_, rfl⟩
 replace H : ((line_Make.f k 0 9 y194).bind fun bt197 => ((line_Differ.f k 0 9 t178 bt197.1).bind fun bt201 => ((line_At.f k 0 9 t178 10).bind fun bt205 => ((line_Make.f k 0 9 (([(⟨1, (⟨3, 1⟩ : S35)⟩ : S46)] : List (S46)))).bind fun bt212 => ((spoorref20_Same.f k t178 (([(⟨(⟨0, 4⟩ : S23), (⟨3, 1⟩ : S35)⟩ : S52), (⟨(⟨5, 9⟩ : S23), (⟨1, 2⟩ : S35)⟩ : S52)] : List (S52)))).bind fun t219 => (if t219 = true then (if t181 = 0 then (if (t182 == 3 && (t183 == 1)) = true then (if t184 = 0 then ((spoorref19_Same.f k t186 (([(⟨5, 9⟩ : S23)] : List (S23)))).bind fun t223 => (if t223 = true then (if t189 = 0 then ((spoorref20_Same.f k t190 (([(⟨(⟨4, 4⟩ : S23), (⟨3, 1⟩ : S35)⟩ : S52), (⟨(⟨5, 5⟩ : S23), (⟨1, 2⟩ : S35)⟩ : S52)] : List (S52)))).bind fun t227 => (if t227 = true then (if t193 = 0 then (if bt197.2 = 0 then ((spoorref19_Same.f k bt201.1 (([(⟨5, 9⟩ : S23)] : List (S23)))).bind fun t231 => (if t231 = true then (if bt201.2 = 0 then (if bt205.2.2 = 1 then (if bt212.2 = 2 then ((line_Check.f k 0 9 t178).bind fun t232 => (some (t232 == 0))) else (none)) else (none)) else (none)) else (none))) else (none)) else (none)) else (none))) else (none)) else (none))) else (none)) else (none)) else (none)) else (none))))))) = some r := by first | (rw [hy194]; with_reducible exact H) | (have H2_ := (Option.bind_some _ _).symm.trans H; rw [hy194]; with_reducible exact H2_) | (have H2_ := (Option.bind_some _ _).symm.trans H; with_reducible exact H2_) | with_reducible exact H | (rw [hy194]; exact H) | exact H
 have Ny194 := Ax hy194
 clear hy194
 replace H := Option.bind_eq_some_iff.mp H
 obtain ⟨⟨t197, t200⟩, A50, H⟩ := H
 replace H : ((line_Differ.f k 0 9 t178 t197).bind fun bt201 => ((line_At.f k 0 9 t178 10).bind fun bt205 => ((line_Make.f k 0 9 (([(⟨1, (⟨3, 1⟩ : S35)⟩ : S46)] : List (S46)))).bind fun bt212 => ((spoorref20_Same.f k t178 (([(⟨(⟨0, 4⟩ : S23), (⟨3, 1⟩ : S35)⟩ : S52), (⟨(⟨5, 9⟩ : S23), (⟨1, 2⟩ : S35)⟩ : S52)] : List (S52)))).bind fun t219 => (if t219 = true then (if t181 = 0 then (if (t182 == 3 && (t183 == 1)) = true then (if t184 = 0 then ((spoorref19_Same.f k t186 (([(⟨5, 9⟩ : S23)] : List (S23)))).bind fun t223 => (if t223 = true then (if t189 = 0 then ((spoorref20_Same.f k t190 (([(⟨(⟨4, 4⟩ : S23), (⟨3, 1⟩ : S35)⟩ : S52), (⟨(⟨5, 5⟩ : S23), (⟨1, 2⟩ : S35)⟩ : S52)] : List (S52)))).bind fun t227 => (if t227 = true then (if t193 = 0 then (if t200 = 0 then ((spoorref19_Same.f k bt201.1 (([(⟨5, 9⟩ : S23)] : List (S23)))).bind fun t231 => (if t231 = true then (if bt201.2 = 0 then (if bt205.2.2 = 1 then (if bt212.2 = 2 then ((line_Check.f k 0 9 t178).bind fun t232 => (some (t232 == 0))) else (none)) else (none)) else (none)) else (none))) else (none)) else (none)) else (none))) else (none)) else (none))) else (none)) else (none)) else (none)) else (none)))))) = some r := H
 have A5 := Ax A50
 clear A50
 replace H := Option.bind_eq_some_iff.mp H
 obtain ⟨⟨t201, t204⟩, A60, H⟩ := H
 replace H : ((line_At.f k 0 9 t178 10).bind fun bt205 => ((line_Make.f k 0 9 (([(⟨1, (⟨3, 1⟩ : S35)⟩ : S46)] : List (S46)))).bind fun bt212 => ((spoorref20_Same.f k t178 (([(⟨(⟨0, 4⟩ : S23), (⟨3, 1⟩ : S35)⟩ : S52), (⟨(⟨5, 9⟩ : S23), (⟨1, 2⟩ : S35)⟩ : S52)] : List (S52)))).bind fun t219 => (if t219 = true then (if t181 = 0 then (if (t182 == 3 && (t183 == 1)) = true then (if t184 = 0 then ((spoorref19_Same.f k t186 (([(⟨5, 9⟩ : S23)] : List (S23)))).bind fun t223 => (if t223 = true then (if t189 = 0 then ((spoorref20_Same.f k t190 (([(⟨(⟨4, 4⟩ : S23), (⟨3, 1⟩ : S35)⟩ : S52), (⟨(⟨5, 5⟩ : S23), (⟨1, 2⟩ : S35)⟩ : S52)] : List (S52)))).bind fun t227 => (if t227 = true then (if t193 = 0 then (if t200 = 0 then ((spoorref19_Same.f k t201 (([(⟨5, 9⟩ : S23)] : List (S23)))).bind fun t231 => (if t231 = true then (if t204 = 0 then (if bt205.2.2 = 1 then (if bt212.2 = 2 then ((line_Check.f k 0 9 t178).bind fun t232 => (some (t232 == 0))) else (none)) else (none)) else (none)) else (none))) else (none)) else (none)) else (none))) else (none)) else (none))) else (none)) else (none)) else (none)) else (none))))) = some r := H
 have A6 := Ax A60
 clear A60
 replace H := Option.bind_eq_some_iff.mp H
 obtain ⟨⟨t205, t206, t207⟩, A70, H⟩ := H
 replace H : ((line_Make.f k 0 9 (([(⟨1, (⟨3, 1⟩ : S35)⟩ : S46)] : List (S46)))).bind fun bt212 => ((spoorref20_Same.f k t178 (([(⟨(⟨0, 4⟩ : S23), (⟨3, 1⟩ : S35)⟩ : S52), (⟨(⟨5, 9⟩ : S23), (⟨1, 2⟩ : S35)⟩ : S52)] : List (S52)))).bind fun t219 => (if t219 = true then (if t181 = 0 then (if (t182 == 3 && (t183 == 1)) = true then (if t184 = 0 then ((spoorref19_Same.f k t186 (([(⟨5, 9⟩ : S23)] : List (S23)))).bind fun t223 => (if t223 = true then (if t189 = 0 then ((spoorref20_Same.f k t190 (([(⟨(⟨4, 4⟩ : S23), (⟨3, 1⟩ : S35)⟩ : S52), (⟨(⟨5, 5⟩ : S23), (⟨1, 2⟩ : S35)⟩ : S52)] : List (S52)))).bind fun t227 => (if t227 = true then (if t193 = 0 then (if t200 = 0 then ((spoorref19_Same.f k t201 (([(⟨5, 9⟩ : S23)] : List (S23)))).bind fun t231 => (if t231 = true then (if t204 = 0 then (if t207 = 1 then (if bt212.2 = 2 then ((line_Check.f k 0 9 t178).bind fun t232 => (some (t232 == 0))) else (none)) else (none)) else (none)) else (none))) else (none)) else (none)) else (none))) else (none)) else (none))) else (none)) else (none)) else (none)) else (none)))) = some r := H
 have A7 := Ax A70
 clear A70
 obtain ⟨y209, hy209⟩ : ∃ y_ : List (S46), y_ = (([(⟨1, (⟨3, 1⟩ : S35)⟩ : S46)] : List (S46))) := ⟨_, rfl⟩
 replace H : ((line_Make.f k 0 9 y209).bind fun bt212 => ((spoorref20_Same.f k t178 (([(⟨(⟨0, 4⟩ : S23), (⟨3, 1⟩ : S35)⟩ : S52), (⟨(⟨5, 9⟩ : S23), (⟨1, 2⟩ : S35)⟩ : S52)] : List (S52)))).bind fun t219 => (if t219 = true then (if t181 = 0 then (if (t182 == 3 && (t183 == 1)) = true then (if t184 = 0 then ((spoorref19_Same.f k t186 (([(⟨5, 9⟩ : S23)] : List (S23)))).bind fun t223 => (if t223 = true then (if t189 = 0 then ((spoorref20_Same.f k t190 (([(⟨(⟨4, 4⟩ : S23), (⟨3, 1⟩ : S35)⟩ : S52), (⟨(⟨5, 5⟩ : S23), (⟨1, 2⟩ : S35)⟩ : S52)] : List (S52)))).bind fun t227 => (if t227 = true then (if t193 = 0 then (if t200 = 0 then ((spoorref19_Same.f k t201 (([(⟨5, 9⟩ : S23)] : List (S23)))).bind fun t231 => (if t231 = true then (if t204 = 0 then (if t207 = 1 then (if bt212.2 = 2 then ((line_Check.f k 0 9 t178).bind fun t232 => (some (t232 == 0))) else (none)) else (none)) else (none)) else (none))) else (none)) else (none)) else (none))) else (none)) else (none))) else (none)) else (none)) else (none)) else (none)))) = some r := by first | (rw [hy209]; with_reducible exact H) | (have H2_ := (Option.bind_some _ _).symm.trans H; rw [hy209]; with_reducible exact H2_) | (have H2_ := (Option.bind_some _ _).symm.trans H; with_reducible exact H2_) | with_reducible exact H | (rw [hy209]; exact H) | exact H
 have Ny209 := Ax hy209
 clear hy209
 replace H := Option.bind_eq_some_iff.mp H
 obtain ⟨⟨t212, t215⟩, A80, H⟩ := H
 replace H : ((spoorref20_Same.f k t178 (([(⟨(⟨0, 4⟩ : S23), (⟨3, 1⟩ : S35)⟩ : S52), (⟨(⟨5, 9⟩ : S23), (⟨1, 2⟩ : S35)⟩ : S52)] : List (S52)))).bind fun t219 => (if t219 = true then (if t181 = 0 then (if (t182 == 3 && (t183 == 1)) = true then (if t184 = 0 then ((spoorref19_Same.f k t186 (([(⟨5, 9⟩ : S23)] : List (S23)))).bind fun t223 => (if t223 = true then (if t189 = 0 then ((spoorref20_Same.f k t190 (([(⟨(⟨4, 4⟩ : S23), (⟨3, 1⟩ : S35)⟩ : S52), (⟨(⟨5, 5⟩ : S23), (⟨1, 2⟩ : S35)⟩ : S52)] : List (S52)))).bind fun t227 => (if t227 = true then (if t193 = 0 then (if t200 = 0 then ((spoorref19_Same.f k t201 (([(⟨5, 9⟩ : S23)] : List (S23)))).bind fun t231 => (if t231 = true then (if t204 = 0 then (if t207 = 1 then (if t215 = 2 then ((line_Check.f k 0 9 t178).bind fun t232 => (some (t232 == 0))) else (none)) else (none)) else (none)) else (none))) else (none)) else (none)) else (none))) else (none)) else (none))) else (none)) else (none)) else (none)) else (none))) = some r := H
 have A8 := Ax A80
 clear A80
 obtain ⟨y216, hy216⟩ : ∃ y_ : List (S52), y_ = (([(⟨(⟨0, 4⟩ : S23), (⟨3, 1⟩ : S35)⟩ : S52), (⟨(⟨5, 9⟩ : S23), (⟨1, 2⟩ : S35)⟩ : S52)] : List (S52))) := ⟨_, rfl⟩
 replace H : ((spoorref20_Same.f k t178 y216).bind fun t219 => (if t219 = true then (if t181 = 0 then (if (t182 == 3 && (t183 == 1)) = true then (if t184 = 0 then ((spoorref19_Same.f k t186 (([(⟨5, 9⟩ : S23)] : List (S23)))).bind fun t223 => (if t223 = true then (if t189 = 0 then ((spoorref20_Same.f k t190 (([(⟨(⟨4, 4⟩ : S23), (⟨3, 1⟩ : S35)⟩ : S52), (⟨(⟨5, 5⟩ : S23), (⟨1, 2⟩ : S35)⟩ : S52)] : List (S52)))).bind fun t227 => (if t227 = true then (if t193 = 0 then (if t200 = 0 then ((spoorref19_Same.f k t201 (([(⟨5, 9⟩ : S23)] : List (S23)))).bind fun t231 => (if t231 = true then (if t204 = 0 then (if t207 = 1 then (if t215 = 2 then ((line_Check.f k 0 9 t178).bind fun t232 => (some (t232 == 0))) else (none)) else (none)) else (none)) else (none))) else (none)) else (none)) else (none))) else (none)) else (none))) else (none)) else (none)) else (none)) else (none))) = some r := by first | (rw [hy216]; with_reducible exact H) | (have H2_ := (Option.bind_some _ _).symm.trans H; rw [hy216]; with_reducible exact H2_) | (have H2_ := (Option.bind_some _ _).symm.trans H; with_reducible exact H2_) | with_reducible exact H | (rw [hy216]; exact H) | exact H
 have Ny216 := Ax hy216
 clear hy216
 replace H := Option.bind_eq_some_iff.mp H
 obtain ⟨t219, A90, H⟩ := H
 replace H : (if t219 = true then (if t181 = 0 then (if (t182 == 3 && (t183 == 1)) = true then (if t184 = 0 then ((spoorref19_Same.f k t186 (([(⟨5, 9⟩ : S23)] : List (S23)))).bind fun t223 => (if t223 = true then (if t189 = 0 then ((spoorref20_Same.f k t190 (([(⟨(⟨4, 4⟩ : S23), (⟨3, 1⟩ : S35)⟩ : S52), (⟨(⟨5, 5⟩ : S23), (⟨1, 2⟩ : S35)⟩ : S52)] : List (S52)))).bind fun t227 => (if t227 = true then (if t193 = 0 then (if t200 = 0 then ((spoorref19_Same.f k t201 (([(⟨5, 9⟩ : S23)] : List (S23)))).bind fun t231 => (if t231 = true then (if t204 = 0 then (if t207 = 1 then (if t215 = 2 then ((line_Check.f k 0 9 t178).bind fun t232 => (some (t232 == 0))) else (none)) else (none)) else (none)) else (none))) else (none)) else (none)) else (none))) else (none)) else (none))) else (none)) else (none)) else (none)) else (none)) = some r := H
 have A9 := Ax A90
 clear A90
 by_cases c10 : t219 = true
 ·subst c10
  have H1 : (if t181 = 0 then (if (t182 == 3 && (t183 == 1)) = true then (if t184 = 0 then ((spoorref19_Same.f k t186 (([(⟨5, 9⟩ : S23)] : List (S23)))).bind fun t223 => (if t223 = true then (if t189 = 0 then ((spoorref20_Same.f k t190 (([(⟨(⟨4, 4⟩ : S23), (⟨3, 1⟩ : S35)⟩ : S52), (⟨(⟨5, 5⟩ : S23), (⟨1, 2⟩ : S35)⟩ : S52)] : List (S52)))).bind fun t227 => (if t227 = true then (if t193 = 0 then (if t200 = 0 then ((spoorref19_Same.f k t201 (([(⟨5, 9⟩ : S23)] : List (S23)))).bind fun t231 => (if t231 = true then (if t204 = 0 then (if t207 = 1 then (if t215 = 2 then ((line_Check.f k 0 9 t178).bind fun t232 => (some (t232 == 0))) else (none)) else (none)) else (none)) else (none))) else (none)) else (none)) else (none))) else (none)) else (none))) else (none)) else (none)) else (none)) = some r := by rw [if_pos rfl] at H; exact H
  clear H
  have H := H1
  clear H1
  by_cases c11 : t181 = 0
  ·rw [if_pos c11] at H
   have c11b0 : (t181 == 0) = true := beq_iff_eq.mpr c11
   have c11b1 : (t181 != 0) = false := bne_eq_false_iff_eq.mpr c11
   clear c11
   by_cases c12 : (t182 == 3 && (t183 == 1)) = true
   ·rw [if_pos c12] at H
    have c12b0 : (t182 == 3 && (t183 == 1)) = true := c12
    (try (have c12b1 : decide (t182 = 3 && (t183 == 1)) = true := by simpa using c12))
    (try (have c12b2 : (t182 == 3 && (t183 == 1)) = true := by simpa using c12))
    clear c12
    by_cases c13 : t184 = 0
    ·rw [if_pos c13] at H
     have c13b0 : (t184 == 0) = true := beq_iff_eq.mpr c13
     have c13b1 : (t184 != 0) = false := bne_eq_false_iff_eq.mpr c13
     clear c13
     obtain ⟨y220, hy220⟩ : ∃ y_ : List (S23), y_ = (([(⟨5, 9⟩ : S23)] : List (S23))) := ⟨_, rfl⟩
     replace H : ((spoorref19_Same.f k t186 y220).bind fun t223 => (if t223 = true then (if t189 = 0 then ((spoorref20_Same.f k t190 (([(⟨(⟨4, 4⟩ : S23), (⟨3, 1⟩ : S35)⟩ : S52), (⟨(⟨5, 5⟩ : S23), (⟨1, 2⟩ : S35)⟩ : S52)] : List (S52)))).bind fun t227 => (if t227 = true then (if t193 = 0 then (if t200 = 0 then ((spoorref19_Same.f k t201 (([(⟨5, 9⟩ : S23)] : List (S23)))).bind fun t231 => (if t231 = true then (if t204 = 0 then (if t207 = 1 then (if t215 = 2 then ((line_Check.f k 0 9 t178).bind fun t232 => (some (t232 == 0))) else (none)) else (none)) else (none)) else (none))) else (none)) else (none)) else (none))) else (none)) else (none))) = some r := by first | (rw [hy220]; with_reducible exact H) | (have H2_ := (Option.bind_some _ _).symm.trans H; rw [hy220]; with_reducible exact H2_) | (have H2_ := (Option.bind_some _ _).symm.trans H; with_reducible exact H2_) | with_reducible exact H | (rw [hy220]; exact H) | exact H
     have Ny220 := Ax hy220
     clear hy220
     replace H := Option.bind_eq_some_iff.mp H
     obtain ⟨t223, A140, H⟩ := H
     replace H : (if t223 = true then (if t189 = 0 then ((spoorref20_Same.f k t190 (([(⟨(⟨4, 4⟩ : S23), (⟨3, 1⟩ : S35)⟩ : S52), (⟨(⟨5, 5⟩ : S23), (⟨1, 2⟩ : S35)⟩ : S52)] : List (S52)))).bind fun t227 => (if t227 = true then (if t193 = 0 then (if t200 = 0 then ((spoorref19_Same.f k t201 (([(⟨5, 9⟩ : S23)] : List (S23)))).bind fun t231 => (if t231 = true then (if t204 = 0 then (if t207 = 1 then (if t215 = 2 then ((line_Check.f k 0 9 t178).bind fun t232 => (some (t232 == 0))) else (none)) else (none)) else (none)) else (none))) else (none)) else (none)) else (none))) else (none)) else (none)) = some r := H
     have A14 := Ax A140
     clear A140
     by_cases c15 : t223 = true
     ·subst c15
      have H1 : (if t189 = 0 then ((spoorref20_Same.f k t190 (([(⟨(⟨4, 4⟩ : S23), (⟨3, 1⟩ : S35)⟩ : S52), (⟨(⟨5, 5⟩ : S23), (⟨1, 2⟩ : S35)⟩ : S52)] : List (S52)))).bind fun t227 => (if t227 = true then (if t193 = 0 then (if t200 = 0 then ((spoorref19_Same.f k t201 (([(⟨5, 9⟩ : S23)] : List (S23)))).bind fun t231 => (if t231 = true then (if t204 = 0 then (if t207 = 1 then (if t215 = 2 then ((line_Check.f k 0 9 t178).bind fun t232 => (some (t232 == 0))) else (none)) else (none)) else (none)) else (none))) else (none)) else (none)) else (none))) else (none)) = some r := by rw [if_pos rfl] at H; exact H
      clear H
      have H := H1
      clear H1
      by_cases c16 : t189 = 0
      ·rw [if_pos c16] at H
       have c16b0 : (t189 == 0) = true := beq_iff_eq.mpr c16
       have c16b1 : (t189 != 0) = false := bne_eq_false_iff_eq.mpr c16
       clear c16
       obtain ⟨y224, hy224⟩ : ∃ y_ : List (S52), y_ = (([(⟨(⟨4, 4⟩ : S23), (⟨3, 1⟩ : S35)⟩ : S52), (⟨(⟨5, 5⟩ : S23), (⟨1, 2⟩ : S35)⟩ : S52)] : List (S52))) := ⟨_, rfl⟩
       replace H : ((spoorref20_Same.f k t190 y224).bind fun t227 => (if t227 = true then (if t193 = 0 then (if t200 = 0 then ((spoorref19_Same.f k t201 (([(⟨5, 9⟩ : S23)] : List (S23)))).bind fun t231 => (if t231 = true then (if t204 = 0 then (if t207 = 1 then (if t215 = 2 then ((line_Check.f k 0 9 t178).bind fun t232 => (some (t232 == 0))) else (none)) else (none)) else (none)) else (none))) else (none)) else (none)) else (none))) = some r := by first | (rw [hy224]; with_reducible exact H) | (have H2_ := (Option.bind_some _ _).symm.trans H; rw [hy224]; with_reducible exact H2_) | (have H2_ := (Option.bind_some _ _).symm.trans H; with_reducible exact H2_) | with_reducible exact H | (rw [hy224]; exact H) | exact H
       have Ny224 := Ax hy224
       clear hy224
       replace H := Option.bind_eq_some_iff.mp H
       obtain ⟨t227, A170, H⟩ := H
       replace H : (if t227 = true then (if t193 = 0 then (if t200 = 0 then ((spoorref19_Same.f k t201 (([(⟨5, 9⟩ : S23)] : List (S23)))).bind fun t231 => (if t231 = true then (if t204 = 0 then (if t207 = 1 then (if t215 = 2 then ((line_Check.f k 0 9 t178).bind fun t232 => (some (t232 == 0))) else (none)) else (none)) else (none)) else (none))) else (none)) else (none)) else (none)) = some r := H
       have A17 := Ax A170
       clear A170
       by_cases c18 : t227 = true
       ·subst c18
        have H1 : (if t193 = 0 then (if t200 = 0 then ((spoorref19_Same.f k t201 (([(⟨5, 9⟩ : S23)] : List (S23)))).bind fun t231 => (if t231 = true then (if t204 = 0 then (if t207 = 1 then (if t215 = 2 then ((line_Check.f k 0 9 t178).bind fun t232 => (some (t232 == 0))) else (none)) else (none)) else (none)) else (none))) else (none)) else (none)) = some r := by rw [if_pos rfl] at H; exact H
        clear H
        have H := H1
        clear H1
        by_cases c19 : t193 = 0
        ·rw [if_pos c19] at H
         have c19b0 : (t193 == 0) = true := beq_iff_eq.mpr c19
         have c19b1 : (t193 != 0) = false := bne_eq_false_iff_eq.mpr c19
         clear c19
         by_cases c20 : t200 = 0
         ·rw [if_pos c20] at H
          have c20b0 : (t200 == 0) = true := beq_iff_eq.mpr c20
          have c20b1 : (t200 != 0) = false := bne_eq_false_iff_eq.mpr c20
          clear c20
          obtain ⟨y228, hy228⟩ : ∃ y_ : List (S23), y_ = (([(⟨5, 9⟩ : S23)] : List (S23))) := ⟨_, rfl⟩
          replace H : ((spoorref19_Same.f k t201 y228).bind fun t231 => (if t231 = true then (if t204 = 0 then (if t207 = 1 then (if t215 = 2 then ((line_Check.f k 0 9 t178).bind fun t232 => (some (t232 == 0))) else (none)) else (none)) else (none)) else (none))) = some r := by first | (rw [hy228]; with_reducible exact H) | (have H2_ := (Option.bind_some _ _).symm.trans H; rw [hy228]; with_reducible exact H2_) | (have H2_ := (Option.bind_some _ _).symm.trans H; with_reducible exact H2_) | with_reducible exact H | (rw [hy228]; exact H) | exact H
          have Ny228 := Ax hy228
          clear hy228
          replace H := Option.bind_eq_some_iff.mp H
          obtain ⟨t231, A210, H⟩ := H
          replace H : (if t231 = true then (if t204 = 0 then (if t207 = 1 then (if t215 = 2 then ((line_Check.f k 0 9 t178).bind fun t232 => (some (t232 == 0))) else (none)) else (none)) else (none)) else (none)) = some r := H
          have A21 := Ax A210
          clear A210
          by_cases c22 : t231 = true
          ·subst c22
           have H1 : (if t204 = 0 then (if t207 = 1 then (if t215 = 2 then ((line_Check.f k 0 9 t178).bind fun t232 => (some (t232 == 0))) else (none)) else (none)) else (none)) = some r := by rw [if_pos rfl] at H; exact H
           clear H
           have H := H1
           clear H1
           by_cases c23 : t204 = 0
           ·rw [if_pos c23] at H
            have c23b0 : (t204 == 0) = true := beq_iff_eq.mpr c23
            have c23b1 : (t204 != 0) = false := bne_eq_false_iff_eq.mpr c23
            clear c23
            by_cases c24 : t207 = 1
            ·rw [if_pos c24] at H
             have c24b0 : (t207 == 1) = true := beq_iff_eq.mpr c24
             have c24b1 : (t207 != 1) = false := bne_eq_false_iff_eq.mpr c24
             clear c24
             by_cases c25 : t215 = 2
             ·rw [if_pos c25] at H
              have c25b0 : (t215 == 2) = true := beq_iff_eq.mpr c25
              have c25b1 : (t215 != 2) = false := bne_eq_false_iff_eq.mpr c25
              clear c25
              replace H := Option.bind_eq_some_iff.mp H
              obtain ⟨t232, A260, H⟩ := H
              replace H : (some (t232 == 0)) = some r := H
              have A26 := Ax A260
              clear A260
              obtain rfl := Option.some.inj H
              go_enter Try.func10, Try.ntmps10
              try simp only [List.append_eq, List.cons_append, List.nil_append]
              go_wp2_with (first | ((with_reducible refine gate_dst (N := 1) rfl ?_); refine box_event ?hg (N := 1) ?hd (cs := #[.int .i64 0, .int .i64 0]) (t := 23) ?hr ?_; (case hd => rfl); (case hg => rfl); (case hr => first | (go_simp; done) | (go_simp; rfl)); intro gb172 hg w27 hbox hb; have n0_ := Bs0 HB hb; have n1_ := Ax (hbox); have n2_ := Gw0 HB hg; have n3_ := Gw0 HB hg; clear HB; have HB := n0_; have BK172 := n1_; have GW172 := n2_; have GE172 := n3_; clear n0_ n1_ n2_ n3_; clear hb hbox hg; obtain ⟨hcz28_0, hcz28_1, hfz28_0, hfz28_1⟩ := cl2 BK172) | ((with_reducible refine gate_dst (N := 2) rfl ?_); refine box_event ?hg (N := 2) ?hd (cs := #[.int .u8 0, .int .i64 0]) (t := 35) ?hr ?_; (case hd => rfl); (case hg => rfl); (case hr => first | (go_simp; done) | (go_simp; rfl)); intro gb173 hg w29 hbox hb; have n0_ := Ax (blk_below (g := gb172) (o := .cells #[.int .i64 0, .int .i64 9] 23 (0, 0)) (by (with_reducible repeat (first | refine blk_drewN ?_ _ | refine blk_drew ?_ | refine blk_alloc ?_ _)); refine blk_put (cs := #[.int .i64 0, .int .i64 0]) ?_ 1 _ rfl; (with_reducible repeat (first | refine blk_drewN ?_ _ | refine blk_drew ?_ | refine blk_alloc ?_ _)); refine blk_put (cs := #[.int .i64 0, .int .i64 0]) ?_ 0 _ rfl; (with_reducible repeat (first | refine blk_drewN ?_ _ | refine blk_drew ?_ | refine blk_alloc ?_ _)); exact BK172.out) hb); have n1_ := Bs1 HB hb GE172.out; have n2_ := Ax (hbox); have n3_ := Gw1 HB hg GE172.out; have n4_ := Gw1 HB hg GE172.out; have n5_ := Ax ((by rw [hg]; exact Nat.ne_of_lt (blk_lt (g := gb172) (o := .cells #[.int .i64 0, .int .i64 9] 23 (0, 0)) (by (with_reducible repeat (first | refine blk_drewN ?_ _ | refine blk_drew ?_ | refine blk_alloc ?_ _)); refine blk_put (cs := #[.int .i64 0, .int .i64 0]) ?_ 1 _ rfl; (with_reducible repeat (first | refine blk_drewN ?_ _ | refine blk_drew ?_ | refine blk_alloc ?_ _)); refine blk_put (cs := #[.int .i64 0, .int .i64 0]) ?_ 0 _ rfl; (with_reducible repeat (first | refine blk_drewN ?_ _ | refine blk_drew ?_ | refine blk_alloc ?_ _)); exact BK172.out)) : gb172 ≠ gb173)); have n6_ := Ax ((by rw [hg]; exact Nat.ne_of_gt (blk_lt (g := gb172) (o := .cells #[.int .i64 0, .int .i64 9] 23 (0, 0)) (by (with_reducible repeat (first | refine blk_drewN ?_ _ | refine blk_drew ?_ | refine blk_alloc ?_ _)); refine blk_put (cs := #[.int .i64 0, .int .i64 0]) ?_ 1 _ rfl; (with_reducible repeat (first | refine blk_drewN ?_ _ | refine blk_drew ?_ | refine blk_alloc ?_ _)); refine blk_put (cs := #[.int .i64 0, .int .i64 0]) ?_ 0 _ rfl; (with_reducible repeat (first | refine blk_drewN ?_ _ | refine blk_drew ?_ | refine blk_alloc ?_ _)); exact BK172.out)) : gb173 ≠ gb172)); clear BK172; clear HB; have BK172 := n0_; have HB := n1_; have BK173 := n2_; have GW173 := n3_; have GE173 := n4_; have NB172_173 := n5_; have NB173_172 := n6_; clear n0_ n1_ n2_ n3_ n4_ n5_ n6_; clear hb hbox hg) | ((with_reducible refine gate_dst (N := 3) rfl ?_); refine box_event ?hg (N := 3) ?hd (cs := #[.int .u8 0, .int .i64 0]) (t := 35) ?hr ?_; (case hd => rfl); (case hg => rfl); (case hr => first | (go_simp; done) | (go_simp; rfl)); intro gb174 hg w30 hbox hb; have n0_ := Bx0 BK172 hb; have n1_ := Bx0 BK173 hb; have n2_ := Bs2 HB hb GE172.out GE173.out; have n3_ := Ax (hbox); have n4_ := Gw2 HB hg GE172.out GE173.out; have n5_ := Gw2 HB hg GE172.out GE173.out; have n6_ := Nl0 BK172 hg; have n7_ := Nr0 BK172 hg; have n8_ := Nl0 BK173 hg; have n9_ := Nr0 BK173 hg; clear BK172; clear BK173; clear HB; have BK172 := n0_; have BK173 := n1_; have HB := n2_; have BK174 := n3_; have GW174 := n4_; have GE174 := n5_; have NB172_174 := n6_; have NB174_172 := n7_; have NB173_174 := n8_; have NB174_173 := n9_; clear n0_ n1_ n2_ n3_ n4_ n5_ n6_ n7_ n8_ n9_; clear hb hbox hg; have hnb31 := NB173_172.out; have hnc31 := NB172_173.out; have hnb32 := NB173_174.out; have hnc32 := NB174_173.out; obtain ⟨hcz33_0, hcz33_1, hfz33_0, hfz33_1⟩ := cl2 BK173; have hnb34 := NB174_172.out; have hnc34 := NB172_174.out; obtain ⟨hcz35_0, hcz35_1, hfz35_0, hfz35_1⟩ := cl2 BK174; obtain ⟨hcz36_0, hcz36_1, hfz36_0, hfz36_1⟩ := cl2 BK172) | ((with_reducible refine gate_dst (N := 31) rfl ?_); refine R_litg k46 _ 46 ?hg (N := 31) ?hd (xs := ([(⟨0, (⟨3, 1⟩ : S35)⟩ : S46), (⟨3, (⟨3, 1⟩ : S35)⟩ : S46), (⟨5, (⟨1, 2⟩ : S35)⟩ : S46)] : List (S46))) (inner := [.int .i64 0, .int .u8 3, .int .i64 1, .int .i64 3, .int .u8 3, .int .i64 1, .int .i64 5, .int .u8 1, .int .i64 2]) (ok := fun _ => True) (okp := fun _ => True) ?hr ?hp (fun _ hk => hk) trivial (Below.refl _ _) (Nat.le_refl _) (by simp) ?_; (case hd => rfl); (case hg => first | exact Or.inl rfl | exact Or.inr rfl); (case hr => first | (go_simp; done) | (go_simp; rfl)); (case hp => exact (Reps.c3 (show Kd.M k46 _ _ _ (⟨0, (⟨3, 1⟩ : S35)⟩ : S46) [.int .i64 0, .int .u8 3, .int .i64 1] from (k46_mkM _ _ _ (⟨0, (⟨3, 1⟩ : S35)⟩ : S46) )) (Reps.c3 (show Kd.M k46 _ _ _ (⟨3, (⟨3, 1⟩ : S35)⟩ : S46) [.int .i64 3, .int .u8 3, .int .i64 1] from (k46_mkM _ _ _ (⟨3, (⟨3, 1⟩ : S35)⟩ : S46) )) (Reps.c3 (show Kd.M k46 _ _ _ (⟨5, (⟨1, 2⟩ : S35)⟩ : S46) [.int .i64 5, .int .u8 1, .int .i64 2] from (k46_mkM _ _ _ (⟨5, (⟨1, 2⟩ : S35)⟩ : S46) )) (Reps.none _ _))))); intro v176 w37 ho38 hb hg_ hnew_; clear hg_ hnew_; (first | rw [← Ny175.out] at ho38 | (simp only [Int.reduceToNat] at ho38; rw [← Ny175.out] at ho38)); have n0_ := Ax (Kd.R_lower ho38 (below_size (bw3 HB.out GE172.out GE173.out GE174.out))); have n1_ := Bx4 BK172 hb NB172_174.out NB172_174.out NB172_173.out NB172_173.out; have n2_ := Ax (blk_below (g := gb173) (o := .cells #[.int .u8 3, .int .i64 1] 35 (0, 0)) (by (with_reducible repeat (first | refine blk_drewN ?_ _ | refine blk_drew ?_ | refine blk_alloc ?_ _)); refine blk_far ?_ NB173_174.out _; (with_reducible repeat (first | refine blk_drewN ?_ _ | refine blk_drew ?_ | refine blk_alloc ?_ _)); refine blk_far ?_ NB173_174.out _; (with_reducible repeat (first | refine blk_drewN ?_ _ | refine blk_drew ?_ | refine blk_alloc ?_ _)); refine blk_put (cs := #[.int .u8 3, .int .i64 0]) ?_ 1 _ rfl; (with_reducible repeat (first | refine blk_drewN ?_ _ | refine blk_drew ?_ | refine blk_alloc ?_ _)); refine blk_put (cs := #[.int .u8 0, .int .i64 0]) ?_ 0 _ rfl; (with_reducible repeat (first | refine blk_drewN ?_ _ | refine blk_drew ?_ | refine blk_alloc ?_ _)); exact BK173.out) hb); have n3_ := Ax (blk_below (g := gb174) (o := .cells #[.int .u8 1, .int .i64 2] 35 (0, 0)) (by (with_reducible repeat (first | refine blk_drewN ?_ _ | refine blk_drew ?_ | refine blk_alloc ?_ _)); refine blk_put (cs := #[.int .u8 1, .int .i64 0]) ?_ 1 _ rfl; (with_reducible repeat (first | refine blk_drewN ?_ _ | refine blk_drew ?_ | refine blk_alloc ?_ _)); refine blk_put (cs := #[.int .u8 0, .int .i64 0]) ?_ 0 _ rfl; (with_reducible repeat (first | refine blk_drewN ?_ _ | refine blk_drew ?_ | refine blk_alloc ?_ _)); refine blk_far ?_ NB174_173.out _; (with_reducible repeat (first | refine blk_drewN ?_ _ | refine blk_drew ?_ | refine blk_alloc ?_ _)); refine blk_far ?_ NB174_173.out _; (with_reducible repeat (first | refine blk_drewN ?_ _ | refine blk_drew ?_ | refine blk_alloc ?_ _)); exact BK174.out) hb); have n4_ := Bs3 HB hb GE172.out GE173.out GE174.out; clear BK172; clear BK173; clear BK174; clear HB; have HO177 := n0_; have BK172 := n1_; have BK173 := n2_; have BK174 := n3_; have HB := n4_; clear n0_ n1_ n2_ n3_ n4_; clear hb ho38; obtain ⟨Ao39, co39, eo39⟩ := Kd.R_slice HO177.out; subst eo39) | ((with_reducible refine gate_callee (f := 8) rfl ?_); refine goesL_ (some 32) rfl rfl Try.func8 (by kernel_rfl) rfl #[.agg #[.int .i64 0, .int .i64 9], .slice Ao39 y175.length co39] rfl gS ?_; (with_reducible refine (line_Make.calls k 0 9 _ _ y175 t178 t181 _ ?side1 ?side2 A1.out).mono ?_); (case side1 => repeat (first | exact (Kd.R_reads' HO177.out).2.2 | (with_reducible refine Kd.C_alloc ?_ _) | (with_reducible refine Kd.C_drewN ?_ _) | (with_reducible refine Kd.C_drew ?_))); (case side2 => exact (Kd.R_reads' HO177.out).2.1); rintro e w40 ⟨v179, rfl, ho0, hb⟩; refine ⟨_, rfl, ?_⟩; have n0_ := Ax (Kd.R_below (by (with_reducible repeat (first | apply Kd.R_alloc | apply Kd.R_drewN | apply Kd.R_drew)); exact HO177.out) hb); have n1_ := Ax (Kd.R_lower ho0 (below_size (bw3 HB.out GE172.out GE173.out GE174.out))); have n2_ := Bx0 BK172 hb; have n3_ := Bx0 BK173 hb; have n4_ := Bx0 BK174 hb; have n5_ := Bs3 HB hb GE172.out GE173.out GE174.out; clear HO177; clear BK172; clear BK173; clear BK174; clear HB; have HO177 := n0_; have HO180 := n1_; have BK172 := n2_; have BK173 := n3_; have BK174 := n4_; have HB := n5_; clear n0_ n1_ n2_ n3_ n4_ n5_; (try clear hb); (try clear ho0); obtain ⟨hcz41_0, hcz41_1, hfz41_0, hfz41_1⟩ := cl2 BK172; obtain ⟨Ao42, co42, eo42⟩ := Kd.R_slice HO180.out; subst eo42) | ((with_reducible refine gate_callee (f := 14) rfl ?_); refine goesL_ (some 38) rfl rfl Try.func14 (by kernel_rfl) rfl #[.agg #[.int .i64 0, .int .i64 9], .slice Ao42 t178.length co42, .int .i64 4] rfl gS ?_; (with_reducible refine (line_At.calls k 0 9 _ _ t178 4 t182 t183 t184 _ ?side1 ?side2 A2.out).mono ?_); (case side1 => repeat (first | exact (Kd.R_reads' HO180.out).2.2 | (with_reducible refine Kd.C_alloc ?_ _) | (with_reducible refine Kd.C_drewN ?_ _) | (with_reducible refine Kd.C_drew ?_))); (case side2 => exact (Kd.R_reads' HO180.out).2.1); rintro e w43 ⟨rfl, hb⟩; refine ⟨_, rfl, ?_⟩; have n0_ := Ax (Kd.R_below (by (with_reducible repeat (first | apply Kd.R_alloc | apply Kd.R_drewN | apply Kd.R_drew)); exact HO177.out) hb); have n1_ := Ax (Kd.R_below (by (with_reducible repeat (first | apply Kd.R_alloc | apply Kd.R_drewN | apply Kd.R_drew)); exact HO180.out) hb); have n2_ := Bx0 BK172 hb; have n3_ := Bx0 BK173 hb; have n4_ := Bx0 BK174 hb; have n5_ := Bs3 HB hb GE172.out GE173.out GE174.out; clear HO177; clear HO180; clear BK172; clear BK173; clear BK174; clear HB; have HO177 := n0_; have HO180 := n1_; have BK172 := n2_; have BK173 := n3_; have BK174 := n4_; have HB := n5_; clear n0_ n1_ n2_ n3_ n4_ n5_; (try clear hb)) | ((with_reducible refine gate_dst (N := 6) rfl ?_); refine box_event ?hg (N := 6) ?hd (cs := #[.int .u8 0, .int .i64 0]) (t := 35) ?hr ?_; (case hd => rfl); (case hg => rfl); (case hr => first | (go_simp; done) | (go_simp; rfl)); intro gb185 hg w44 hbox hb; have n0_ := Ax (Kd.R_below (by (with_reducible repeat (first | apply Kd.R_alloc | apply Kd.R_drewN | apply Kd.R_drew)); exact HO177.out) hb); have n1_ := Ax (Kd.R_below (by (with_reducible repeat (first | apply Kd.R_alloc | apply Kd.R_drewN | apply Kd.R_drew)); exact HO180.out) hb); have n2_ := Bx0 BK172 hb; have n3_ := Bx0 BK173 hb; have n4_ := Bx0 BK174 hb; have n5_ := Bs3 HB hb GE172.out GE173.out GE174.out; have n6_ := Ax (hbox); have n7_ := Gw3 HB hg GE172.out GE173.out GE174.out; have n8_ := Gw3 HB hg GE172.out GE173.out GE174.out; have n9_ := Nl0 BK172 hg; have n10_ := Nr0 BK172 hg; have n11_ := Nl0 BK173 hg; have n12_ := Nr0 BK173 hg; have n13_ := Nl0 BK174 hg; have n14_ := Nr0 BK174 hg; clear HO177; clear HO180; clear BK172; clear BK173; clear BK174; clear HB; have HO177 := n0_; have HO180 := n1_; have BK172 := n2_; have BK173 := n3_; have BK174 := n4_; have HB := n5_; have BK185 := n6_; have GW185 := n7_; have GE185 := n8_; have NB172_185 := n9_; have NB185_172 := n10_; have NB173_185 := n11_; have NB185_173 := n12_; have NB174_185 := n13_; have NB185_174 := n14_; clear n0_ n1_ n2_ n3_ n4_ n5_ n6_ n7_ n8_ n9_ n10_ n11_ n12_ n13_ n14_; clear hb hbox hg; have hnb45 := NB185_172.out; have hnc45 := NB172_185.out; have hnb46 := NB185_173.out; have hnc46 := NB173_185.out; have hnb47 := NB185_174.out; have hnc47 := NB174_185.out; obtain ⟨hcz48_0, hcz48_1, hfz48_0, hfz48_1⟩ := cl2 BK185; obtain ⟨hcz49_0, hcz49_1, hfz49_0, hfz49_1⟩ := cl2 BK172; obtain ⟨hcz50_0, hcz50_1, hfz50_0, hfz50_1⟩ := cl2 BK174) | ((with_reducible refine gate_callee (f := 16) rfl ?_); refine goesL_ (some 45) rfl rfl Try.func16 (by kernel_rfl) rfl #[.agg #[.int .i64 0, .int .i64 9], .slice Ao42 t178.length co42, .agg #[.int .u8 1, .int .i64 2]] rfl gS ?_; (with_reducible refine (line_When.calls k 0 9 _ _ t178 1 2 t186 t189 _ ?side1 ?side2 A3.out).mono ?_); (case side1 => refine (Kd.R_reads' (e := 52) (base := w.heap.size) (ok := fun k_ => True) (n := t178.length) (c := co42) ?_).2.2; exact (by (with_reducible repeat (first | apply Kd.R_alloc | apply Kd.R_drewN | apply Kd.R_drew)); exact (Kd.R_mono (Kd.R_far (p := ⟨gb185, 1, none⟩) (Kd.R_far (p := ⟨gb185, 0, none⟩) (Kd.R_types HO180.out BK185.out (by decide)) (fun _ hk => hk.2) (.int .u8 t182)) (fun _ hk => hk.2) (.int .i64 t183)) (fun _ h_ => h_.1)))); (case side2 => exact (Kd.R_reads' HO180.out).2.1); rintro e w51 ⟨v187, rfl, ho0, hb⟩; refine ⟨_, rfl, ?_⟩; have n0_ := Ax (Kd.R_below (by (with_reducible repeat (first | apply Kd.R_alloc | apply Kd.R_drewN | apply Kd.R_drew)); exact (Kd.R_mono (Kd.R_far (p := ⟨gb185, 1, none⟩) (Kd.R_far (p := ⟨gb185, 0, none⟩) (Kd.R_types HO177.out BK185.out (by decide)) (fun _ hk => hk.2) (.int .u8 t182)) (fun _ hk => hk.2) (.int .i64 t183)) (fun _ h_ => h_.1))) hb); have n1_ := Ax (Kd.R_below (by (with_reducible repeat (first | apply Kd.R_alloc | apply Kd.R_drewN | apply Kd.R_drew)); exact (Kd.R_mono (Kd.R_far (p := ⟨gb185, 1, none⟩) (Kd.R_far (p := ⟨gb185, 0, none⟩) (Kd.R_types HO180.out BK185.out (by decide)) (fun _ hk => hk.2) (.int .u8 t182)) (fun _ hk => hk.2) (.int .i64 t183)) (fun _ h_ => h_.1))) hb); have n2_ := Ax (Kd.R_lower (Kd.R_newB ho0 (g := gb172) (o := .cells #[.int .i64 0, .int .i64 9] 23 (0, 0)) (bf2 BK172.out NB172_185.out NB172_185.out)) (below_size (bw4 HB.out GE172.out GE173.out GE174.out GE185.out))); have n3_ := Bx2 BK172 hb NB172_185.out NB172_185.out; have n4_ := Bx2 BK173 hb NB173_185.out NB173_185.out; have n5_ := Bx2 BK174 hb NB174_185.out NB174_185.out; have n6_ := Ax (blk_below (g := gb185) (o := .cells #[.int .u8 t182, .int .i64 t183] 35 (0, 0)) (by (with_reducible repeat (first | refine blk_drewN ?_ _ | refine blk_drew ?_ | refine blk_alloc ?_ _)); refine blk_put (cs := #[.int .u8 t182, .int .i64 0]) ?_ 1 _ rfl; (with_reducible repeat (first | refine blk_drewN ?_ _ | refine blk_drew ?_ | refine blk_alloc ?_ _)); refine blk_put (cs := #[.int .u8 0, .int .i64 0]) ?_ 0 _ rfl; (with_reducible repeat (first | refine blk_drewN ?_ _ | refine blk_drew ?_ | refine blk_alloc ?_ _)); exact BK185.out) hb); have n7_ := Bs4 HB hb GE172.out GE173.out GE174.out GE185.out; clear HO177; clear HO180; clear BK172; clear BK173; clear BK174; clear BK185; clear HB; have HO177 := n0_; have HO180 := n1_; have HO188 := n2_; have BK172 := n3_; have BK173 := n4_; have BK174 := n5_; have BK185 := n6_; have HB := n7_; clear n0_ n1_ n2_ n3_ n4_ n5_ n6_ n7_; (try clear hb); (try clear ho0); obtain ⟨hcz52_0, hcz52_1, hfz52_0, hfz52_1⟩ := cl2 BK172) | ((with_reducible refine gate_callee (f := 18) rfl ?_); refine goesL_ (some 52) rfl rfl Try.func18 (by kernel_rfl) rfl #[.agg #[.int .i64 0, .int .i64 9], .slice Ao42 t178.length co42, .agg #[.int .i64 4, .int .i64 5]] rfl gS ?_; (with_reducible refine (line_Cut.calls k 0 9 _ _ t178 4 5 t190 t193 _ ?side1 ?side2 A4.out).mono ?_); (case side1 => repeat (first | exact (Kd.R_reads' HO180.out).2.2 | (with_reducible refine Kd.C_alloc ?_ _) | (with_reducible refine Kd.C_drewN ?_ _) | (with_reducible refine Kd.C_drew ?_))); (case side2 => exact (Kd.R_reads' HO180.out).2.1); rintro e w53 ⟨v191, rfl, ho0, hb⟩; refine ⟨_, rfl, ?_⟩; have n0_ := Ax (Kd.R_below (by (with_reducible repeat (first | apply Kd.R_alloc | apply Kd.R_drewN | apply Kd.R_drew)); exact HO177.out) hb); have n1_ := Ax (Kd.R_elder' (by (with_reducible repeat (first | apply Kd.R_alloc | apply Kd.R_drewN | apply Kd.R_drew)); exact HO180.out) (Kd.R_base ho0) hb); have n2_ := Ax (Kd.R_below (by (with_reducible repeat (first | apply Kd.R_alloc | apply Kd.R_drewN | apply Kd.R_drew)); exact HO188.out) hb); have n3_ := Ax (Kd.R_lower (Kd.R_new' ho0 (Kd.R_lt (by (with_reducible repeat (first | apply Kd.R_alloc | apply Kd.R_drewN | apply Kd.R_drew)); exact HO180.out))) (below_size (bw4 HB.out GE172.out GE173.out GE174.out GE185.out))); have n4_ := Bx0 BK172 hb; have n5_ := Bx0 BK173 hb; have n6_ := Bx0 BK174 hb; have n7_ := Bx0 BK185 hb; have n8_ := Bs4 HB hb GE172.out GE173.out GE174.out GE185.out; clear HO177; clear HO180; clear HO188; clear BK172; clear BK173; clear BK174; clear BK185; clear HB; have HO177 := n0_; have HO180 := n1_; have HO188 := n2_; have HO192 := n3_; have BK172 := n4_; have BK173 := n5_; have BK174 := n6_; have BK185 := n7_; have HB := n8_; clear n0_ n1_ n2_ n3_ n4_ n5_ n6_ n7_ n8_; (try clear hb); (try clear ho0); obtain ⟨hcz54_0, hcz54_1, hfz54_0, hfz54_1⟩ := cl2 BK172; obtain ⟨hcz55_0, hcz55_1, hfz55_0, hfz55_1⟩ := cl2 BK173) | ((with_reducible refine gate_dst (N := 59) rfl ?_); refine R_litg k46 _ 46 ?hg (N := 59) ?hd (xs := ([(⟨0, (⟨3, 1⟩ : S35)⟩ : S46)] : List (S46))) (inner := [.int .i64 0, .int .u8 3, .int .i64 1]) (ok := fun _ => True) (okp := fun _ => True) ?hr ?hp (fun _ hk => hk) trivial (Below.refl _ _) (Nat.le_refl _) (by simp) ?_; (case hd => rfl); (case hg => first | exact Or.inl rfl | exact Or.inr rfl); (case hr => first | (go_simp; done) | (go_simp; rfl)); (case hp => exact (Reps.c3 (show Kd.M k46 _ _ _ (⟨0, (⟨3, 1⟩ : S35)⟩ : S46) [.int .i64 0, .int .u8 3, .int .i64 1] from (k46_mkM _ _ _ (⟨0, (⟨3, 1⟩ : S35)⟩ : S46) )) (Reps.none _ _))); intro v195 w56 ho57 hb hg_ hnew_; clear hg_ hnew_; (first | rw [← Ny194.out] at ho57 | (simp only [Int.reduceToNat] at ho57; rw [← Ny194.out] at ho57)); have n0_ := Ax (Kd.R_elder' (by (with_reducible repeat (first | apply Kd.R_alloc | apply Kd.R_drewN | apply Kd.R_drew)); exact HO177.out) (Kd.R_base ho57) hb); have n1_ := Ax (Kd.R_below (by (with_reducible repeat (first | apply Kd.R_alloc | apply Kd.R_drewN | apply Kd.R_drew)); exact HO180.out) hb); have n2_ := Ax (Kd.R_below (by (with_reducible repeat (first | apply Kd.R_alloc | apply Kd.R_drewN | apply Kd.R_drew)); exact HO188.out) hb); have n3_ := Ax (Kd.R_below (by (with_reducible repeat (first | apply Kd.R_alloc | apply Kd.R_drewN | apply Kd.R_drew)); exact HO192.out) hb); have n4_ := Ax (Kd.R_lower (Kd.R_new' ho57 (Kd.R_lt (by (with_reducible repeat (first | apply Kd.R_alloc | apply Kd.R_drewN | apply Kd.R_drew)); exact HO177.out))) (below_size (bw4 HB.out GE172.out GE173.out GE174.out GE185.out))); have n5_ := Bx0 BK172 hb; have n6_ := Bx0 BK173 hb; have n7_ := Bx0 BK174 hb; have n8_ := Bx0 BK185 hb; have n9_ := Bs4 HB hb GE172.out GE173.out GE174.out GE185.out; clear HO177; clear HO180; clear HO188; clear HO192; clear BK172; clear BK173; clear BK174; clear BK185; clear HB; have HO177 := n0_; have HO180 := n1_; have HO188 := n2_; have HO192 := n3_; have HO196 := n4_; have BK172 := n5_; have BK173 := n6_; have BK174 := n7_; have BK185 := n8_; have HB := n9_; clear n0_ n1_ n2_ n3_ n4_ n5_ n6_ n7_ n8_ n9_; clear hb ho57; obtain ⟨Ao58, co58, eo58⟩ := Kd.R_slice HO196.out; subst eo58) | ((with_reducible refine gate_callee (f := 8) rfl ?_); refine goesL_ (some 60) rfl rfl Try.func8 (by kernel_rfl) rfl #[.agg #[.int .i64 0, .int .i64 9], .slice Ao58 y194.length co58] rfl gS ?_; (with_reducible refine (line_Make.calls k 0 9 _ _ y194 t197 t200 _ ?side1 ?side2 A5.out).mono ?_); (case side1 => repeat (first | exact (Kd.R_reads' HO196.out).2.2 | (with_reducible refine Kd.C_alloc ?_ _) | (with_reducible refine Kd.C_drewN ?_ _) | (with_reducible refine Kd.C_drew ?_))); (case side2 => exact (Kd.R_reads' HO196.out).2.1); rintro e w59 ⟨v198, rfl, ho0, hb⟩; refine ⟨_, rfl, ?_⟩; have n0_ := Ax (Kd.R_below (by (with_reducible repeat (first | apply Kd.R_alloc | apply Kd.R_drewN | apply Kd.R_drew)); exact HO177.out) hb); have n1_ := Ax (Kd.R_elder' (by (with_reducible repeat (first | apply Kd.R_alloc | apply Kd.R_drewN | apply Kd.R_drew)); exact HO180.out) (Kd.R_base ho0) hb); have n2_ := Ax (Kd.R_below (by (with_reducible repeat (first | apply Kd.R_alloc | apply Kd.R_drewN | apply Kd.R_drew)); exact HO188.out) hb); have n3_ := Ax (Kd.R_elder' (by (with_reducible repeat (first | apply Kd.R_alloc | apply Kd.R_drewN | apply Kd.R_drew)); exact HO192.out) (Kd.R_base ho0) hb); have n4_ := Ax (Kd.R_below (by (with_reducible repeat (first | apply Kd.R_alloc | apply Kd.R_drewN | apply Kd.R_drew)); exact HO196.out) hb); have n5_ := Ax (Kd.R_lower (Kd.R_new' (Kd.R_new' ho0 (Kd.R_lt (by (with_reducible repeat (first | apply Kd.R_alloc | apply Kd.R_drewN | apply Kd.R_drew)); exact HO180.out))) (Kd.R_lt (by (with_reducible repeat (first | apply Kd.R_alloc | apply Kd.R_drewN | apply Kd.R_drew)); exact HO192.out))) (below_size (bw4 HB.out GE172.out GE173.out GE174.out GE185.out))); have n6_ := Bx0 BK172 hb; have n7_ := Bx0 BK173 hb; have n8_ := Bx0 BK174 hb; have n9_ := Bx0 BK185 hb; have n10_ := Bs4 HB hb GE172.out GE173.out GE174.out GE185.out; clear HO177; clear HO180; clear HO188; clear HO192; clear HO196; clear BK172; clear BK173; clear BK174; clear BK185; clear HB; have HO177 := n0_; have HO180 := n1_; have HO188 := n2_; have HO192 := n3_; have HO196 := n4_; have HO199 := n5_; have BK172 := n6_; have BK173 := n7_; have BK174 := n8_; have BK185 := n9_; have HB := n10_; clear n0_ n1_ n2_ n3_ n4_ n5_ n6_ n7_ n8_ n9_ n10_; (try clear hb); (try clear ho0); obtain ⟨hcz60_0, hcz60_1, hfz60_0, hfz60_1⟩ := cl2 BK172; obtain ⟨Ao61, co61, eo61⟩ := Kd.R_slice HO199.out; subst eo61) | ((with_reducible refine gate_callee (f := 20) rfl ?_); refine goesL_ (some 67) rfl rfl Try.func20 (by kernel_rfl) rfl #[.agg #[.int .i64 0, .int .i64 9], .slice Ao42 t178.length co42, .slice Ao61 t197.length co61] rfl gS ?_; (with_reducible refine (line_Differ.calls k 0 9 _ _ t178 _ _ t197 t201 t204 _ ?side1 ?side2 ?side3 ?side4 A6.out).mono ?_); (case side1 => repeat (first | exact (Kd.R_reads' HO180.out).2.2 | (with_reducible refine Kd.C_alloc ?_ _) | (with_reducible refine Kd.C_drewN ?_ _) | (with_reducible refine Kd.C_drew ?_))); (case side2 => exact (Kd.R_reads' HO180.out).2.1); (case side3 => repeat (first | exact (Kd.R_reads' HO199.out).2.2 | (with_reducible refine Kd.C_alloc ?_ _) | (with_reducible refine Kd.C_drewN ?_ _) | (with_reducible refine Kd.C_drew ?_))); (case side4 => exact (Kd.R_reads' HO199.out).2.1); rintro e w62 ⟨v202, rfl, ho0, hb⟩; refine ⟨_, rfl, ?_⟩; have n0_ := Ax (Kd.R_below (by (with_reducible repeat (first | apply Kd.R_alloc | apply Kd.R_drewN | apply Kd.R_drew)); exact HO177.out) hb); have n1_ := Ax (Kd.R_below (by (with_reducible repeat (first | apply Kd.R_alloc | apply Kd.R_drewN | apply Kd.R_drew)); exact HO180.out) hb); have n2_ := Ax (Kd.R_elder' (by (with_reducible repeat (first | apply Kd.R_alloc | apply Kd.R_drewN | apply Kd.R_drew)); exact HO188.out) (Kd.R_base ho0) hb); have n3_ := Ax (Kd.R_below (by (with_reducible repeat (first | apply Kd.R_alloc | apply Kd.R_drewN | apply Kd.R_drew)); exact HO192.out) hb); have n4_ := Ax (Kd.R_below (by (with_reducible repeat (first | apply Kd.R_alloc | apply Kd.R_drewN | apply Kd.R_drew)); exact HO196.out) hb); have n5_ := Ax (Kd.R_below (by (with_reducible repeat (first | apply Kd.R_alloc | apply Kd.R_drewN | apply Kd.R_drew)); exact HO199.out) hb); have n6_ := Ax (Kd.R_lower (Kd.R_newB (Kd.R_new' ho0 (Kd.R_lt (by (with_reducible repeat (first | apply Kd.R_alloc | apply Kd.R_drewN | apply Kd.R_drew)); exact HO188.out))) (g := gb172) (o := .cells #[.int .i64 0, .int .i64 9] 23 (0, 0)) (bf0 BK172.out)) (below_size (bw4 HB.out GE172.out GE173.out GE174.out GE185.out))); have n7_ := Bx0 BK172 hb; have n8_ := Bx0 BK173 hb; have n9_ := Bx0 BK174 hb; have n10_ := Bx0 BK185 hb; have n11_ := Bs4 HB hb GE172.out GE173.out GE174.out GE185.out; clear HO177; clear HO180; clear HO188; clear HO192; clear HO196; clear HO199; clear BK172; clear BK173; clear BK174; clear BK185; clear HB; have HO177 := n0_; have HO180 := n1_; have HO188 := n2_; have HO192 := n3_; have HO196 := n4_; have HO199 := n5_; have HO203 := n6_; have BK172 := n7_; have BK173 := n8_; have BK174 := n9_; have BK185 := n10_; have HB := n11_; clear n0_ n1_ n2_ n3_ n4_ n5_ n6_ n7_ n8_ n9_ n10_ n11_; (try clear hb); (try clear ho0); obtain ⟨hcz63_0, hcz63_1, hfz63_0, hfz63_1⟩ := cl2 BK172) | ((with_reducible refine gate_callee (f := 14) rfl ?_); refine goesL_ (some 73) rfl rfl Try.func14 (by kernel_rfl) rfl #[.agg #[.int .i64 0, .int .i64 9], .slice Ao42 t178.length co42, .int .i64 10] rfl gS ?_; (with_reducible refine (line_At.calls k 0 9 _ _ t178 10 t205 t206 t207 _ ?side1 ?side2 A7.out).mono ?_); (case side1 => repeat (first | exact (Kd.R_reads' HO180.out).2.2 | (with_reducible refine Kd.C_alloc ?_ _) | (with_reducible refine Kd.C_drewN ?_ _) | (with_reducible refine Kd.C_drew ?_))); (case side2 => exact (Kd.R_reads' HO180.out).2.1); rintro e w64 ⟨rfl, hb⟩; refine ⟨_, rfl, ?_⟩; have n0_ := Ax (Kd.R_below (by (with_reducible repeat (first | apply Kd.R_alloc | apply Kd.R_drewN | apply Kd.R_drew)); exact HO177.out) hb); have n1_ := Ax (Kd.R_below (by (with_reducible repeat (first | apply Kd.R_alloc | apply Kd.R_drewN | apply Kd.R_drew)); exact HO180.out) hb); have n2_ := Ax (Kd.R_below (by (with_reducible repeat (first | apply Kd.R_alloc | apply Kd.R_drewN | apply Kd.R_drew)); exact HO188.out) hb); have n3_ := Ax (Kd.R_below (by (with_reducible repeat (first | apply Kd.R_alloc | apply Kd.R_drewN | apply Kd.R_drew)); exact HO192.out) hb); have n4_ := Ax (Kd.R_below (by (with_reducible repeat (first | apply Kd.R_alloc | apply Kd.R_drewN | apply Kd.R_drew)); exact HO196.out) hb); have n5_ := Ax (Kd.R_below (by (with_reducible repeat (first | apply Kd.R_alloc | apply Kd.R_drewN | apply Kd.R_drew)); exact HO199.out) hb); have n6_ := Ax (Kd.R_below (by (with_reducible repeat (first | apply Kd.R_alloc | apply Kd.R_drewN | apply Kd.R_drew)); exact HO203.out) hb); have n7_ := Bx0 BK172 hb; have n8_ := Bx0 BK173 hb; have n9_ := Bx0 BK174 hb; have n10_ := Bx0 BK185 hb; have n11_ := Bs4 HB hb GE172.out GE173.out GE174.out GE185.out; clear HO177; clear HO180; clear HO188; clear HO192; clear HO196; clear HO199; clear HO203; clear BK172; clear BK173; clear BK174; clear BK185; clear HB; have HO177 := n0_; have HO180 := n1_; have HO188 := n2_; have HO192 := n3_; have HO196 := n4_; have HO199 := n5_; have HO203 := n6_; have BK172 := n7_; have BK173 := n8_; have BK174 := n9_; have BK185 := n10_; have HB := n11_; clear n0_ n1_ n2_ n3_ n4_ n5_ n6_ n7_ n8_ n9_ n10_ n11_; (try clear hb)) | ((with_reducible refine gate_dst (N := 16) rfl ?_); refine box_event ?hg (N := 16) ?hd (cs := #[.int .u8 0, .int .i64 0]) (t := 35) ?hr ?_; (case hd => rfl); (case hg => rfl); (case hr => first | (go_simp; done) | (go_simp; rfl)); intro gb208 hg w65 hbox hb; have n0_ := Ax (Kd.R_below (by (with_reducible repeat (first | apply Kd.R_alloc | apply Kd.R_drewN | apply Kd.R_drew)); exact HO177.out) hb); have n1_ := Ax (Kd.R_below (by (with_reducible repeat (first | apply Kd.R_alloc | apply Kd.R_drewN | apply Kd.R_drew)); exact HO180.out) hb); have n2_ := Ax (Kd.R_below (by (with_reducible repeat (first | apply Kd.R_alloc | apply Kd.R_drewN | apply Kd.R_drew)); exact HO188.out) hb); have n3_ := Ax (Kd.R_below (by (with_reducible repeat (first | apply Kd.R_alloc | apply Kd.R_drewN | apply Kd.R_drew)); exact HO192.out) hb); have n4_ := Ax (Kd.R_below (by (with_reducible repeat (first | apply Kd.R_alloc | apply Kd.R_drewN | apply Kd.R_drew)); exact HO196.out) hb); have n5_ := Ax (Kd.R_below (by (with_reducible repeat (first | apply Kd.R_alloc | apply Kd.R_drewN | apply Kd.R_drew)); exact HO199.out) hb); have n6_ := Ax (Kd.R_below (by (with_reducible repeat (first | apply Kd.R_alloc | apply Kd.R_drewN | apply Kd.R_drew)); exact HO203.out) hb); have n7_ := Bx0 BK172 hb; have n8_ := Bx0 BK173 hb; have n9_ := Bx0 BK174 hb; have n10_ := Bx0 BK185 hb; have n11_ := Bs4 HB hb GE172.out GE173.out GE174.out GE185.out; have n12_ := Ax (hbox); have n13_ := Gw4 HB hg GE172.out GE173.out GE174.out GE185.out; have n14_ := Gw4 HB hg GE172.out GE173.out GE174.out GE185.out; have n15_ := Nl0 BK172 hg; have n16_ := Nr0 BK172 hg; have n17_ := Nl0 BK173 hg; have n18_ := Nr0 BK173 hg; have n19_ := Nl0 BK174 hg; have n20_ := Nr0 BK174 hg; have n21_ := Nl0 BK185 hg; have n22_ := Nr0 BK185 hg; clear HO177; clear HO180; clear HO188; clear HO192; clear HO196; clear HO199; clear HO203; clear BK172; clear BK173; clear BK174; clear BK185; clear HB; have HO177 := n0_; have HO180 := n1_; have HO188 := n2_; have HO192 := n3_; have HO196 := n4_; have HO199 := n5_; have HO203 := n6_; have BK172 := n7_; have BK173 := n8_; have BK174 := n9_; have BK185 := n10_; have HB := n11_; have BK208 := n12_; have GW208 := n13_; have GE208 := n14_; have NB172_208 := n15_; have NB208_172 := n16_; have NB173_208 := n17_; have NB208_173 := n18_; have NB174_208 := n19_; have NB208_174 := n20_; have NB185_208 := n21_; have NB208_185 := n22_; clear n0_ n1_ n2_ n3_ n4_ n5_ n6_ n7_ n8_ n9_ n10_ n11_ n12_ n13_ n14_ n15_ n16_ n17_ n18_ n19_ n20_ n21_ n22_; clear hb hbox hg; have hnb66 := NB208_172.out; have hnc66 := NB172_208.out; have hnb67 := NB208_173.out; have hnc67 := NB173_208.out; have hnb68 := NB208_174.out; have hnc68 := NB174_208.out; have hnb69 := NB208_185.out; have hnc69 := NB185_208.out; obtain ⟨hcz70_0, hcz70_1, hfz70_0, hfz70_1⟩ := cl2 BK208; obtain ⟨hcz71_0, hcz71_1, hfz71_0, hfz71_1⟩ := cl2 BK172; obtain ⟨hcz72_0, hcz72_1, hfz72_0, hfz72_1⟩ := cl2 BK173) | ((with_reducible refine gate_dst (N := 80) rfl ?_); refine R_litg k46 _ 46 ?hg (N := 80) ?hd (xs := ([(⟨1, (⟨3, 1⟩ : S35)⟩ : S46)] : List (S46))) (inner := [.int .i64 1, .int .u8 3, .int .i64 1]) (ok := fun _ => True) (okp := fun _ => True) ?hr ?hp (fun _ hk => hk) trivial (Below.refl _ _) (Nat.le_refl _) (by simp) ?_; (case hd => rfl); (case hg => first | exact Or.inl rfl | exact Or.inr rfl); (case hr => first | (go_simp; done) | (go_simp; rfl)); (case hp => exact (Reps.c3 (show Kd.M k46 _ _ _ (⟨1, (⟨3, 1⟩ : S35)⟩ : S46) [.int .i64 1, .int .u8 3, .int .i64 1] from (k46_mkM _ _ _ (⟨1, (⟨3, 1⟩ : S35)⟩ : S46) )) (Reps.none _ _))); intro v210 w73 ho74 hb hg_ hnew_; clear hg_ hnew_; (first | rw [← Ny209.out] at ho74 | (simp only [Int.reduceToNat] at ho74; rw [← Ny209.out] at ho74)); have n0_ := Ax (Kd.R_elder' (by (with_reducible repeat (first | apply Kd.R_alloc | apply Kd.R_drewN | apply Kd.R_drew)); exact (Kd.R_mono (Kd.R_far (p := ⟨gb208, 1, none⟩) (Kd.R_far (p := ⟨gb208, 0, none⟩) (Kd.R_types HO177.out BK208.out (by decide)) (fun _ hk => hk.2) (.int .u8 t205)) (fun _ hk => hk.2) (.int .i64 t206)) (fun _ h_ => h_.1))) (Kd.R_base ho74) hb); have n1_ := Ax (Kd.R_below (by (with_reducible repeat (first | apply Kd.R_alloc | apply Kd.R_drewN | apply Kd.R_drew)); exact (Kd.R_mono (Kd.R_far (p := ⟨gb208, 1, none⟩) (Kd.R_far (p := ⟨gb208, 0, none⟩) (Kd.R_types HO180.out BK208.out (by decide)) (fun _ hk => hk.2) (.int .u8 t205)) (fun _ hk => hk.2) (.int .i64 t206)) (fun _ h_ => h_.1))) hb); have n2_ := Ax (Kd.R_below (by (with_reducible repeat (first | apply Kd.R_alloc | apply Kd.R_drewN | apply Kd.R_drew)); exact (Kd.R_mono (Kd.R_far (p := ⟨gb208, 1, none⟩) (Kd.R_far (p := ⟨gb208, 0, none⟩) (Kd.R_types HO188.out BK208.out (by decide)) (fun _ hk => hk.2) (.int .u8 t205)) (fun _ hk => hk.2) (.int .i64 t206)) (fun _ h_ => h_.1))) hb); have n3_ := Ax (Kd.R_below (by (with_reducible repeat (first | apply Kd.R_alloc | apply Kd.R_drewN | apply Kd.R_drew)); exact (Kd.R_mono (Kd.R_far (p := ⟨gb208, 1, none⟩) (Kd.R_far (p := ⟨gb208, 0, none⟩) (Kd.R_types HO192.out BK208.out (by decide)) (fun _ hk => hk.2) (.int .u8 t205)) (fun _ hk => hk.2) (.int .i64 t206)) (fun _ h_ => h_.1))) hb); have n4_ := Ax (Kd.R_elder' (by (with_reducible repeat (first | apply Kd.R_alloc | apply Kd.R_drewN | apply Kd.R_drew)); exact (Kd.R_mono (Kd.R_far (p := ⟨gb208, 1, none⟩) (Kd.R_far (p := ⟨gb208, 0, none⟩) (Kd.R_types HO196.out BK208.out (by decide)) (fun _ hk => hk.2) (.int .u8 t205)) (fun _ hk => hk.2) (.int .i64 t206)) (fun _ h_ => h_.1))) (Kd.R_base ho74) hb); have n5_ := Ax (Kd.R_below (by (with_reducible repeat (first | apply Kd.R_alloc | apply Kd.R_drewN | apply Kd.R_drew)); exact (Kd.R_mono (Kd.R_far (p := ⟨gb208, 1, none⟩) (Kd.R_far (p := ⟨gb208, 0, none⟩) (Kd.R_types HO199.out BK208.out (by decide)) (fun _ hk => hk.2) (.int .u8 t205)) (fun _ hk => hk.2) (.int .i64 t206)) (fun _ h_ => h_.1))) hb); have n6_ := Ax (Kd.R_below (by (with_reducible repeat (first | apply Kd.R_alloc | apply Kd.R_drewN | apply Kd.R_drew)); exact (Kd.R_mono (Kd.R_far (p := ⟨gb208, 1, none⟩) (Kd.R_far (p := ⟨gb208, 0, none⟩) (Kd.R_types HO203.out BK208.out (by decide)) (fun _ hk => hk.2) (.int .u8 t205)) (fun _ hk => hk.2) (.int .i64 t206)) (fun _ h_ => h_.1))) hb); have n7_ := Ax (Kd.R_lower (Kd.R_new' (Kd.R_new' ho74 (Kd.R_lt (by (with_reducible repeat (first | apply Kd.R_alloc | apply Kd.R_drewN | apply Kd.R_drew)); exact (Kd.R_mono (Kd.R_far (p := ⟨gb208, 1, none⟩) (Kd.R_far (p := ⟨gb208, 0, none⟩) (Kd.R_types HO177.out BK208.out (by decide)) (fun _ hk => hk.2) (.int .u8 t205)) (fun _ hk => hk.2) (.int .i64 t206)) (fun _ h_ => h_.1))))) (Kd.R_lt (by (with_reducible repeat (first | apply Kd.R_alloc | apply Kd.R_drewN | apply Kd.R_drew)); exact (Kd.R_mono (Kd.R_far (p := ⟨gb208, 1, none⟩) (Kd.R_far (p := ⟨gb208, 0, none⟩) (Kd.R_types HO196.out BK208.out (by decide)) (fun _ hk => hk.2) (.int .u8 t205)) (fun _ hk => hk.2) (.int .i64 t206)) (fun _ h_ => h_.1))))) (below_size (bw5 HB.out GE172.out GE173.out GE174.out GE185.out GE208.out))); have n8_ := Bx2 BK172 hb NB172_208.out NB172_208.out; have n9_ := Bx2 BK173 hb NB173_208.out NB173_208.out; have n10_ := Bx2 BK174 hb NB174_208.out NB174_208.out; have n11_ := Bx2 BK185 hb NB185_208.out NB185_208.out; have n12_ := Ax (blk_below (g := gb208) (o := .cells #[.int .u8 t205, .int .i64 t206] 35 (0, 0)) (by (with_reducible repeat (first | refine blk_drewN ?_ _ | refine blk_drew ?_ | refine blk_alloc ?_ _)); refine blk_put (cs := #[.int .u8 t205, .int .i64 0]) ?_ 1 _ rfl; (with_reducible repeat (first | refine blk_drewN ?_ _ | refine blk_drew ?_ | refine blk_alloc ?_ _)); refine blk_put (cs := #[.int .u8 0, .int .i64 0]) ?_ 0 _ rfl; (with_reducible repeat (first | refine blk_drewN ?_ _ | refine blk_drew ?_ | refine blk_alloc ?_ _)); exact BK208.out) hb); have n13_ := Bs5 HB hb GE172.out GE173.out GE174.out GE185.out GE208.out; clear HO177; clear HO180; clear HO188; clear HO192; clear HO196; clear HO199; clear HO203; clear BK172; clear BK173; clear BK174; clear BK185; clear BK208; clear HB; have HO177 := n0_; have HO180 := n1_; have HO188 := n2_; have HO192 := n3_; have HO196 := n4_; have HO199 := n5_; have HO203 := n6_; have HO211 := n7_; have BK172 := n8_; have BK173 := n9_; have BK174 := n10_; have BK185 := n11_; have BK208 := n12_; have HB := n13_; clear n0_ n1_ n2_ n3_ n4_ n5_ n6_ n7_ n8_ n9_ n10_ n11_ n12_ n13_; clear hb ho74; obtain ⟨Ao75, co75, eo75⟩ := Kd.R_slice HO211.out; subst eo75) | ((with_reducible refine gate_callee (f := 8) rfl ?_); refine goesL_ (some 81) rfl rfl Try.func8 (by kernel_rfl) rfl #[.agg #[.int .i64 0, .int .i64 9], .slice Ao75 y209.length co75] rfl gS ?_; (with_reducible refine (line_Make.calls k 0 9 _ _ y209 t212 t215 _ ?side1 ?side2 A8.out).mono ?_); (case side1 => repeat (first | exact (Kd.R_reads' HO211.out).2.2 | (with_reducible refine Kd.C_alloc ?_ _) | (with_reducible refine Kd.C_drewN ?_ _) | (with_reducible refine Kd.C_drew ?_))); (case side2 => exact (Kd.R_reads' HO211.out).2.1); rintro e w76 ⟨v213, rfl, ho0, hb⟩; refine ⟨_, rfl, ?_⟩; have n0_ := Ax (Kd.R_below (by (with_reducible repeat (first | apply Kd.R_alloc | apply Kd.R_drewN | apply Kd.R_drew)); exact HO177.out) hb); have n1_ := Ax (Kd.R_elder' (by (with_reducible repeat (first | apply Kd.R_alloc | apply Kd.R_drewN | apply Kd.R_drew)); exact HO180.out) (Kd.R_base ho0) hb); have n2_ := Ax (Kd.R_below (by (with_reducible repeat (first | apply Kd.R_alloc | apply Kd.R_drewN | apply Kd.R_drew)); exact HO188.out) hb); have n3_ := Ax (Kd.R_elder' (by (with_reducible repeat (first | apply Kd.R_alloc | apply Kd.R_drewN | apply Kd.R_drew)); exact HO192.out) (Kd.R_base ho0) hb); have n4_ := Ax (Kd.R_below (by (with_reducible repeat (first | apply Kd.R_alloc | apply Kd.R_drewN | apply Kd.R_drew)); exact HO196.out) hb); have n5_ := Ax (Kd.R_elder' (by (with_reducible repeat (first | apply Kd.R_alloc | apply Kd.R_drewN | apply Kd.R_drew)); exact HO199.out) (Kd.R_base ho0) hb); have n6_ := Ax (Kd.R_below (by (with_reducible repeat (first | apply Kd.R_alloc | apply Kd.R_drewN | apply Kd.R_drew)); exact HO203.out) hb); have n7_ := Ax (Kd.R_below (by (with_reducible repeat (first | apply Kd.R_alloc | apply Kd.R_drewN | apply Kd.R_drew)); exact HO211.out) hb); have n8_ := Ax (Kd.R_lower (Kd.R_new' (Kd.R_new' (Kd.R_new' ho0 (Kd.R_lt (by (with_reducible repeat (first | apply Kd.R_alloc | apply Kd.R_drewN | apply Kd.R_drew)); exact HO180.out))) (Kd.R_lt (by (with_reducible repeat (first | apply Kd.R_alloc | apply Kd.R_drewN | apply Kd.R_drew)); exact HO192.out))) (Kd.R_lt (by (with_reducible repeat (first | apply Kd.R_alloc | apply Kd.R_drewN | apply Kd.R_drew)); exact HO199.out))) (below_size (bw5 HB.out GE172.out GE173.out GE174.out GE185.out GE208.out))); have n9_ := Bx0 BK172 hb; have n10_ := Bx0 BK173 hb; have n11_ := Bx0 BK174 hb; have n12_ := Bx0 BK185 hb; have n13_ := Bx0 BK208 hb; have n14_ := Bs5 HB hb GE172.out GE173.out GE174.out GE185.out GE208.out; clear HO177; clear HO180; clear HO188; clear HO192; clear HO196; clear HO199; clear HO203; clear HO211; clear BK172; clear BK173; clear BK174; clear BK185; clear BK208; clear HB; have HO177 := n0_; have HO180 := n1_; have HO188 := n2_; have HO192 := n3_; have HO196 := n4_; have HO199 := n5_; have HO203 := n6_; have HO211 := n7_; have HO214 := n8_; have BK172 := n9_; have BK173 := n10_; have BK174 := n11_; have BK185 := n12_; have BK208 := n13_; have HB := n14_; clear n0_ n1_ n2_ n3_ n4_ n5_ n6_ n7_ n8_ n9_ n10_ n11_ n12_ n13_ n14_; (try clear hb); (try clear ho0); obtain ⟨hcz77_0, hcz77_1, hfz77_0, hfz77_1⟩ := cl2 BK173; obtain ⟨hcz78_0, hcz78_1, hfz78_0, hfz78_1⟩ := cl2 BK174) | ((with_reducible refine gate_dst (N := 91) rfl ?_); refine R_litg k52 _ 52 ?hg (N := 91) ?hd (xs := ([(⟨(⟨0, 4⟩ : S23), (⟨3, 1⟩ : S35)⟩ : S52), (⟨(⟨5, 9⟩ : S23), (⟨1, 2⟩ : S35)⟩ : S52)] : List (S52))) (inner := [.int .i64 0, .int .i64 4, .int .u8 3, .int .i64 1, .int .i64 5, .int .i64 9, .int .u8 1, .int .i64 2]) (ok := fun _ => True) (okp := fun _ => True) ?hr ?hp (fun _ hk => hk) trivial (Below.refl _ _) (Nat.le_refl _) (by simp) ?_; (case hd => rfl); (case hg => first | exact Or.inl rfl | exact Or.inr rfl); (case hr => first | (go_simp; done) | (go_simp; rfl)); (case hp => exact (Reps.c4 (show Kd.M k52 _ _ _ (⟨(⟨0, 4⟩ : S23), (⟨3, 1⟩ : S35)⟩ : S52) [.int .i64 0, .int .i64 4, .int .u8 3, .int .i64 1] from (k52_mkM _ _ _ (⟨(⟨0, 4⟩ : S23), (⟨3, 1⟩ : S35)⟩ : S52) )) (Reps.c4 (show Kd.M k52 _ _ _ (⟨(⟨5, 9⟩ : S23), (⟨1, 2⟩ : S35)⟩ : S52) [.int .i64 5, .int .i64 9, .int .u8 1, .int .i64 2] from (k52_mkM _ _ _ (⟨(⟨5, 9⟩ : S23), (⟨1, 2⟩ : S35)⟩ : S52) )) (Reps.none _ _)))); intro v217 w79 ho80 hb hg_ hnew_; clear hg_ hnew_; (first | rw [← Ny216.out] at ho80 | (simp only [Int.reduceToNat] at ho80; rw [← Ny216.out] at ho80)); have n0_ := Ax (Kd.R_below (by (with_reducible repeat (first | apply Kd.R_alloc | apply Kd.R_drewN | apply Kd.R_drew)); exact HO177.out) hb); have n1_ := Ax (Kd.R_elder' (by (with_reducible repeat (first | apply Kd.R_alloc | apply Kd.R_drewN | apply Kd.R_drew)); exact HO180.out) (Kd.R_base ho80) hb); have n2_ := Ax (Kd.R_below (by (with_reducible repeat (first | apply Kd.R_alloc | apply Kd.R_drewN | apply Kd.R_drew)); exact HO188.out) hb); have n3_ := Ax (Kd.R_elder' (by (with_reducible repeat (first | apply Kd.R_alloc | apply Kd.R_drewN | apply Kd.R_drew)); exact HO192.out) (Kd.R_base ho80) hb); have n4_ := Ax (Kd.R_below (by (with_reducible repeat (first | apply Kd.R_alloc | apply Kd.R_drewN | apply Kd.R_drew)); exact HO196.out) hb); have n5_ := Ax (Kd.R_elder' (by (with_reducible repeat (first | apply Kd.R_alloc | apply Kd.R_drewN | apply Kd.R_drew)); exact HO199.out) (Kd.R_base ho80) hb); have n6_ := Ax (Kd.R_below (by (with_reducible repeat (first | apply Kd.R_alloc | apply Kd.R_drewN | apply Kd.R_drew)); exact HO203.out) hb); have n7_ := Ax (Kd.R_below (by (with_reducible repeat (first | apply Kd.R_alloc | apply Kd.R_drewN | apply Kd.R_drew)); exact HO211.out) hb); have n8_ := Ax (Kd.R_elder' (by (with_reducible repeat (first | apply Kd.R_alloc | apply Kd.R_drewN | apply Kd.R_drew)); exact HO214.out) (Kd.R_base ho80) hb); have n9_ := Ax (Kd.R_lower (Kd.R_new' (Kd.R_new' (Kd.R_new' (Kd.R_new' ho80 (Kd.R_lt (by (with_reducible repeat (first | apply Kd.R_alloc | apply Kd.R_drewN | apply Kd.R_drew)); exact HO180.out))) (Kd.R_lt (by (with_reducible repeat (first | apply Kd.R_alloc | apply Kd.R_drewN | apply Kd.R_drew)); exact HO192.out))) (Kd.R_lt (by (with_reducible repeat (first | apply Kd.R_alloc | apply Kd.R_drewN | apply Kd.R_drew)); exact HO199.out))) (Kd.R_lt (by (with_reducible repeat (first | apply Kd.R_alloc | apply Kd.R_drewN | apply Kd.R_drew)); exact HO214.out))) (below_size (bw5 HB.out GE172.out GE173.out GE174.out GE185.out GE208.out))); have n10_ := Bx0 BK172 hb; have n11_ := Bx0 BK173 hb; have n12_ := Bx0 BK174 hb; have n13_ := Bx0 BK185 hb; have n14_ := Bx0 BK208 hb; have n15_ := Bs5 HB hb GE172.out GE173.out GE174.out GE185.out GE208.out; clear HO177; clear HO180; clear HO188; clear HO192; clear HO196; clear HO199; clear HO203; clear HO211; clear HO214; clear BK172; clear BK173; clear BK174; clear BK185; clear BK208; clear HB; have HO177 := n0_; have HO180 := n1_; have HO188 := n2_; have HO192 := n3_; have HO196 := n4_; have HO199 := n5_; have HO203 := n6_; have HO211 := n7_; have HO214 := n8_; have HO218 := n9_; have BK172 := n10_; have BK173 := n11_; have BK174 := n12_; have BK185 := n13_; have BK208 := n14_; have HB := n15_; clear n0_ n1_ n2_ n3_ n4_ n5_ n6_ n7_ n8_ n9_ n10_ n11_ n12_ n13_ n14_ n15_; clear hb ho80; obtain ⟨Ao81, co81, eo81⟩ := Kd.R_slice HO218.out; subst eo81) | ((with_reducible refine gate_callee (f := 11) rfl ?_); refine goesL_ (some 92) rfl rfl Try.func11 (by kernel_rfl) rfl #[.slice Ao42 t178.length co42, .slice Ao81 y216.length co81] rfl gS ?_; (with_reducible refine (spoorref20_Same.calls k _ _ t178 _ _ y216 true _ ?side1 ?side2 ?side3 ?side4 A9.out).mono ?_); (case side1 => repeat (first | exact (Kd.R_reads' HO180.out).2.2 | (with_reducible refine Kd.C_alloc ?_ _) | (with_reducible refine Kd.C_drewN ?_ _) | (with_reducible refine Kd.C_drew ?_))); (case side2 => exact (Kd.R_reads' HO180.out).2.1); (case side3 => repeat (first | exact (Kd.R_reads' HO218.out).2.2 | (with_reducible refine Kd.C_alloc ?_ _) | (with_reducible refine Kd.C_drewN ?_ _) | (with_reducible refine Kd.C_drew ?_))); (case side4 => exact (Kd.R_reads' HO218.out).2.1); rintro e w' ⟨rfl, ⟨nd, rfl⟩⟩; refine ⟨_, rfl, ?_⟩; obtain ⟨hcz82_0, hcz82_1, hfz82_0, hfz82_1⟩ := cl2 BK185; obtain ⟨hcz83_0, hcz83_1, hfz83_0, hfz83_1⟩ := cl2 BK173) | ((with_reducible refine gate_dst (N := 109) rfl ?_); refine R_litg k23 _ 23 ?hg (N := 109) ?hd (xs := ([(⟨5, 9⟩ : S23)] : List (S23))) (inner := [.int .i64 5, .int .i64 9]) (ok := fun _ => True) (okp := fun _ => True) ?hr ?hp (fun _ hk => hk) trivial (Below.refl _ _) (Nat.le_refl _) (by simp) ?_; (case hd => rfl); (case hg => first | exact Or.inl rfl | exact Or.inr rfl); (case hr => first | (go_simp; done) | (go_simp; rfl)); (case hp => exact (Reps.c2 (show Kd.M k23 _ _ _ (⟨5, 9⟩ : S23) [.int .i64 5, .int .i64 9] from (k23_mkM _ _ _ (⟨5, 9⟩ : S23) )) (Reps.none _ _))); intro v221 w84 ho85 hb hg_ hnew_; clear hg_ hnew_; (first | rw [← Ny220.out] at ho85 | (simp only [Int.reduceToNat] at ho85; rw [← Ny220.out] at ho85)); have n0_ := Ax (Kd.R_below (by (with_reducible repeat (first | apply Kd.R_alloc | apply Kd.R_drewN | apply Kd.R_drew)); exact HO177.out) hb); have n1_ := Ax (Kd.R_below (by (with_reducible repeat (first | apply Kd.R_alloc | apply Kd.R_drewN | apply Kd.R_drew)); exact HO180.out) hb); have n2_ := Ax (Kd.R_elder' (by (with_reducible repeat (first | apply Kd.R_alloc | apply Kd.R_drewN | apply Kd.R_drew)); exact HO188.out) (Kd.R_base ho85) hb); have n3_ := Ax (Kd.R_below (by (with_reducible repeat (first | apply Kd.R_alloc | apply Kd.R_drewN | apply Kd.R_drew)); exact HO192.out) hb); have n4_ := Ax (Kd.R_below (by (with_reducible repeat (first | apply Kd.R_alloc | apply Kd.R_drewN | apply Kd.R_drew)); exact HO196.out) hb); have n5_ := Ax (Kd.R_below (by (with_reducible repeat (first | apply Kd.R_alloc | apply Kd.R_drewN | apply Kd.R_drew)); exact HO199.out) hb); have n6_ := Ax (Kd.R_elder' (by (with_reducible repeat (first | apply Kd.R_alloc | apply Kd.R_drewN | apply Kd.R_drew)); exact HO203.out) (Kd.R_base ho85) hb); have n7_ := Ax (Kd.R_below (by (with_reducible repeat (first | apply Kd.R_alloc | apply Kd.R_drewN | apply Kd.R_drew)); exact HO211.out) hb); have n8_ := Ax (Kd.R_below (by (with_reducible repeat (first | apply Kd.R_alloc | apply Kd.R_drewN | apply Kd.R_drew)); exact HO214.out) hb); have n9_ := Ax (Kd.R_below (by (with_reducible repeat (first | apply Kd.R_alloc | apply Kd.R_drewN | apply Kd.R_drew)); exact HO218.out) hb); have n10_ := Ax (Kd.R_lower (Kd.R_newB (Kd.R_new' (Kd.R_new' ho85 (Kd.R_lt (by (with_reducible repeat (first | apply Kd.R_alloc | apply Kd.R_drewN | apply Kd.R_drew)); exact HO188.out))) (Kd.R_lt (by (with_reducible repeat (first | apply Kd.R_alloc | apply Kd.R_drewN | apply Kd.R_drew)); exact HO203.out))) (g := gb172) (o := .cells #[.int .i64 0, .int .i64 9] 23 (0, 0)) (bf0 BK172.out)) (below_size (bw5 HB.out GE172.out GE173.out GE174.out GE185.out GE208.out))); have n11_ := Bx0 BK172 hb; have n12_ := Bx0 BK173 hb; have n13_ := Bx0 BK174 hb; have n14_ := Bx0 BK185 hb; have n15_ := Bx0 BK208 hb; have n16_ := Bs5 HB hb GE172.out GE173.out GE174.out GE185.out GE208.out; clear HO177; clear HO180; clear HO188; clear HO192; clear HO196; clear HO199; clear HO203; clear HO211; clear HO214; clear HO218; clear BK172; clear BK173; clear BK174; clear BK185; clear BK208; clear HB; have HO177 := n0_; have HO180 := n1_; have HO188 := n2_; have HO192 := n3_; have HO196 := n4_; have HO199 := n5_; have HO203 := n6_; have HO211 := n7_; have HO214 := n8_; have HO218 := n9_; have HO222 := n10_; have BK172 := n11_; have BK173 := n12_; have BK174 := n13_; have BK185 := n14_; have BK208 := n15_; have HB := n16_; clear n0_ n1_ n2_ n3_ n4_ n5_ n6_ n7_ n8_ n9_ n10_ n11_ n12_ n13_ n14_ n15_ n16_; clear hb ho85; obtain ⟨Ao86, co86, eo86⟩ := Kd.R_slice HO188.out; subst eo86; obtain ⟨Ao87, co87, eo87⟩ := Kd.R_slice HO222.out; subst eo87) | (go_at_call 22; (with_reducible refine (spoorref19_Same.calls k _ _ t186 _ _ y220 true _ ?side1 ?side2 ?side3 ?side4 A14.out).mono ?_); (case side1 => repeat (first | exact (Kd.R_reads' HO188.out).2.2 | (with_reducible refine Kd.C_alloc ?_ _) | (with_reducible refine Kd.C_drewN ?_ _) | (with_reducible refine Kd.C_drew ?_))); (case side2 => exact (Kd.R_reads' HO188.out).2.1); (case side3 => repeat (first | exact (Kd.R_reads' HO222.out).2.2 | (with_reducible refine Kd.C_alloc ?_ _) | (with_reducible refine Kd.C_drewN ?_ _) | (with_reducible refine Kd.C_drew ?_))); (case side4 => exact (Kd.R_reads' HO222.out).2.1); rintro e w' ⟨rfl, ⟨nd, rfl⟩⟩; obtain ⟨hcz88_0, hcz88_1, hfz88_0, hfz88_1⟩ := cl2 BK173; obtain ⟨hcz89_0, hcz89_1, hfz89_0, hfz89_1⟩ := cl2 BK174) | ((with_reducible refine gate_dst (N := 124) rfl ?_); refine R_litg k52 _ 52 ?hg (N := 124) ?hd (xs := ([(⟨(⟨4, 4⟩ : S23), (⟨3, 1⟩ : S35)⟩ : S52), (⟨(⟨5, 5⟩ : S23), (⟨1, 2⟩ : S35)⟩ : S52)] : List (S52))) (inner := [.int .i64 4, .int .i64 4, .int .u8 3, .int .i64 1, .int .i64 5, .int .i64 5, .int .u8 1, .int .i64 2]) (ok := fun _ => True) (okp := fun _ => True) ?hr ?hp (fun _ hk => hk) trivial (Below.refl _ _) (Nat.le_refl _) (by simp) ?_; (case hd => rfl); (case hg => first | exact Or.inl rfl | exact Or.inr rfl); (case hr => first | (go_simp; done) | (go_simp; rfl)); (case hp => exact (Reps.c4 (show Kd.M k52 _ _ _ (⟨(⟨4, 4⟩ : S23), (⟨3, 1⟩ : S35)⟩ : S52) [.int .i64 4, .int .i64 4, .int .u8 3, .int .i64 1] from (k52_mkM _ _ _ (⟨(⟨4, 4⟩ : S23), (⟨3, 1⟩ : S35)⟩ : S52) )) (Reps.c4 (show Kd.M k52 _ _ _ (⟨(⟨5, 5⟩ : S23), (⟨1, 2⟩ : S35)⟩ : S52) [.int .i64 5, .int .i64 5, .int .u8 1, .int .i64 2] from (k52_mkM _ _ _ (⟨(⟨5, 5⟩ : S23), (⟨1, 2⟩ : S35)⟩ : S52) )) (Reps.none _ _)))); intro v225 w90 ho91 hb hg_ hnew_; clear hg_ hnew_; (first | rw [← Ny224.out] at ho91 | (simp only [Int.reduceToNat] at ho91; rw [← Ny224.out] at ho91)); have n0_ := Ax (Kd.R_below (by (with_reducible repeat (first | apply Kd.R_alloc | apply Kd.R_drewN | apply Kd.R_drew)); exact HO177.out) hb); have n1_ := Ax (Kd.R_elder' (by (with_reducible repeat (first | apply Kd.R_alloc | apply Kd.R_drewN | apply Kd.R_drew)); exact HO180.out) (Kd.R_base ho91) hb); have n2_ := Ax (Kd.R_below (by (with_reducible repeat (first | apply Kd.R_alloc | apply Kd.R_drewN | apply Kd.R_drew)); exact HO188.out) hb); have n3_ := Ax (Kd.R_elder' (by (with_reducible repeat (first | apply Kd.R_alloc | apply Kd.R_drewN | apply Kd.R_drew)); exact HO192.out) (Kd.R_base ho91) hb); have n4_ := Ax (Kd.R_below (by (with_reducible repeat (first | apply Kd.R_alloc | apply Kd.R_drewN | apply Kd.R_drew)); exact HO196.out) hb); have n5_ := Ax (Kd.R_elder' (by (with_reducible repeat (first | apply Kd.R_alloc | apply Kd.R_drewN | apply Kd.R_drew)); exact HO199.out) (Kd.R_base ho91) hb); have n6_ := Ax (Kd.R_below (by (with_reducible repeat (first | apply Kd.R_alloc | apply Kd.R_drewN | apply Kd.R_drew)); exact HO203.out) hb); have n7_ := Ax (Kd.R_below (by (with_reducible repeat (first | apply Kd.R_alloc | apply Kd.R_drewN | apply Kd.R_drew)); exact HO211.out) hb); have n8_ := Ax (Kd.R_elder' (by (with_reducible repeat (first | apply Kd.R_alloc | apply Kd.R_drewN | apply Kd.R_drew)); exact HO214.out) (Kd.R_base ho91) hb); have n9_ := Ax (Kd.R_elder' (by (with_reducible repeat (first | apply Kd.R_alloc | apply Kd.R_drewN | apply Kd.R_drew)); exact HO218.out) (Kd.R_base ho91) hb); have n10_ := Ax (Kd.R_below (by (with_reducible repeat (first | apply Kd.R_alloc | apply Kd.R_drewN | apply Kd.R_drew)); exact HO222.out) hb); have n11_ := Ax (Kd.R_lower (Kd.R_new' (Kd.R_new' (Kd.R_new' (Kd.R_new' (Kd.R_new' ho91 (Kd.R_lt (by (with_reducible repeat (first | apply Kd.R_alloc | apply Kd.R_drewN | apply Kd.R_drew)); exact HO180.out))) (Kd.R_lt (by (with_reducible repeat (first | apply Kd.R_alloc | apply Kd.R_drewN | apply Kd.R_drew)); exact HO192.out))) (Kd.R_lt (by (with_reducible repeat (first | apply Kd.R_alloc | apply Kd.R_drewN | apply Kd.R_drew)); exact HO199.out))) (Kd.R_lt (by (with_reducible repeat (first | apply Kd.R_alloc | apply Kd.R_drewN | apply Kd.R_drew)); exact HO214.out))) (Kd.R_lt (by (with_reducible repeat (first | apply Kd.R_alloc | apply Kd.R_drewN | apply Kd.R_drew)); exact HO218.out))) (below_size (bw5 HB.out GE172.out GE173.out GE174.out GE185.out GE208.out))); have n12_ := Bx0 BK172 hb; have n13_ := Bx0 BK173 hb; have n14_ := Bx0 BK174 hb; have n15_ := Bx0 BK185 hb; have n16_ := Bx0 BK208 hb; have n17_ := Bs5 HB hb GE172.out GE173.out GE174.out GE185.out GE208.out; clear HO177; clear HO180; clear HO188; clear HO192; clear HO196; clear HO199; clear HO203; clear HO211; clear HO214; clear HO218; clear HO222; clear BK172; clear BK173; clear BK174; clear BK185; clear BK208; clear HB; have HO177 := n0_; have HO180 := n1_; have HO188 := n2_; have HO192 := n3_; have HO196 := n4_; have HO199 := n5_; have HO203 := n6_; have HO211 := n7_; have HO214 := n8_; have HO218 := n9_; have HO222 := n10_; have HO226 := n11_; have BK172 := n12_; have BK173 := n13_; have BK174 := n14_; have BK185 := n15_; have BK208 := n16_; have HB := n17_; clear n0_ n1_ n2_ n3_ n4_ n5_ n6_ n7_ n8_ n9_ n10_ n11_ n12_ n13_ n14_ n15_ n16_ n17_; clear hb ho91; obtain ⟨Ao92, co92, eo92⟩ := Kd.R_slice HO192.out; subst eo92; obtain ⟨Ao93, co93, eo93⟩ := Kd.R_slice HO226.out; subst eo93) | (go_at_call 11; (with_reducible refine (spoorref20_Same.calls k _ _ t190 _ _ y224 true _ ?side1 ?side2 ?side3 ?side4 A17.out).mono ?_); (case side1 => repeat (first | exact (Kd.R_reads' HO192.out).2.2 | (with_reducible refine Kd.C_alloc ?_ _) | (with_reducible refine Kd.C_drewN ?_ _) | (with_reducible refine Kd.C_drew ?_))); (case side2 => exact (Kd.R_reads' HO192.out).2.1); (case side3 => repeat (first | exact (Kd.R_reads' HO226.out).2.2 | (with_reducible refine Kd.C_alloc ?_ _) | (with_reducible refine Kd.C_drewN ?_ _) | (with_reducible refine Kd.C_drew ?_))); (case side4 => exact (Kd.R_reads' HO226.out).2.1); rintro e w' ⟨rfl, ⟨nd, rfl⟩⟩) | ((with_reducible refine gate_dst (N := 138) rfl ?_); refine R_litg k23 _ 23 ?hg (N := 138) ?hd (xs := ([(⟨5, 9⟩ : S23)] : List (S23))) (inner := [.int .i64 5, .int .i64 9]) (ok := fun _ => True) (okp := fun _ => True) ?hr ?hp (fun _ hk => hk) trivial (Below.refl _ _) (Nat.le_refl _) (by simp) ?_; (case hd => rfl); (case hg => first | exact Or.inl rfl | exact Or.inr rfl); (case hr => first | (go_simp; done) | (go_simp; rfl)); (case hp => exact (Reps.c2 (show Kd.M k23 _ _ _ (⟨5, 9⟩ : S23) [.int .i64 5, .int .i64 9] from (k23_mkM _ _ _ (⟨5, 9⟩ : S23) )) (Reps.none _ _))); intro v229 w94 ho95 hb hg_ hnew_; clear hg_ hnew_; (first | rw [← Ny228.out] at ho95 | (simp only [Int.reduceToNat] at ho95; rw [← Ny228.out] at ho95)); have n0_ := Ax (Kd.R_below (by (with_reducible repeat (first | apply Kd.R_alloc | apply Kd.R_drewN | apply Kd.R_drew)); exact HO177.out) hb); have n1_ := Ax (Kd.R_below (by (with_reducible repeat (first | apply Kd.R_alloc | apply Kd.R_drewN | apply Kd.R_drew)); exact HO180.out) hb); have n2_ := Ax (Kd.R_elder' (by (with_reducible repeat (first | apply Kd.R_alloc | apply Kd.R_drewN | apply Kd.R_drew)); exact HO188.out) (Kd.R_base ho95) hb); have n3_ := Ax (Kd.R_below (by (with_reducible repeat (first | apply Kd.R_alloc | apply Kd.R_drewN | apply Kd.R_drew)); exact HO192.out) hb); have n4_ := Ax (Kd.R_below (by (with_reducible repeat (first | apply Kd.R_alloc | apply Kd.R_drewN | apply Kd.R_drew)); exact HO196.out) hb); have n5_ := Ax (Kd.R_below (by (with_reducible repeat (first | apply Kd.R_alloc | apply Kd.R_drewN | apply Kd.R_drew)); exact HO199.out) hb); have n6_ := Ax (Kd.R_elder' (by (with_reducible repeat (first | apply Kd.R_alloc | apply Kd.R_drewN | apply Kd.R_drew)); exact HO203.out) (Kd.R_base ho95) hb); have n7_ := Ax (Kd.R_below (by (with_reducible repeat (first | apply Kd.R_alloc | apply Kd.R_drewN | apply Kd.R_drew)); exact HO211.out) hb); have n8_ := Ax (Kd.R_below (by (with_reducible repeat (first | apply Kd.R_alloc | apply Kd.R_drewN | apply Kd.R_drew)); exact HO214.out) hb); have n9_ := Ax (Kd.R_below (by (with_reducible repeat (first | apply Kd.R_alloc | apply Kd.R_drewN | apply Kd.R_drew)); exact HO218.out) hb); have n10_ := Ax (Kd.R_elder' (by (with_reducible repeat (first | apply Kd.R_alloc | apply Kd.R_drewN | apply Kd.R_drew)); exact HO222.out) (Kd.R_base ho95) hb); have n11_ := Ax (Kd.R_below (by (with_reducible repeat (first | apply Kd.R_alloc | apply Kd.R_drewN | apply Kd.R_drew)); exact HO226.out) hb); have n12_ := Ax (Kd.R_lower (Kd.R_newB (Kd.R_new' (Kd.R_new' (Kd.R_new' ho95 (Kd.R_lt (by (with_reducible repeat (first | apply Kd.R_alloc | apply Kd.R_drewN | apply Kd.R_drew)); exact HO188.out))) (Kd.R_lt (by (with_reducible repeat (first | apply Kd.R_alloc | apply Kd.R_drewN | apply Kd.R_drew)); exact HO203.out))) (Kd.R_lt (by (with_reducible repeat (first | apply Kd.R_alloc | apply Kd.R_drewN | apply Kd.R_drew)); exact HO222.out))) (g := gb172) (o := .cells #[.int .i64 0, .int .i64 9] 23 (0, 0)) (bf0 BK172.out)) (below_size (bw5 HB.out GE172.out GE173.out GE174.out GE185.out GE208.out))); have n13_ := Bx0 BK172 hb; have n14_ := Bx0 BK173 hb; have n15_ := Bx0 BK174 hb; have n16_ := Bx0 BK185 hb; have n17_ := Bx0 BK208 hb; have n18_ := Bs5 HB hb GE172.out GE173.out GE174.out GE185.out GE208.out; clear HO177; clear HO180; clear HO188; clear HO192; clear HO196; clear HO199; clear HO203; clear HO211; clear HO214; clear HO218; clear HO222; clear HO226; clear BK172; clear BK173; clear BK174; clear BK185; clear BK208; clear HB; have HO177 := n0_; have HO180 := n1_; have HO188 := n2_; have HO192 := n3_; have HO196 := n4_; have HO199 := n5_; have HO203 := n6_; have HO211 := n7_; have HO214 := n8_; have HO218 := n9_; have HO222 := n10_; have HO226 := n11_; have HO230 := n12_; have BK172 := n13_; have BK173 := n14_; have BK174 := n15_; have BK185 := n16_; have BK208 := n17_; have HB := n18_; clear n0_ n1_ n2_ n3_ n4_ n5_ n6_ n7_ n8_ n9_ n10_ n11_ n12_ n13_ n14_ n15_ n16_ n17_ n18_; clear hb ho95; obtain ⟨Ao96, co96, eo96⟩ := Kd.R_slice HO203.out; subst eo96; obtain ⟨Ao97, co97, eo97⟩ := Kd.R_slice HO230.out; subst eo97) | (go_at_call 22; (with_reducible refine (spoorref19_Same.calls k _ _ t201 _ _ y228 true _ ?side1 ?side2 ?side3 ?side4 A21.out).mono ?_); (case side1 => repeat (first | exact (Kd.R_reads' HO203.out).2.2 | (with_reducible refine Kd.C_alloc ?_ _) | (with_reducible refine Kd.C_drewN ?_ _) | (with_reducible refine Kd.C_drew ?_))); (case side2 => exact (Kd.R_reads' HO203.out).2.1); (case side3 => repeat (first | exact (Kd.R_reads' HO230.out).2.2 | (with_reducible refine Kd.C_alloc ?_ _) | (with_reducible refine Kd.C_drewN ?_ _) | (with_reducible refine Kd.C_drew ?_))); (case side4 => exact (Kd.R_reads' HO230.out).2.1); rintro e w' ⟨rfl, ⟨nd, rfl⟩⟩; obtain ⟨hcz98_0, hcz98_1, hfz98_0, hfz98_1⟩ := cl2 BK172) | (go_at_call 12; (with_reducible refine (line_Check.calls k 0 9 _ _ t178 t232 _ ?side1 ?side2 A26.out).mono ?_); (case side1 => repeat (first | exact (Kd.R_reads' HO180.out).2.2 | (with_reducible refine Kd.C_alloc ?_ _) | (with_reducible refine Kd.C_drewN ?_ _) | (with_reducible refine Kd.C_drew ?_))); (case side2 => exact (Kd.R_reads' HO180.out).2.1); rintro e w99 ⟨rfl, hb⟩; have n0_ := Ax (Kd.R_below (by (with_reducible repeat (first | apply Kd.R_alloc | apply Kd.R_drewN | apply Kd.R_drew)); exact HO177.out) hb); have n1_ := Ax (Kd.R_below (by (with_reducible repeat (first | apply Kd.R_alloc | apply Kd.R_drewN | apply Kd.R_drew)); exact HO180.out) hb); have n2_ := Ax (Kd.R_below (by (with_reducible repeat (first | apply Kd.R_alloc | apply Kd.R_drewN | apply Kd.R_drew)); exact HO188.out) hb); have n3_ := Ax (Kd.R_below (by (with_reducible repeat (first | apply Kd.R_alloc | apply Kd.R_drewN | apply Kd.R_drew)); exact HO192.out) hb); have n4_ := Ax (Kd.R_below (by (with_reducible repeat (first | apply Kd.R_alloc | apply Kd.R_drewN | apply Kd.R_drew)); exact HO196.out) hb); have n5_ := Ax (Kd.R_below (by (with_reducible repeat (first | apply Kd.R_alloc | apply Kd.R_drewN | apply Kd.R_drew)); exact HO199.out) hb); have n6_ := Ax (Kd.R_below (by (with_reducible repeat (first | apply Kd.R_alloc | apply Kd.R_drewN | apply Kd.R_drew)); exact HO203.out) hb); have n7_ := Ax (Kd.R_below (by (with_reducible repeat (first | apply Kd.R_alloc | apply Kd.R_drewN | apply Kd.R_drew)); exact HO211.out) hb); have n8_ := Ax (Kd.R_below (by (with_reducible repeat (first | apply Kd.R_alloc | apply Kd.R_drewN | apply Kd.R_drew)); exact HO214.out) hb); have n9_ := Ax (Kd.R_below (by (with_reducible repeat (first | apply Kd.R_alloc | apply Kd.R_drewN | apply Kd.R_drew)); exact HO218.out) hb); have n10_ := Ax (Kd.R_below (by (with_reducible repeat (first | apply Kd.R_alloc | apply Kd.R_drewN | apply Kd.R_drew)); exact HO222.out) hb); have n11_ := Ax (Kd.R_below (by (with_reducible repeat (first | apply Kd.R_alloc | apply Kd.R_drewN | apply Kd.R_drew)); exact HO226.out) hb); have n12_ := Ax (Kd.R_below (by (with_reducible repeat (first | apply Kd.R_alloc | apply Kd.R_drewN | apply Kd.R_drew)); exact HO230.out) hb); have n13_ := Bx0 BK172 hb; have n14_ := Bx0 BK173 hb; have n15_ := Bx0 BK174 hb; have n16_ := Bx0 BK185 hb; have n17_ := Bx0 BK208 hb; have n18_ := Bs5 HB hb GE172.out GE173.out GE174.out GE185.out GE208.out; clear HO177; clear HO180; clear HO188; clear HO192; clear HO196; clear HO199; clear HO203; clear HO211; clear HO214; clear HO218; clear HO222; clear HO226; clear HO230; clear BK172; clear BK173; clear BK174; clear BK185; clear BK208; clear HB; have HO177 := n0_; have HO180 := n1_; have HO188 := n2_; have HO192 := n3_; have HO196 := n4_; have HO199 := n5_; have HO203 := n6_; have HO211 := n7_; have HO214 := n8_; have HO218 := n9_; have HO222 := n10_; have HO226 := n11_; have HO230 := n12_; have BK172 := n13_; have BK173 := n14_; have BK174 := n15_; have BK185 := n16_; have BK208 := n17_; have HB := n18_; clear n0_ n1_ n2_ n3_ n4_ n5_ n6_ n7_ n8_ n9_ n10_ n11_ n12_ n13_ n14_ n15_ n16_ n17_ n18_; (try clear hb)))
              go_ret
              exact ⟨eS, bw5 HB.out GE172.out GE173.out GE174.out GE185.out GE208.out⟩
             ·rw [if_neg c25] at H
              exact absurd H (by simp)
            ·rw [if_neg c24] at H
             exact absurd H (by simp)
           ·rw [if_neg c23] at H
            exact absurd H (by simp)
          ·replace c22 := Bool.eq_false_iff.mpr c22
           subst c22
           have H1 : (none) = some r := by rw [if_neg (show ¬ (false = true) by decide)] at H; exact H
           clear H
           have H := H1
           clear H1
           exact absurd H (by simp)
         ·rw [if_neg c20] at H
          exact absurd H (by simp)
        ·rw [if_neg c19] at H
         exact absurd H (by simp)
       ·replace c18 := Bool.eq_false_iff.mpr c18
        subst c18
        have H1 : (none) = some r := by rw [if_neg (show ¬ (false = true) by decide)] at H; exact H
        clear H
        have H := H1
        clear H1
        exact absurd H (by simp)
      ·rw [if_neg c16] at H
       exact absurd H (by simp)
     ·replace c15 := Bool.eq_false_iff.mpr c15
      subst c15
      have H1 : (none) = some r := by rw [if_neg (show ¬ (false = true) by decide)] at H; exact H
      clear H
      have H := H1
      clear H1
      exact absurd H (by simp)
    ·rw [if_neg c13] at H
     exact absurd H (by simp)
   ·rw [if_neg c12] at H
    exact absurd H (by simp)
  ·rw [if_neg c11] at H
   exact absurd H (by simp)
 ·replace c10 := Bool.eq_false_iff.mpr c10
  subst c10
  have H1 : (none) = some r := by rw [if_neg (show ¬ (false = true) by decide)] at H; exact H
  clear H
  have H := H1
  clear H1
  exact absurd H (by simp)
mutual
def spoorref20_Check.j0 : Nat → List (S52) → Bool → Int → Int → Option (Int)
 | 0, _, _, _, _ => none
 | k + 1, x1, x20, x234000, x234001 => if x20 = true then (some 2) else (spoorref20_Check.l0 k x1 x234000 x1 (x1.length : Int) 0 x234000 x234001)
def spoorref20_Check.l0 : Nat → List (S52) → Int → List (S52) → Int → Int → Int → Int → Option (Int)
 | 0, _, _, _, _, _, _, _ => none
 | k + 1, x1, x5, x23, x24, x25, x234000, x234001 => if x25 < x24 then (if 0 ≤ x25 then (if x25 < (x23.length : Int) then ((spoorref20_One.f ((rd_T52 x23 x25).f1.f0) ((rd_T52 x23 x25).f1.f1)).bind fun t237 => (if t237 = true then (if ((rd_T52 x23 x25).f0.f0) = x5 then (if ((rd_T52 x23 x25).f0.f1) < ((rd_T52 x23 x25).f0.f0) then (spoorref20_Check.j2 k x1 x25 x23 x24 x25 true x234000 x234001 ((rd_T52 x23 x25).f0.f0) ((rd_T52 x23 x25).f0.f1) ((rd_T52 x23 x25).f1.f0) ((rd_T52 x23 x25).f1.f1)) else (spoorref20_Check.j2 k x1 x25 x23 x24 x25 (decide (((rd_T52 x23 x25).f0.f1) > x234001)) x234000 x234001 ((rd_T52 x23 x25).f0.f0) ((rd_T52 x23 x25).f0.f1) ((rd_T52 x23 x25).f1.f0) ((rd_T52 x23 x25).f1.f1))) else (spoorref20_Check.j2 k x1 x25 x23 x24 x25 true x234000 x234001 ((rd_T52 x23 x25).f0.f0) ((rd_T52 x23 x25).f0.f1) ((rd_T52 x23 x25).f1.f0) ((rd_T52 x23 x25).f1.f1))) else (spoorref20_Check.j2 k x1 x25 x23 x24 x25 true x234000 x234001 ((rd_T52 x23 x25).f0.f0) ((rd_T52 x23 x25).f0.f1) ((rd_T52 x23 x25).f1.f0) ((rd_T52 x23 x25).f1.f1)))) else (none)) else (none)) else (if x5 = (wrap64 (x234001 + 1)) then (some 0) else (some 2))
def spoorref20_Check.j2 : Nat → List (S52) → Int → List (S52) → Int → Int → Bool → Int → Int → Int → Int → Int → Int → Option (Int)
 | 0, _, _, _, _, _, _, _, _, _, _, _, _ => none
 | k + 1, x1, x6, x23, x24, x25, x57, x234000, x234001, x237000, x237001, x237002, x237003 => if x57 = true then (some 2) else (if x6 > 0 then (if 0 ≤ (wrap64 (x6 - 1)) then (if (wrap64 (x6 - 1)) < (x1.length : Int) then (if (x237002 == ((rd_T52 x1 (wrap64 (x6 - 1))).f1.f0) && (x237003 == ((rd_T52 x1 (wrap64 (x6 - 1))).f1.f1))) = true then (some 2) else (spoorref20_Check.l0 k x1 (wrap64 (x237001 + 1)) x23 x24 (wrap64 (x25 + 1)) x234000 x234001)) else (none)) else (none)) else (spoorref20_Check.l0 k x1 (wrap64 (x237001 + 1)) x23 x24 (wrap64 (x25 + 1)) x234000 x234001))
end
def spoorref20_Check.f (k : Nat) (a0_0 : Int) (a0_1 : Int) (l1 : List (S52)) : Option (Int) := (spoorref19_One.f a0_0 a0_1).bind fun t234 => (if t234 = true then (if (l1.length : Int) < 1 then (spoorref20_Check.j0 k l1 true a0_0 a0_1) else (spoorref20_Check.j0 k l1 (decide ((l1.length : Int) > 1024)) a0_0 a0_1)) else (spoorref20_Check.j0 k l1 true a0_0 a0_1))
set_option maxHeartbeats 8000000 in
set_option maxRecDepth 100000 in
theorem spoorref20_Check.calls (k : Nat) (a0_0 : Int) (a0_1 : Int) (A1 : Option Addr) (c1 : Nat) (l1 : List (S52)) (r : Int) (w : World) (hr1 : Kd.C k52 w A1 l1.length l1) (hc1 : l1.length ≤ c1) (h : spoorref20_Check.f k a0_0 a0_1 l1 = some r) :
  Calls Try.prog 13 #[.agg #[.int .i64 a0_0, .int .i64 a0_1], .slice A1 l1.length c1] w fun e w' => e = .returned (.int .i64 r) ∧ Below w.heap.size w w' := by
 have hu23 := Try.underlying23
 have hu52 := Try.underlying52
 have hu35 := Try.underlying35
 have HR1 := Ax hr1
 have HC1 := Ax hc1
 clear hr1 hc1
 have HB := Ax (Below.refl w.heap.size w)
 have H : ((spoorref19_One.f a0_0 a0_1).bind fun t234 => (if t234 = true then (if (l1.length : Int) < 1 then (spoorref20_Check.j0 k l1 true a0_0 a0_1) else (spoorref20_Check.j0 k l1 (decide ((l1.length : Int) > 1024)) a0_0 a0_1)) else (spoorref20_Check.j0 k l1 true a0_0 a0_1))) = some r := h
 clear h
 have HC3 := Ax H
 clear H
 go_enter Try.func13, Try.ntmps13
 go_upto_region 1 with (first | ((with_reducible refine gate_dst (N := 2) rfl ?_); refine box_event ?hg (N := 2) ?hd (cs := #[.int .i64 a0_0, .int .i64 a0_1]) (t := 23) ?hr ?_; (case hd => rfl); (case hg => rfl); (case hr => first | (go_simp; done) | (go_simp; rfl)); intro gb233 hg w4 hbox hb; have n0_ := Bs0 HB hb; have n1_ := Ax (hbox); have n2_ := Gw0 HB hg; have n3_ := Gw0 HB hg; clear HB; have HB := n0_; have BK233 := n1_; have GW233 := n2_; have GE233 := n3_; clear n0_ n1_ n2_ n3_; clear hb hbox hg))
 repeat (go_quiet (first | ((with_reducible refine gate_dst (N := 2) rfl ?_); refine box_event ?hg (N := 2) ?hd (cs := #[.int .i64 a0_0, .int .i64 a0_1]) (t := 23) ?hr ?_; (case hd => rfl); (case hg => rfl); (case hr => first | (go_simp; done) | (go_simp; rfl)); intro gb233 hg w4 hbox hb; have n0_ := Bs0 HB hb; have n1_ := Ax (hbox); have n2_ := Gw0 HB hg; have n3_ := Gw0 HB hg; clear HB; have HB := n0_; have BK233 := n1_; have GW233 := n2_; have GE233 := n3_; clear n0_ n1_ n2_ n3_; clear hb hbox hg)); go_upto_region 1 with (first | ((with_reducible refine gate_dst (N := 2) rfl ?_); refine box_event ?hg (N := 2) ?hd (cs := #[.int .i64 a0_0, .int .i64 a0_1]) (t := 23) ?hr ?_; (case hd => rfl); (case hg => rfl); (case hr => first | (go_simp; done) | (go_simp; rfl)); intro gb233 hg w4 hbox hb; have n0_ := Bs0 HB hb; have n1_ := Ax (hbox); have n2_ := Gw0 HB hg; have n3_ := Gw0 HB hg; clear HB; have HB := n0_; have BK233 := n1_; have GW233 := n2_; have GE233 := n3_; clear n0_ n1_ n2_ n3_; clear hb hbox hg)))
 (try simp only [Act.put, List.setIfInBounds_toArray, List.set_cons_zero, List.set_cons_succ])
 go_cut [20] (fun v20 wc => ∃ (kq : Nat) (x20_2 : Bool), v20 = .bool x20_2 ∧ Aside0 (spoorref20_Check.j0 kq l1 x20_2 a0_0 a0_1 = some r) ∧ Aside0 (kq ≤ k) ∧ Aside0 (wc.heap[gb233]? = some (.cells #[.int .i64 a0_0, .int .i64 a0_1] 23 (0, 0))) ∧ Aside0 (Below w.heap.size w wc))
 case first =>
  have H := HC3.out
  clear HC3
  replace H := Option.bind_eq_some_iff.mp H
  obtain ⟨t234, A50, H⟩ := H
  replace H : (if t234 = true then (if (l1.length : Int) < 1 then (spoorref20_Check.j0 k l1 true a0_0 a0_1) else (spoorref20_Check.j0 k l1 (decide ((l1.length : Int) > 1024)) a0_0 a0_1)) else (spoorref20_Check.j0 k l1 true a0_0 a0_1)) = some r := H
  have A5 := Ax A50
  clear A50
  by_cases c6 : t234 = true
  ·subst c6
   have H1 : (if (l1.length : Int) < 1 then (spoorref20_Check.j0 k l1 true a0_0 a0_1) else (spoorref20_Check.j0 k l1 (decide ((l1.length : Int) > 1024)) a0_0 a0_1)) = some r := by rw [if_pos rfl] at H; exact H
   clear H
   have H := H1
   clear H1
   by_cases c7 : (l1.length : Int) < 1
   ·rw [if_pos c7] at H
    have c7b0 : decide ((l1.length : Int) < 1) = true := decide_eq_true c7
    have c7b1 : decide (l1.length < 1) = true := decide_eq_true (by omega)
    clear c7
    (first | rw [c7b0] | (simp only [i64_w, i32_w]; rw [c7b0]) | skip)
    have H' := Ax H
    clear H
    obtain ⟨hcz8_0, hcz8_1, hfz8_0, hfz8_1⟩ := cl2 BK233
    go_wp2_with (first | (go_at_call 30; (with_reducible refine (spoorref19_One.calls a0_0 a0_1 true _ A5.out).mono ?_); rintro e w9 ⟨rfl, hb⟩; replace BK233 := Bx0 BK233 hb; replace HB := Bs1 HB hb GE233.out; (try clear hb)))
    repeat (go_quiet (first | (go_at_call 30; (with_reducible refine (spoorref19_One.calls a0_0 a0_1 true _ A5.out).mono ?_); rintro e w9 ⟨rfl, hb⟩; replace BK233 := Bx0 BK233 hb; replace HB := Bs1 HB hb GE233.out; (try clear hb))); try go_wp2_with (first | (go_at_call 30; (with_reducible refine (spoorref19_One.calls a0_0 a0_1 true _ A5.out).mono ?_); rintro e w9 ⟨rfl, hb⟩; replace BK233 := Bx0 BK233 hb; replace HB := Bs1 HB hb GE233.out; (try clear hb))))
    go_meet
    case rel => exact ⟨_, (true), rS, H', ⟨by first | omega | exact Nat.le_refl _⟩, ⟨bf0 BK233.out⟩, ⟨bw1 HB.out GE233.out⟩⟩
   ·rw [if_neg c7] at H
    have c7b0 : decide ((l1.length : Int) < 1) = false := decide_eq_false c7
    have c7b1 : decide (l1.length < 1) = false := decide_eq_false (by omega)
    clear c7
    (first | rw [c7b0] | (simp only [i64_w, i32_w]; rw [c7b0]) | skip)
    have H' := Ax H
    clear H
    obtain ⟨hcz10_0, hcz10_1, hfz10_0, hfz10_1⟩ := cl2 BK233
    go_wp2_with (first | (go_at_call 30; (with_reducible refine (spoorref19_One.calls a0_0 a0_1 true _ A5.out).mono ?_); rintro e w11 ⟨rfl, hb⟩; replace BK233 := Bx0 BK233 hb; replace HB := Bs1 HB hb GE233.out; (try clear hb)))
    repeat (go_quiet (first | (go_at_call 30; (with_reducible refine (spoorref19_One.calls a0_0 a0_1 true _ A5.out).mono ?_); rintro e w11 ⟨rfl, hb⟩; replace BK233 := Bx0 BK233 hb; replace HB := Bs1 HB hb GE233.out; (try clear hb))); try go_wp2_with (first | (go_at_call 30; (with_reducible refine (spoorref19_One.calls a0_0 a0_1 true _ A5.out).mono ?_); rintro e w11 ⟨rfl, hb⟩; replace BK233 := Bx0 BK233 hb; replace HB := Bs1 HB hb GE233.out; (try clear hb))))
    go_meet
    case rel => exact ⟨_, (decide ((l1.length : Int) > 1024)), rS, H', ⟨by first | omega | exact Nat.le_refl _⟩, ⟨bf0 BK233.out⟩, ⟨bw1 HB.out GE233.out⟩⟩
  ·replace c6 := Bool.eq_false_iff.mpr c6
   subst c6
   have H1 : (spoorref20_Check.j0 k l1 true a0_0 a0_1) = some r := by rw [if_neg (show ¬ (false = true) by decide)] at H; exact H
   clear H
   have H := H1
   clear H1
   have H' := Ax H
   clear H
   obtain ⟨hcz12_0, hcz12_1, hfz12_0, hfz12_1⟩ := cl2 BK233
   go_wp2_with (first | (go_at_call 30; (with_reducible refine (spoorref19_One.calls a0_0 a0_1 false _ A5.out).mono ?_); rintro e w13 ⟨rfl, hb⟩; replace BK233 := Bx0 BK233 hb; replace HB := Bs1 HB hb GE233.out; (try clear hb)))
   repeat (go_quiet (first | (go_at_call 30; (with_reducible refine (spoorref19_One.calls a0_0 a0_1 false _ A5.out).mono ?_); rintro e w13 ⟨rfl, hb⟩; replace BK233 := Bx0 BK233 hb; replace HB := Bs1 HB hb GE233.out; (try clear hb))); try go_wp2_with (first | (go_at_call 30; (with_reducible refine (spoorref19_One.calls a0_0 a0_1 false _ A5.out).mono ?_); rintro e w13 ⟨rfl, hb⟩; replace BK233 := Bx0 BK233 hb; replace HB := Bs1 HB hb GE233.out; (try clear hb))))
   go_meet
   case rel => exact ⟨_, (true), rS, H', ⟨by first | omega | exact Nat.le_refl _⟩, ⟨bf0 BK233.out⟩, ⟨bw1 HB.out GE233.out⟩⟩
 case rest =>
  clear HC3
  try clear c1
  try clear p2
  try clear c6
  try clear c7
  try clear c7b0
  try clear c7b1
  try clear c13
  try clear hcz10_0
  try clear hcz10_1
  try clear hcz12_0
  try clear hcz12_1
  try clear hcz8_0
  try clear hcz8_1
  try clear hfz10_0
  try clear hfz10_1
  try clear hfz12_0
  try clear hfz12_1
  try clear hfz8_0
  try clear hfz8_1
  obtain ⟨kq, x20_2, rfl, HA, HJ2, BK233, HB⟩ := hcut
  cases kq with
  | zero => exact absurd HA.out (by simp [spoorref20_Check.j0])
  | succ kj2 =>
   have H := HA.out
   clear HA
   simp only [spoorref20_Check.j0] at H
   by_cases c14 : x20_2 = true
   ·subst c14
    have H1 : (some 2) = some r := by rw [if_pos rfl] at H; exact H
    clear H
    have H := H1
    clear H1
    obtain rfl := Option.some.inj H
    go_wp2
    repeat (go_quiet (fail); try go_wp2)
    go_ret
    exact ⟨eS, bw1 HB.out GE233.out⟩
   ·replace c14 := Bool.eq_false_iff.mpr c14
    subst c14
    have H1 : (spoorref20_Check.l0 kj2 l1 a0_0 l1 (l1.length : Int) 0 a0_0 a0_1) = some r := by rw [if_neg (show ¬ (false = true) by decide)] at H; exact H
    clear H
    have H := H1
    clear H1
    have H' := Ax H
    clear H
    obtain ⟨hcz15_0, hcz15_1, hfz15_0, hfz15_1⟩ := cl2 BK233
    go_wp2
    repeat (go_quiet (fail); try go_wp2)
    go_loopg [5, 25] kj2 (fun kq v5 v25 w' => ∃ (x5_2 : Int) (x25_2 : Int), v5 = .int .i64 x5_2 ∧ v25 = .int .i64 x25_2 ∧ Aside0 (spoorref20_Check.l0 kq l1 x5_2 l1 (l1.length : Int) x25_2 a0_0 a0_1 = some r) ∧ Aside0 (kq ≤ kj2) ∧ Aside0 (w'.heap[gb233]? = some (.cells #[.int .i64 a0_0, .int .i64 a0_1] 23 (0, 0))) ∧ Aside0 (Below w.heap.size w w'))
    case atStart => exact ⟨(a0_0), (0), rS, rS, H', ⟨Nat.le_refl _⟩, ⟨bf0 BK233.out⟩, ⟨bw1 HB.out GE233.out⟩⟩
    case round =>
     clear H'
     try clear c1
     try clear p2
     try clear c6
     try clear c7
     try clear c7b0
     try clear c7b1
     try clear c13
     try clear c14
     try clear hcz10_0
     try clear hcz10_1
     try clear hcz12_0
     try clear hcz12_1
     try clear hcz15_0
     try clear hcz15_1
     try clear hcz8_0
     try clear hcz8_1
     try clear hfz10_0
     try clear hfz10_1
     try clear hfz12_0
     try clear hfz12_1
     try clear hfz15_0
     try clear hfz15_1
     try clear hfz8_0
     try clear hfz8_1
     try clear p2
     obtain ⟨x5_2, x25_2, rfl, rfl, HA, HK2, BK233, HB⟩ := hrel
     cases gk with
     | zero => exact absurd HA.out (by simp [spoorref20_Check.l0])
     | succ k2 =>
      have H := HA.out
      clear HA
      simp only [spoorref20_Check.l0] at H
      by_cases c16 : x25_2 < (l1.length : Int)
      ·rw [if_pos c16] at H
       have c16b0 : decide (x25_2 < (l1.length : Int)) = true := decide_eq_true c16
       clear c16
       by_cases c17 : 0 ≤ x25_2
       ·rw [if_pos c17] at H
        have c17b0 : decide (0 ≤ x25_2) = true := decide_eq_true c17
        clear c17
        by_cases c18 : x25_2 < (l1.length : Int)
        ·rw [if_pos c18] at H
         have c18b0 : decide (x25_2 < (l1.length : Int)) = true := decide_eq_true c18
         clear c18
         have HC19 := Ax H
         clear H
         have p235 : 0 ≤ (x25_2 : Int) := of_decide_eq_true (by first | (with_reducible assumption) | assumption)
         have q235 : x25_2 < (l1.length : Int) := of_decide_eq_true (by first | (with_reducible assumption) | assumption)
         obtain ⟨ad235, e235, hx235_0, hx235_1, hx235_2, hx235_3⟩ := at_T52 HR1.out x25_2 p235 q235
         cases e235
         replace hx235_0 := (HB.out.cell (World.block_lt_of_cell? w _ hx235_0)).trans hx235_0
         replace hx235_1 := (HB.out.cell (World.block_lt_of_cell? w _ hx235_1)).trans hx235_1
         replace hx235_2 := (HB.out.cell (World.block_lt_of_cell? w _ hx235_2)).trans hx235_2
         replace hx235_3 := (HB.out.cell (World.block_lt_of_cell? w _ hx235_3)).trans hx235_3
         replace p235 := eq_true p235
         replace q235 := eq_true q235
         go_upto_region 7 with (first | ((with_reducible refine gate_dst (N := 7) rfl ?_); refine box_event ?hg (N := 7) ?hd (cs := #[.int .i64 0, .int .i64 0, .int .u8 0, .int .i64 0]) (t := 52) ?hr ?_; (case hd => rfl); (case hg => rfl); (case hr => first | (go_simp; done) | (go_simp; rfl)); intro gb236 hg w20 hbox hb; have n0_ := Bx0 BK233 hb; have n1_ := Bs1 HB hb GE233.out; have n2_ := Ax (hbox); have n3_ := Gw1 HB hg GE233.out; have n4_ := Gw1 HB hg GE233.out; have n5_ := Nl0 BK233 hg; have n6_ := Nr0 BK233 hg; clear BK233; clear HB; have BK233 := n0_; have HB := n1_; have BK236 := n2_; have GW236 := n3_; have GE236 := n4_; have NB233_236 := n5_; have NB236_233 := n6_; clear n0_ n1_ n2_ n3_ n4_ n5_ n6_; clear hb hbox hg; have hnb21 := NB236_233.out; have hnc21 := NB233_236.out; obtain ⟨hcz22_0, hcz22_1, hcz22_2, hcz22_3, hfz22_0, hfz22_1, hfz22_2, hfz22_3⟩ := cl4 BK236))
         repeat (go_quiet (first | ((with_reducible refine gate_dst (N := 7) rfl ?_); refine box_event ?hg (N := 7) ?hd (cs := #[.int .i64 0, .int .i64 0, .int .u8 0, .int .i64 0]) (t := 52) ?hr ?_; (case hd => rfl); (case hg => rfl); (case hr => first | (go_simp; done) | (go_simp; rfl)); intro gb236 hg w20 hbox hb; have n0_ := Bx0 BK233 hb; have n1_ := Bs1 HB hb GE233.out; have n2_ := Ax (hbox); have n3_ := Gw1 HB hg GE233.out; have n4_ := Gw1 HB hg GE233.out; have n5_ := Nl0 BK233 hg; have n6_ := Nr0 BK233 hg; clear BK233; clear HB; have BK233 := n0_; have HB := n1_; have BK236 := n2_; have GW236 := n3_; have GE236 := n4_; have NB233_236 := n5_; have NB236_233 := n6_; clear n0_ n1_ n2_ n3_ n4_ n5_ n6_; clear hb hbox hg; have hnb21 := NB236_233.out; have hnc21 := NB233_236.out; obtain ⟨hcz22_0, hcz22_1, hcz22_2, hcz22_3, hfz22_0, hfz22_1, hfz22_2, hfz22_3⟩ := cl4 BK236)); go_upto_region 7 with (first | ((with_reducible refine gate_dst (N := 7) rfl ?_); refine box_event ?hg (N := 7) ?hd (cs := #[.int .i64 0, .int .i64 0, .int .u8 0, .int .i64 0]) (t := 52) ?hr ?_; (case hd => rfl); (case hg => rfl); (case hr => first | (go_simp; done) | (go_simp; rfl)); intro gb236 hg w20 hbox hb; have n0_ := Bx0 BK233 hb; have n1_ := Bs1 HB hb GE233.out; have n2_ := Ax (hbox); have n3_ := Gw1 HB hg GE233.out; have n4_ := Gw1 HB hg GE233.out; have n5_ := Nl0 BK233 hg; have n6_ := Nr0 BK233 hg; clear BK233; clear HB; have BK233 := n0_; have HB := n1_; have BK236 := n2_; have GW236 := n3_; have GE236 := n4_; have NB233_236 := n5_; have NB236_233 := n6_; clear n0_ n1_ n2_ n3_ n4_ n5_ n6_; clear hb hbox hg; have hnb21 := NB236_233.out; have hnc21 := NB233_236.out; obtain ⟨hcz22_0, hcz22_1, hcz22_2, hcz22_3, hfz22_0, hfz22_1, hfz22_2, hfz22_3⟩ := cl4 BK236)))
         (try simp only [Act.put, List.setIfInBounds_toArray, List.set_cons_zero, List.set_cons_succ])
         go_cut [57] (fun v57 wc => ∃ (kq : Nat) (x57_18 : Bool), v57 = .bool x57_18 ∧ Aside0 (spoorref20_Check.j2 kq l1 x25_2 l1 (l1.length : Int) x25_2 x57_18 a0_0 a0_1 ((rd_T52 l1 x25_2).f0.f0) ((rd_T52 l1 x25_2).f0.f1) ((rd_T52 l1 x25_2).f1.f0) ((rd_T52 l1 x25_2).f1.f1) = some r) ∧ Aside0 (kq ≤ k2) ∧ Aside0 (wc.heap[gb233]? = some (.cells #[.int .i64 a0_0, .int .i64 a0_1] 23 (0, 0))) ∧ Aside0 (wc.heap[gb236]? = some (.cells #[.int .i64 ((rd_T52 l1 x25_2).f0.f0), .int .i64 ((rd_T52 l1 x25_2).f0.f1), .int .u8 ((rd_T52 l1 x25_2).f1.f0), .int .i64 ((rd_T52 l1 x25_2).f1.f1)] 52 (0, 0))) ∧ Aside0 (Below w.heap.size w wc))
         case first =>
          have H := HC19.out
          clear HC19
          replace H := Option.bind_eq_some_iff.mp H
          obtain ⟨t237, A230, H⟩ := H
          replace H : (if t237 = true then (if ((rd_T52 l1 x25_2).f0.f0) = x5_2 then (if ((rd_T52 l1 x25_2).f0.f1) < ((rd_T52 l1 x25_2).f0.f0) then (spoorref20_Check.j2 k2 l1 x25_2 l1 (l1.length : Int) x25_2 true a0_0 a0_1 ((rd_T52 l1 x25_2).f0.f0) ((rd_T52 l1 x25_2).f0.f1) ((rd_T52 l1 x25_2).f1.f0) ((rd_T52 l1 x25_2).f1.f1)) else (spoorref20_Check.j2 k2 l1 x25_2 l1 (l1.length : Int) x25_2 (decide (((rd_T52 l1 x25_2).f0.f1) > a0_1)) a0_0 a0_1 ((rd_T52 l1 x25_2).f0.f0) ((rd_T52 l1 x25_2).f0.f1) ((rd_T52 l1 x25_2).f1.f0) ((rd_T52 l1 x25_2).f1.f1))) else (spoorref20_Check.j2 k2 l1 x25_2 l1 (l1.length : Int) x25_2 true a0_0 a0_1 ((rd_T52 l1 x25_2).f0.f0) ((rd_T52 l1 x25_2).f0.f1) ((rd_T52 l1 x25_2).f1.f0) ((rd_T52 l1 x25_2).f1.f1))) else (spoorref20_Check.j2 k2 l1 x25_2 l1 (l1.length : Int) x25_2 true a0_0 a0_1 ((rd_T52 l1 x25_2).f0.f0) ((rd_T52 l1 x25_2).f0.f1) ((rd_T52 l1 x25_2).f1.f0) ((rd_T52 l1 x25_2).f1.f1))) = some r := H
          have A23 := Ax A230
          clear A230
          by_cases c24 : t237 = true
          ·subst c24
           have H1 : (if ((rd_T52 l1 x25_2).f0.f0) = x5_2 then (if ((rd_T52 l1 x25_2).f0.f1) < ((rd_T52 l1 x25_2).f0.f0) then (spoorref20_Check.j2 k2 l1 x25_2 l1 (l1.length : Int) x25_2 true a0_0 a0_1 ((rd_T52 l1 x25_2).f0.f0) ((rd_T52 l1 x25_2).f0.f1) ((rd_T52 l1 x25_2).f1.f0) ((rd_T52 l1 x25_2).f1.f1)) else (spoorref20_Check.j2 k2 l1 x25_2 l1 (l1.length : Int) x25_2 (decide (((rd_T52 l1 x25_2).f0.f1) > a0_1)) a0_0 a0_1 ((rd_T52 l1 x25_2).f0.f0) ((rd_T52 l1 x25_2).f0.f1) ((rd_T52 l1 x25_2).f1.f0) ((rd_T52 l1 x25_2).f1.f1))) else (spoorref20_Check.j2 k2 l1 x25_2 l1 (l1.length : Int) x25_2 true a0_0 a0_1 ((rd_T52 l1 x25_2).f0.f0) ((rd_T52 l1 x25_2).f0.f1) ((rd_T52 l1 x25_2).f1.f0) ((rd_T52 l1 x25_2).f1.f1))) = some r := by rw [if_pos rfl] at H; exact H
           clear H
           have H := H1
           clear H1
           by_cases c25 : ((rd_T52 l1 x25_2).f0.f0) = x5_2
           ·rw [if_pos c25] at H
            have c25b0 : (((rd_T52 l1 x25_2).f0.f0) == x5_2) = true := beq_iff_eq.mpr c25
            have c25b1 : (((rd_T52 l1 x25_2).f0.f0) != x5_2) = false := bne_eq_false_iff_eq.mpr c25
            clear c25
            (first | rw [c25b0] | (simp only [i64_w, i32_w]; rw [c25b0]) | skip)
            by_cases c26 : ((rd_T52 l1 x25_2).f0.f1) < ((rd_T52 l1 x25_2).f0.f0)
            ·rw [if_pos c26] at H
             have c26b0 : decide (((rd_T52 l1 x25_2).f0.f1) < ((rd_T52 l1 x25_2).f0.f0)) = true := decide_eq_true c26
             clear c26
             have H' := Ax H
             clear H
             have hnb27 := NB236_233.out
             have hnc27 := NB233_236.out
             obtain ⟨hcz28_0, hcz28_1, hcz28_2, hcz28_3, hfz28_0, hfz28_1, hfz28_2, hfz28_3⟩ := cl4 BK236
             go_wp2_with (first | (go_at_call 31; (with_reducible refine (spoorref20_One.calls ((rd_T52 l1 x25_2).f1.f0) ((rd_T52 l1 x25_2).f1.f1) true _ A23.out).mono ?_); rintro e w29 ⟨rfl, hb⟩; have n0_ := Bx4 BK233 hb NB233_236.out NB233_236.out NB233_236.out NB233_236.out; have n1_ := Ax (blk_below (g := gb236) (o := .cells #[.int .i64 ((rd_T52 l1 x25_2).f0.f0), .int .i64 ((rd_T52 l1 x25_2).f0.f1), .int .u8 ((rd_T52 l1 x25_2).f1.f0), .int .i64 ((rd_T52 l1 x25_2).f1.f1)] 52 (0, 0)) (by (with_reducible repeat (first | refine blk_drewN ?_ _ | refine blk_drew ?_ | refine blk_alloc ?_ _)); refine blk_put (cs := #[.int .i64 ((rd_T52 l1 x25_2).f0.f0), .int .i64 ((rd_T52 l1 x25_2).f0.f1), .int .u8 ((rd_T52 l1 x25_2).f1.f0), .int .i64 0]) ?_ 3 _ rfl; (with_reducible repeat (first | refine blk_drewN ?_ _ | refine blk_drew ?_ | refine blk_alloc ?_ _)); refine blk_put (cs := #[.int .i64 ((rd_T52 l1 x25_2).f0.f0), .int .i64 ((rd_T52 l1 x25_2).f0.f1), .int .u8 0, .int .i64 0]) ?_ 2 _ rfl; (with_reducible repeat (first | refine blk_drewN ?_ _ | refine blk_drew ?_ | refine blk_alloc ?_ _)); refine blk_put (cs := #[.int .i64 ((rd_T52 l1 x25_2).f0.f0), .int .i64 0, .int .u8 0, .int .i64 0]) ?_ 1 _ rfl; (with_reducible repeat (first | refine blk_drewN ?_ _ | refine blk_drew ?_ | refine blk_alloc ?_ _)); refine blk_put (cs := #[.int .i64 0, .int .i64 0, .int .u8 0, .int .i64 0]) ?_ 0 _ rfl; (with_reducible repeat (first | refine blk_drewN ?_ _ | refine blk_drew ?_ | refine blk_alloc ?_ _)); exact BK236.out) hb); have n2_ := Bs2 HB hb GE233.out GE236.out; clear BK233; clear BK236; clear HB; have BK233 := n0_; have BK236 := n1_; have HB := n2_; clear n0_ n1_ n2_; (try clear hb); obtain ⟨hcz30_0, hcz30_1, hcz30_2, hcz30_3, hfz30_0, hfz30_1, hfz30_2, hfz30_3⟩ := cl4 BK236))
             repeat (go_quiet (first | (go_at_call 31; (with_reducible refine (spoorref20_One.calls ((rd_T52 l1 x25_2).f1.f0) ((rd_T52 l1 x25_2).f1.f1) true _ A23.out).mono ?_); rintro e w29 ⟨rfl, hb⟩; have n0_ := Bx4 BK233 hb NB233_236.out NB233_236.out NB233_236.out NB233_236.out; have n1_ := Ax (blk_below (g := gb236) (o := .cells #[.int .i64 ((rd_T52 l1 x25_2).f0.f0), .int .i64 ((rd_T52 l1 x25_2).f0.f1), .int .u8 ((rd_T52 l1 x25_2).f1.f0), .int .i64 ((rd_T52 l1 x25_2).f1.f1)] 52 (0, 0)) (by (with_reducible repeat (first | refine blk_drewN ?_ _ | refine blk_drew ?_ | refine blk_alloc ?_ _)); refine blk_put (cs := #[.int .i64 ((rd_T52 l1 x25_2).f0.f0), .int .i64 ((rd_T52 l1 x25_2).f0.f1), .int .u8 ((rd_T52 l1 x25_2).f1.f0), .int .i64 0]) ?_ 3 _ rfl; (with_reducible repeat (first | refine blk_drewN ?_ _ | refine blk_drew ?_ | refine blk_alloc ?_ _)); refine blk_put (cs := #[.int .i64 ((rd_T52 l1 x25_2).f0.f0), .int .i64 ((rd_T52 l1 x25_2).f0.f1), .int .u8 0, .int .i64 0]) ?_ 2 _ rfl; (with_reducible repeat (first | refine blk_drewN ?_ _ | refine blk_drew ?_ | refine blk_alloc ?_ _)); refine blk_put (cs := #[.int .i64 ((rd_T52 l1 x25_2).f0.f0), .int .i64 0, .int .u8 0, .int .i64 0]) ?_ 1 _ rfl; (with_reducible repeat (first | refine blk_drewN ?_ _ | refine blk_drew ?_ | refine blk_alloc ?_ _)); refine blk_put (cs := #[.int .i64 0, .int .i64 0, .int .u8 0, .int .i64 0]) ?_ 0 _ rfl; (with_reducible repeat (first | refine blk_drewN ?_ _ | refine blk_drew ?_ | refine blk_alloc ?_ _)); exact BK236.out) hb); have n2_ := Bs2 HB hb GE233.out GE236.out; clear BK233; clear BK236; clear HB; have BK233 := n0_; have BK236 := n1_; have HB := n2_; clear n0_ n1_ n2_; (try clear hb); obtain ⟨hcz30_0, hcz30_1, hcz30_2, hcz30_3, hfz30_0, hfz30_1, hfz30_2, hfz30_3⟩ := cl4 BK236)); try go_wp2_with (first | (go_at_call 31; (with_reducible refine (spoorref20_One.calls ((rd_T52 l1 x25_2).f1.f0) ((rd_T52 l1 x25_2).f1.f1) true _ A23.out).mono ?_); rintro e w29 ⟨rfl, hb⟩; have n0_ := Bx4 BK233 hb NB233_236.out NB233_236.out NB233_236.out NB233_236.out; have n1_ := Ax (blk_below (g := gb236) (o := .cells #[.int .i64 ((rd_T52 l1 x25_2).f0.f0), .int .i64 ((rd_T52 l1 x25_2).f0.f1), .int .u8 ((rd_T52 l1 x25_2).f1.f0), .int .i64 ((rd_T52 l1 x25_2).f1.f1)] 52 (0, 0)) (by (with_reducible repeat (first | refine blk_drewN ?_ _ | refine blk_drew ?_ | refine blk_alloc ?_ _)); refine blk_put (cs := #[.int .i64 ((rd_T52 l1 x25_2).f0.f0), .int .i64 ((rd_T52 l1 x25_2).f0.f1), .int .u8 ((rd_T52 l1 x25_2).f1.f0), .int .i64 0]) ?_ 3 _ rfl; (with_reducible repeat (first | refine blk_drewN ?_ _ | refine blk_drew ?_ | refine blk_alloc ?_ _)); refine blk_put (cs := #[.int .i64 ((rd_T52 l1 x25_2).f0.f0), .int .i64 ((rd_T52 l1 x25_2).f0.f1), .int .u8 0, .int .i64 0]) ?_ 2 _ rfl; (with_reducible repeat (first | refine blk_drewN ?_ _ | refine blk_drew ?_ | refine blk_alloc ?_ _)); refine blk_put (cs := #[.int .i64 ((rd_T52 l1 x25_2).f0.f0), .int .i64 0, .int .u8 0, .int .i64 0]) ?_ 1 _ rfl; (with_reducible repeat (first | refine blk_drewN ?_ _ | refine blk_drew ?_ | refine blk_alloc ?_ _)); refine blk_put (cs := #[.int .i64 0, .int .i64 0, .int .u8 0, .int .i64 0]) ?_ 0 _ rfl; (with_reducible repeat (first | refine blk_drewN ?_ _ | refine blk_drew ?_ | refine blk_alloc ?_ _)); exact BK236.out) hb); have n2_ := Bs2 HB hb GE233.out GE236.out; clear BK233; clear BK236; clear HB; have BK233 := n0_; have BK236 := n1_; have HB := n2_; clear n0_ n1_ n2_; (try clear hb); obtain ⟨hcz30_0, hcz30_1, hcz30_2, hcz30_3, hfz30_0, hfz30_1, hfz30_2, hfz30_3⟩ := cl4 BK236)))
             go_meet
             case rel => exact ⟨_, (true), rS, H', ⟨by have := HJ2.out; have := HK2.out; first | omega | exact Nat.le_refl _⟩, ⟨bf0 BK233.out⟩, ⟨bf0 BK236.out⟩, ⟨bw2 HB.out GE233.out GE236.out⟩⟩
            ·rw [if_neg c26] at H
             have c26b0 : decide (((rd_T52 l1 x25_2).f0.f1) < ((rd_T52 l1 x25_2).f0.f0)) = false := decide_eq_false c26
             clear c26
             have H' := Ax H
             clear H
             have hnb31 := NB236_233.out
             have hnc31 := NB233_236.out
             obtain ⟨hcz32_0, hcz32_1, hcz32_2, hcz32_3, hfz32_0, hfz32_1, hfz32_2, hfz32_3⟩ := cl4 BK236
             go_wp2_with (first | (go_at_call 31; (with_reducible refine (spoorref20_One.calls ((rd_T52 l1 x25_2).f1.f0) ((rd_T52 l1 x25_2).f1.f1) true _ A23.out).mono ?_); rintro e w33 ⟨rfl, hb⟩; have n0_ := Bx4 BK233 hb NB233_236.out NB233_236.out NB233_236.out NB233_236.out; have n1_ := Ax (blk_below (g := gb236) (o := .cells #[.int .i64 ((rd_T52 l1 x25_2).f0.f0), .int .i64 ((rd_T52 l1 x25_2).f0.f1), .int .u8 ((rd_T52 l1 x25_2).f1.f0), .int .i64 ((rd_T52 l1 x25_2).f1.f1)] 52 (0, 0)) (by (with_reducible repeat (first | refine blk_drewN ?_ _ | refine blk_drew ?_ | refine blk_alloc ?_ _)); refine blk_put (cs := #[.int .i64 ((rd_T52 l1 x25_2).f0.f0), .int .i64 ((rd_T52 l1 x25_2).f0.f1), .int .u8 ((rd_T52 l1 x25_2).f1.f0), .int .i64 0]) ?_ 3 _ rfl; (with_reducible repeat (first | refine blk_drewN ?_ _ | refine blk_drew ?_ | refine blk_alloc ?_ _)); refine blk_put (cs := #[.int .i64 ((rd_T52 l1 x25_2).f0.f0), .int .i64 ((rd_T52 l1 x25_2).f0.f1), .int .u8 0, .int .i64 0]) ?_ 2 _ rfl; (with_reducible repeat (first | refine blk_drewN ?_ _ | refine blk_drew ?_ | refine blk_alloc ?_ _)); refine blk_put (cs := #[.int .i64 ((rd_T52 l1 x25_2).f0.f0), .int .i64 0, .int .u8 0, .int .i64 0]) ?_ 1 _ rfl; (with_reducible repeat (first | refine blk_drewN ?_ _ | refine blk_drew ?_ | refine blk_alloc ?_ _)); refine blk_put (cs := #[.int .i64 0, .int .i64 0, .int .u8 0, .int .i64 0]) ?_ 0 _ rfl; (with_reducible repeat (first | refine blk_drewN ?_ _ | refine blk_drew ?_ | refine blk_alloc ?_ _)); exact BK236.out) hb); have n2_ := Bs2 HB hb GE233.out GE236.out; clear BK233; clear BK236; clear HB; have BK233 := n0_; have BK236 := n1_; have HB := n2_; clear n0_ n1_ n2_; (try clear hb); obtain ⟨hcz34_0, hcz34_1, hcz34_2, hcz34_3, hfz34_0, hfz34_1, hfz34_2, hfz34_3⟩ := cl4 BK236; obtain ⟨hcz35_0, hcz35_1, hfz35_0, hfz35_1⟩ := cl2 BK233))
             repeat (go_quiet (first | (go_at_call 31; (with_reducible refine (spoorref20_One.calls ((rd_T52 l1 x25_2).f1.f0) ((rd_T52 l1 x25_2).f1.f1) true _ A23.out).mono ?_); rintro e w33 ⟨rfl, hb⟩; have n0_ := Bx4 BK233 hb NB233_236.out NB233_236.out NB233_236.out NB233_236.out; have n1_ := Ax (blk_below (g := gb236) (o := .cells #[.int .i64 ((rd_T52 l1 x25_2).f0.f0), .int .i64 ((rd_T52 l1 x25_2).f0.f1), .int .u8 ((rd_T52 l1 x25_2).f1.f0), .int .i64 ((rd_T52 l1 x25_2).f1.f1)] 52 (0, 0)) (by (with_reducible repeat (first | refine blk_drewN ?_ _ | refine blk_drew ?_ | refine blk_alloc ?_ _)); refine blk_put (cs := #[.int .i64 ((rd_T52 l1 x25_2).f0.f0), .int .i64 ((rd_T52 l1 x25_2).f0.f1), .int .u8 ((rd_T52 l1 x25_2).f1.f0), .int .i64 0]) ?_ 3 _ rfl; (with_reducible repeat (first | refine blk_drewN ?_ _ | refine blk_drew ?_ | refine blk_alloc ?_ _)); refine blk_put (cs := #[.int .i64 ((rd_T52 l1 x25_2).f0.f0), .int .i64 ((rd_T52 l1 x25_2).f0.f1), .int .u8 0, .int .i64 0]) ?_ 2 _ rfl; (with_reducible repeat (first | refine blk_drewN ?_ _ | refine blk_drew ?_ | refine blk_alloc ?_ _)); refine blk_put (cs := #[.int .i64 ((rd_T52 l1 x25_2).f0.f0), .int .i64 0, .int .u8 0, .int .i64 0]) ?_ 1 _ rfl; (with_reducible repeat (first | refine blk_drewN ?_ _ | refine blk_drew ?_ | refine blk_alloc ?_ _)); refine blk_put (cs := #[.int .i64 0, .int .i64 0, .int .u8 0, .int .i64 0]) ?_ 0 _ rfl; (with_reducible repeat (first | refine blk_drewN ?_ _ | refine blk_drew ?_ | refine blk_alloc ?_ _)); exact BK236.out) hb); have n2_ := Bs2 HB hb GE233.out GE236.out; clear BK233; clear BK236; clear HB; have BK233 := n0_; have BK236 := n1_; have HB := n2_; clear n0_ n1_ n2_; (try clear hb); obtain ⟨hcz34_0, hcz34_1, hcz34_2, hcz34_3, hfz34_0, hfz34_1, hfz34_2, hfz34_3⟩ := cl4 BK236; obtain ⟨hcz35_0, hcz35_1, hfz35_0, hfz35_1⟩ := cl2 BK233)); try go_wp2_with (first | (go_at_call 31; (with_reducible refine (spoorref20_One.calls ((rd_T52 l1 x25_2).f1.f0) ((rd_T52 l1 x25_2).f1.f1) true _ A23.out).mono ?_); rintro e w33 ⟨rfl, hb⟩; have n0_ := Bx4 BK233 hb NB233_236.out NB233_236.out NB233_236.out NB233_236.out; have n1_ := Ax (blk_below (g := gb236) (o := .cells #[.int .i64 ((rd_T52 l1 x25_2).f0.f0), .int .i64 ((rd_T52 l1 x25_2).f0.f1), .int .u8 ((rd_T52 l1 x25_2).f1.f0), .int .i64 ((rd_T52 l1 x25_2).f1.f1)] 52 (0, 0)) (by (with_reducible repeat (first | refine blk_drewN ?_ _ | refine blk_drew ?_ | refine blk_alloc ?_ _)); refine blk_put (cs := #[.int .i64 ((rd_T52 l1 x25_2).f0.f0), .int .i64 ((rd_T52 l1 x25_2).f0.f1), .int .u8 ((rd_T52 l1 x25_2).f1.f0), .int .i64 0]) ?_ 3 _ rfl; (with_reducible repeat (first | refine blk_drewN ?_ _ | refine blk_drew ?_ | refine blk_alloc ?_ _)); refine blk_put (cs := #[.int .i64 ((rd_T52 l1 x25_2).f0.f0), .int .i64 ((rd_T52 l1 x25_2).f0.f1), .int .u8 0, .int .i64 0]) ?_ 2 _ rfl; (with_reducible repeat (first | refine blk_drewN ?_ _ | refine blk_drew ?_ | refine blk_alloc ?_ _)); refine blk_put (cs := #[.int .i64 ((rd_T52 l1 x25_2).f0.f0), .int .i64 0, .int .u8 0, .int .i64 0]) ?_ 1 _ rfl; (with_reducible repeat (first | refine blk_drewN ?_ _ | refine blk_drew ?_ | refine blk_alloc ?_ _)); refine blk_put (cs := #[.int .i64 0, .int .i64 0, .int .u8 0, .int .i64 0]) ?_ 0 _ rfl; (with_reducible repeat (first | refine blk_drewN ?_ _ | refine blk_drew ?_ | refine blk_alloc ?_ _)); exact BK236.out) hb); have n2_ := Bs2 HB hb GE233.out GE236.out; clear BK233; clear BK236; clear HB; have BK233 := n0_; have BK236 := n1_; have HB := n2_; clear n0_ n1_ n2_; (try clear hb); obtain ⟨hcz34_0, hcz34_1, hcz34_2, hcz34_3, hfz34_0, hfz34_1, hfz34_2, hfz34_3⟩ := cl4 BK236; obtain ⟨hcz35_0, hcz35_1, hfz35_0, hfz35_1⟩ := cl2 BK233)))
             go_meet
             case rel => exact ⟨_, (decide (((rd_T52 l1 x25_2).f0.f1) > a0_1)), rS, H', ⟨by have := HJ2.out; have := HK2.out; first | omega | exact Nat.le_refl _⟩, ⟨bf0 BK233.out⟩, ⟨bf0 BK236.out⟩, ⟨bw2 HB.out GE233.out GE236.out⟩⟩
           ·rw [if_neg c25] at H
            have c25b0 : (((rd_T52 l1 x25_2).f0.f0) == x5_2) = false := beq_eq_false_iff_ne.mpr c25
            have c25b1 : (((rd_T52 l1 x25_2).f0.f0) != x5_2) = true := bne_iff_ne.mpr c25
            (first | rw [c25b0] | (simp only [i64_w, i32_w]; rw [c25b0]) | skip)
            have H' := Ax H
            clear H
            have hnb36 := NB236_233.out
            have hnc36 := NB233_236.out
            obtain ⟨hcz37_0, hcz37_1, hcz37_2, hcz37_3, hfz37_0, hfz37_1, hfz37_2, hfz37_3⟩ := cl4 BK236
            go_wp2_with (first | (go_at_call 31; (with_reducible refine (spoorref20_One.calls ((rd_T52 l1 x25_2).f1.f0) ((rd_T52 l1 x25_2).f1.f1) true _ A23.out).mono ?_); rintro e w38 ⟨rfl, hb⟩; have n0_ := Bx4 BK233 hb NB233_236.out NB233_236.out NB233_236.out NB233_236.out; have n1_ := Ax (blk_below (g := gb236) (o := .cells #[.int .i64 ((rd_T52 l1 x25_2).f0.f0), .int .i64 ((rd_T52 l1 x25_2).f0.f1), .int .u8 ((rd_T52 l1 x25_2).f1.f0), .int .i64 ((rd_T52 l1 x25_2).f1.f1)] 52 (0, 0)) (by (with_reducible repeat (first | refine blk_drewN ?_ _ | refine blk_drew ?_ | refine blk_alloc ?_ _)); refine blk_put (cs := #[.int .i64 ((rd_T52 l1 x25_2).f0.f0), .int .i64 ((rd_T52 l1 x25_2).f0.f1), .int .u8 ((rd_T52 l1 x25_2).f1.f0), .int .i64 0]) ?_ 3 _ rfl; (with_reducible repeat (first | refine blk_drewN ?_ _ | refine blk_drew ?_ | refine blk_alloc ?_ _)); refine blk_put (cs := #[.int .i64 ((rd_T52 l1 x25_2).f0.f0), .int .i64 ((rd_T52 l1 x25_2).f0.f1), .int .u8 0, .int .i64 0]) ?_ 2 _ rfl; (with_reducible repeat (first | refine blk_drewN ?_ _ | refine blk_drew ?_ | refine blk_alloc ?_ _)); refine blk_put (cs := #[.int .i64 ((rd_T52 l1 x25_2).f0.f0), .int .i64 0, .int .u8 0, .int .i64 0]) ?_ 1 _ rfl; (with_reducible repeat (first | refine blk_drewN ?_ _ | refine blk_drew ?_ | refine blk_alloc ?_ _)); refine blk_put (cs := #[.int .i64 0, .int .i64 0, .int .u8 0, .int .i64 0]) ?_ 0 _ rfl; (with_reducible repeat (first | refine blk_drewN ?_ _ | refine blk_drew ?_ | refine blk_alloc ?_ _)); exact BK236.out) hb); have n2_ := Bs2 HB hb GE233.out GE236.out; clear BK233; clear BK236; clear HB; have BK233 := n0_; have BK236 := n1_; have HB := n2_; clear n0_ n1_ n2_; (try clear hb); obtain ⟨hcz39_0, hcz39_1, hcz39_2, hcz39_3, hfz39_0, hfz39_1, hfz39_2, hfz39_3⟩ := cl4 BK236))
            repeat (go_quiet (first | (go_at_call 31; (with_reducible refine (spoorref20_One.calls ((rd_T52 l1 x25_2).f1.f0) ((rd_T52 l1 x25_2).f1.f1) true _ A23.out).mono ?_); rintro e w38 ⟨rfl, hb⟩; have n0_ := Bx4 BK233 hb NB233_236.out NB233_236.out NB233_236.out NB233_236.out; have n1_ := Ax (blk_below (g := gb236) (o := .cells #[.int .i64 ((rd_T52 l1 x25_2).f0.f0), .int .i64 ((rd_T52 l1 x25_2).f0.f1), .int .u8 ((rd_T52 l1 x25_2).f1.f0), .int .i64 ((rd_T52 l1 x25_2).f1.f1)] 52 (0, 0)) (by (with_reducible repeat (first | refine blk_drewN ?_ _ | refine blk_drew ?_ | refine blk_alloc ?_ _)); refine blk_put (cs := #[.int .i64 ((rd_T52 l1 x25_2).f0.f0), .int .i64 ((rd_T52 l1 x25_2).f0.f1), .int .u8 ((rd_T52 l1 x25_2).f1.f0), .int .i64 0]) ?_ 3 _ rfl; (with_reducible repeat (first | refine blk_drewN ?_ _ | refine blk_drew ?_ | refine blk_alloc ?_ _)); refine blk_put (cs := #[.int .i64 ((rd_T52 l1 x25_2).f0.f0), .int .i64 ((rd_T52 l1 x25_2).f0.f1), .int .u8 0, .int .i64 0]) ?_ 2 _ rfl; (with_reducible repeat (first | refine blk_drewN ?_ _ | refine blk_drew ?_ | refine blk_alloc ?_ _)); refine blk_put (cs := #[.int .i64 ((rd_T52 l1 x25_2).f0.f0), .int .i64 0, .int .u8 0, .int .i64 0]) ?_ 1 _ rfl; (with_reducible repeat (first | refine blk_drewN ?_ _ | refine blk_drew ?_ | refine blk_alloc ?_ _)); refine blk_put (cs := #[.int .i64 0, .int .i64 0, .int .u8 0, .int .i64 0]) ?_ 0 _ rfl; (with_reducible repeat (first | refine blk_drewN ?_ _ | refine blk_drew ?_ | refine blk_alloc ?_ _)); exact BK236.out) hb); have n2_ := Bs2 HB hb GE233.out GE236.out; clear BK233; clear BK236; clear HB; have BK233 := n0_; have BK236 := n1_; have HB := n2_; clear n0_ n1_ n2_; (try clear hb); obtain ⟨hcz39_0, hcz39_1, hcz39_2, hcz39_3, hfz39_0, hfz39_1, hfz39_2, hfz39_3⟩ := cl4 BK236)); try go_wp2_with (first | (go_at_call 31; (with_reducible refine (spoorref20_One.calls ((rd_T52 l1 x25_2).f1.f0) ((rd_T52 l1 x25_2).f1.f1) true _ A23.out).mono ?_); rintro e w38 ⟨rfl, hb⟩; have n0_ := Bx4 BK233 hb NB233_236.out NB233_236.out NB233_236.out NB233_236.out; have n1_ := Ax (blk_below (g := gb236) (o := .cells #[.int .i64 ((rd_T52 l1 x25_2).f0.f0), .int .i64 ((rd_T52 l1 x25_2).f0.f1), .int .u8 ((rd_T52 l1 x25_2).f1.f0), .int .i64 ((rd_T52 l1 x25_2).f1.f1)] 52 (0, 0)) (by (with_reducible repeat (first | refine blk_drewN ?_ _ | refine blk_drew ?_ | refine blk_alloc ?_ _)); refine blk_put (cs := #[.int .i64 ((rd_T52 l1 x25_2).f0.f0), .int .i64 ((rd_T52 l1 x25_2).f0.f1), .int .u8 ((rd_T52 l1 x25_2).f1.f0), .int .i64 0]) ?_ 3 _ rfl; (with_reducible repeat (first | refine blk_drewN ?_ _ | refine blk_drew ?_ | refine blk_alloc ?_ _)); refine blk_put (cs := #[.int .i64 ((rd_T52 l1 x25_2).f0.f0), .int .i64 ((rd_T52 l1 x25_2).f0.f1), .int .u8 0, .int .i64 0]) ?_ 2 _ rfl; (with_reducible repeat (first | refine blk_drewN ?_ _ | refine blk_drew ?_ | refine blk_alloc ?_ _)); refine blk_put (cs := #[.int .i64 ((rd_T52 l1 x25_2).f0.f0), .int .i64 0, .int .u8 0, .int .i64 0]) ?_ 1 _ rfl; (with_reducible repeat (first | refine blk_drewN ?_ _ | refine blk_drew ?_ | refine blk_alloc ?_ _)); refine blk_put (cs := #[.int .i64 0, .int .i64 0, .int .u8 0, .int .i64 0]) ?_ 0 _ rfl; (with_reducible repeat (first | refine blk_drewN ?_ _ | refine blk_drew ?_ | refine blk_alloc ?_ _)); exact BK236.out) hb); have n2_ := Bs2 HB hb GE233.out GE236.out; clear BK233; clear BK236; clear HB; have BK233 := n0_; have BK236 := n1_; have HB := n2_; clear n0_ n1_ n2_; (try clear hb); obtain ⟨hcz39_0, hcz39_1, hcz39_2, hcz39_3, hfz39_0, hfz39_1, hfz39_2, hfz39_3⟩ := cl4 BK236)))
            go_meet
            case rel => exact ⟨_, (true), rS, H', ⟨by have := HJ2.out; have := HK2.out; first | omega | exact Nat.le_refl _⟩, ⟨bf0 BK233.out⟩, ⟨bf0 BK236.out⟩, ⟨bw2 HB.out GE233.out GE236.out⟩⟩
          ·replace c24 := Bool.eq_false_iff.mpr c24
           subst c24
           have H1 : (spoorref20_Check.j2 k2 l1 x25_2 l1 (l1.length : Int) x25_2 true a0_0 a0_1 ((rd_T52 l1 x25_2).f0.f0) ((rd_T52 l1 x25_2).f0.f1) ((rd_T52 l1 x25_2).f1.f0) ((rd_T52 l1 x25_2).f1.f1)) = some r := by rw [if_neg (show ¬ (false = true) by decide)] at H; exact H
           clear H
           have H := H1
           clear H1
           have H' := Ax H
           clear H
           have hnb40 := NB236_233.out
           have hnc40 := NB233_236.out
           obtain ⟨hcz41_0, hcz41_1, hcz41_2, hcz41_3, hfz41_0, hfz41_1, hfz41_2, hfz41_3⟩ := cl4 BK236
           go_wp2_with (first | (go_at_call 31; (with_reducible refine (spoorref20_One.calls ((rd_T52 l1 x25_2).f1.f0) ((rd_T52 l1 x25_2).f1.f1) false _ A23.out).mono ?_); rintro e w42 ⟨rfl, hb⟩; have n0_ := Bx4 BK233 hb NB233_236.out NB233_236.out NB233_236.out NB233_236.out; have n1_ := Ax (blk_below (g := gb236) (o := .cells #[.int .i64 ((rd_T52 l1 x25_2).f0.f0), .int .i64 ((rd_T52 l1 x25_2).f0.f1), .int .u8 ((rd_T52 l1 x25_2).f1.f0), .int .i64 ((rd_T52 l1 x25_2).f1.f1)] 52 (0, 0)) (by (with_reducible repeat (first | refine blk_drewN ?_ _ | refine blk_drew ?_ | refine blk_alloc ?_ _)); refine blk_put (cs := #[.int .i64 ((rd_T52 l1 x25_2).f0.f0), .int .i64 ((rd_T52 l1 x25_2).f0.f1), .int .u8 ((rd_T52 l1 x25_2).f1.f0), .int .i64 0]) ?_ 3 _ rfl; (with_reducible repeat (first | refine blk_drewN ?_ _ | refine blk_drew ?_ | refine blk_alloc ?_ _)); refine blk_put (cs := #[.int .i64 ((rd_T52 l1 x25_2).f0.f0), .int .i64 ((rd_T52 l1 x25_2).f0.f1), .int .u8 0, .int .i64 0]) ?_ 2 _ rfl; (with_reducible repeat (first | refine blk_drewN ?_ _ | refine blk_drew ?_ | refine blk_alloc ?_ _)); refine blk_put (cs := #[.int .i64 ((rd_T52 l1 x25_2).f0.f0), .int .i64 0, .int .u8 0, .int .i64 0]) ?_ 1 _ rfl; (with_reducible repeat (first | refine blk_drewN ?_ _ | refine blk_drew ?_ | refine blk_alloc ?_ _)); refine blk_put (cs := #[.int .i64 0, .int .i64 0, .int .u8 0, .int .i64 0]) ?_ 0 _ rfl; (with_reducible repeat (first | refine blk_drewN ?_ _ | refine blk_drew ?_ | refine blk_alloc ?_ _)); exact BK236.out) hb); have n2_ := Bs2 HB hb GE233.out GE236.out; clear BK233; clear BK236; clear HB; have BK233 := n0_; have BK236 := n1_; have HB := n2_; clear n0_ n1_ n2_; (try clear hb)))
           repeat (go_quiet (first | (go_at_call 31; (with_reducible refine (spoorref20_One.calls ((rd_T52 l1 x25_2).f1.f0) ((rd_T52 l1 x25_2).f1.f1) false _ A23.out).mono ?_); rintro e w42 ⟨rfl, hb⟩; have n0_ := Bx4 BK233 hb NB233_236.out NB233_236.out NB233_236.out NB233_236.out; have n1_ := Ax (blk_below (g := gb236) (o := .cells #[.int .i64 ((rd_T52 l1 x25_2).f0.f0), .int .i64 ((rd_T52 l1 x25_2).f0.f1), .int .u8 ((rd_T52 l1 x25_2).f1.f0), .int .i64 ((rd_T52 l1 x25_2).f1.f1)] 52 (0, 0)) (by (with_reducible repeat (first | refine blk_drewN ?_ _ | refine blk_drew ?_ | refine blk_alloc ?_ _)); refine blk_put (cs := #[.int .i64 ((rd_T52 l1 x25_2).f0.f0), .int .i64 ((rd_T52 l1 x25_2).f0.f1), .int .u8 ((rd_T52 l1 x25_2).f1.f0), .int .i64 0]) ?_ 3 _ rfl; (with_reducible repeat (first | refine blk_drewN ?_ _ | refine blk_drew ?_ | refine blk_alloc ?_ _)); refine blk_put (cs := #[.int .i64 ((rd_T52 l1 x25_2).f0.f0), .int .i64 ((rd_T52 l1 x25_2).f0.f1), .int .u8 0, .int .i64 0]) ?_ 2 _ rfl; (with_reducible repeat (first | refine blk_drewN ?_ _ | refine blk_drew ?_ | refine blk_alloc ?_ _)); refine blk_put (cs := #[.int .i64 ((rd_T52 l1 x25_2).f0.f0), .int .i64 0, .int .u8 0, .int .i64 0]) ?_ 1 _ rfl; (with_reducible repeat (first | refine blk_drewN ?_ _ | refine blk_drew ?_ | refine blk_alloc ?_ _)); refine blk_put (cs := #[.int .i64 0, .int .i64 0, .int .u8 0, .int .i64 0]) ?_ 0 _ rfl; (with_reducible repeat (first | refine blk_drewN ?_ _ | refine blk_drew ?_ | refine blk_alloc ?_ _)); exact BK236.out) hb); have n2_ := Bs2 HB hb GE233.out GE236.out; clear BK233; clear BK236; clear HB; have BK233 := n0_; have BK236 := n1_; have HB := n2_; clear n0_ n1_ n2_; (try clear hb))); try go_wp2_with (first | (go_at_call 31; (with_reducible refine (spoorref20_One.calls ((rd_T52 l1 x25_2).f1.f0) ((rd_T52 l1 x25_2).f1.f1) false _ A23.out).mono ?_); rintro e w42 ⟨rfl, hb⟩; have n0_ := Bx4 BK233 hb NB233_236.out NB233_236.out NB233_236.out NB233_236.out; have n1_ := Ax (blk_below (g := gb236) (o := .cells #[.int .i64 ((rd_T52 l1 x25_2).f0.f0), .int .i64 ((rd_T52 l1 x25_2).f0.f1), .int .u8 ((rd_T52 l1 x25_2).f1.f0), .int .i64 ((rd_T52 l1 x25_2).f1.f1)] 52 (0, 0)) (by (with_reducible repeat (first | refine blk_drewN ?_ _ | refine blk_drew ?_ | refine blk_alloc ?_ _)); refine blk_put (cs := #[.int .i64 ((rd_T52 l1 x25_2).f0.f0), .int .i64 ((rd_T52 l1 x25_2).f0.f1), .int .u8 ((rd_T52 l1 x25_2).f1.f0), .int .i64 0]) ?_ 3 _ rfl; (with_reducible repeat (first | refine blk_drewN ?_ _ | refine blk_drew ?_ | refine blk_alloc ?_ _)); refine blk_put (cs := #[.int .i64 ((rd_T52 l1 x25_2).f0.f0), .int .i64 ((rd_T52 l1 x25_2).f0.f1), .int .u8 0, .int .i64 0]) ?_ 2 _ rfl; (with_reducible repeat (first | refine blk_drewN ?_ _ | refine blk_drew ?_ | refine blk_alloc ?_ _)); refine blk_put (cs := #[.int .i64 ((rd_T52 l1 x25_2).f0.f0), .int .i64 0, .int .u8 0, .int .i64 0]) ?_ 1 _ rfl; (with_reducible repeat (first | refine blk_drewN ?_ _ | refine blk_drew ?_ | refine blk_alloc ?_ _)); refine blk_put (cs := #[.int .i64 0, .int .i64 0, .int .u8 0, .int .i64 0]) ?_ 0 _ rfl; (with_reducible repeat (first | refine blk_drewN ?_ _ | refine blk_drew ?_ | refine blk_alloc ?_ _)); exact BK236.out) hb); have n2_ := Bs2 HB hb GE233.out GE236.out; clear BK233; clear BK236; clear HB; have BK233 := n0_; have BK236 := n1_; have HB := n2_; clear n0_ n1_ n2_; (try clear hb))))
           go_meet
           case rel => exact ⟨_, (true), rS, H', ⟨by have := HJ2.out; have := HK2.out; first | omega | exact Nat.le_refl _⟩, ⟨bf0 BK233.out⟩, ⟨bf0 BK236.out⟩, ⟨bw2 HB.out GE233.out GE236.out⟩⟩
         case rest =>
          clear HC19
          try clear c1
          try clear c2
          try clear p2
          try clear q2
          try clear hx2
          try clear c3
          try clear c4
          try clear c6
          try clear c7
          try clear c7b0
          try clear c7b1
          try clear c13
          try clear c14
          try clear c16
          try clear c16b0
          try clear c17
          try clear c17b0
          try clear c18
          try clear c18b0
          try clear c21
          try clear p23
          try clear q23
          try clear hx23
          try clear c24
          try clear c25
          try clear c25b0
          try clear c25b1
          try clear c26
          try clear c26b0
          try clear c27
          try clear c31
          try clear c36
          try clear c40
          try clear hcz10_0
          try clear hcz10_1
          try clear hcz12_0
          try clear hcz12_1
          try clear hcz15_0
          try clear hcz15_1
          try clear hcz22_0
          try clear hcz22_1
          try clear hcz22_2
          try clear hcz22_3
          try clear hcz28_0
          try clear hcz28_1
          try clear hcz28_2
          try clear hcz28_3
          try clear hcz30_0
          try clear hcz30_1
          try clear hcz30_2
          try clear hcz30_3
          try clear hcz32_0
          try clear hcz32_1
          try clear hcz32_2
          try clear hcz32_3
          try clear hcz34_0
          try clear hcz34_1
          try clear hcz34_2
          try clear hcz34_3
          try clear hcz35_0
          try clear hcz35_1
          try clear hcz37_0
          try clear hcz37_1
          try clear hcz37_2
          try clear hcz37_3
          try clear hcz39_0
          try clear hcz39_1
          try clear hcz39_2
          try clear hcz39_3
          try clear hcz41_0
          try clear hcz41_1
          try clear hcz41_2
          try clear hcz41_3
          try clear hcz8_0
          try clear hcz8_1
          try clear hfz10_0
          try clear hfz10_1
          try clear hfz12_0
          try clear hfz12_1
          try clear hfz15_0
          try clear hfz15_1
          try clear hfz22_0
          try clear hfz22_1
          try clear hfz22_2
          try clear hfz22_3
          try clear hfz28_0
          try clear hfz28_1
          try clear hfz28_2
          try clear hfz28_3
          try clear hfz30_0
          try clear hfz30_1
          try clear hfz30_2
          try clear hfz30_3
          try clear hfz32_0
          try clear hfz32_1
          try clear hfz32_2
          try clear hfz32_3
          try clear hfz34_0
          try clear hfz34_1
          try clear hfz34_2
          try clear hfz34_3
          try clear hfz35_0
          try clear hfz35_1
          try clear hfz37_0
          try clear hfz37_1
          try clear hfz37_2
          try clear hfz37_3
          try clear hfz39_0
          try clear hfz39_1
          try clear hfz39_2
          try clear hfz39_3
          try clear hfz41_0
          try clear hfz41_1
          try clear hfz41_2
          try clear hfz41_3
          try clear hfz8_0
          try clear hfz8_1
          try clear hx235_0
          try clear hx235_1
          try clear hx235_2
          try clear hx235_3
          try clear p2
          try clear p235
          try clear q235
          obtain ⟨kq, x57_18, rfl, HA, HJ18, BK233, BK236, HB⟩ := hcut
          cases kq with
          | zero => exact absurd HA.out (by simp [spoorref20_Check.j2])
          | succ kj18 =>
           have H := HA.out
           clear HA
           simp only [spoorref20_Check.j2] at H
           by_cases c43 : x57_18 = true
           ·subst c43
            have H1 : (some 2) = some r := by rw [if_pos rfl] at H; exact H
            clear H
            have H := H1
            clear H1
            obtain rfl := Option.some.inj H
            go_wp2
            repeat (go_quiet (fail); try go_wp2)
            go_ret
            exact ⟨eS, bw2 HB.out GE233.out GE236.out⟩
           ·replace c43 := Bool.eq_false_iff.mpr c43
            subst c43
            have H1 : (if x25_2 > 0 then (if 0 ≤ (wrap64 (x25_2 - 1)) then (if (wrap64 (x25_2 - 1)) < (l1.length : Int) then (if (((rd_T52 l1 x25_2).f1.f0) == ((rd_T52 l1 (wrap64 (x25_2 - 1))).f1.f0) && (((rd_T52 l1 x25_2).f1.f1) == ((rd_T52 l1 (wrap64 (x25_2 - 1))).f1.f1))) = true then (some 2) else (spoorref20_Check.l0 kj18 l1 (wrap64 (((rd_T52 l1 x25_2).f0.f1) + 1)) l1 (l1.length : Int) (wrap64 (x25_2 + 1)) a0_0 a0_1)) else (none)) else (none)) else (spoorref20_Check.l0 kj18 l1 (wrap64 (((rd_T52 l1 x25_2).f0.f1) + 1)) l1 (l1.length : Int) (wrap64 (x25_2 + 1)) a0_0 a0_1)) = some r := by rw [if_neg (show ¬ (false = true) by decide)] at H; exact H
            clear H
            have H := H1
            clear H1
            by_cases c44 : x25_2 > 0
            ·rw [if_pos c44] at H
             have c44b0 : decide (0 < x25_2) = true := decide_eq_true c44
             clear c44
             obtain ⟨ji45, hji45⟩ : ∃ j_ : Int, (wrap64 (x25_2 - 1)) = j_ := ⟨_, rfl⟩
             replace H : (if 0 ≤ (ji45) then (if (ji45) < (l1.length : Int) then (if (((rd_T52 l1 x25_2).f1.f0) == ((rd_T52 l1 (ji45)).f1.f0) && (((rd_T52 l1 x25_2).f1.f1) == ((rd_T52 l1 (ji45)).f1.f1))) = true then (some 2) else (spoorref20_Check.l0 kj18 l1 (wrap64 (((rd_T52 l1 x25_2).f0.f1) + 1)) l1 (l1.length : Int) (wrap64 (x25_2 + 1)) a0_0 a0_1)) else (none)) else (none)) = some r := by first | (rw [hji45] at H; exact H) | (simp only [hji45] at H ⊢; exact H)
             have hji45w : (IntKind.i64.wrap (x25_2 - 1)) = ji45 := (i64_w _).trans hji45
             by_cases c46 : 0 ≤ (ji45)
             ·rw [if_pos c46] at H
              have c46b0 : decide (0 ≤ (ji45)) = true := decide_eq_true c46
              clear c46
              by_cases c47 : (ji45) < (l1.length : Int)
              ·rw [if_pos c47] at H
               have c47b0 : decide ((ji45) < (l1.length : Int)) = true := decide_eq_true c47
               clear c47
               by_cases c48 : (((rd_T52 l1 x25_2).f1.f0) == ((rd_T52 l1 (ji45)).f1.f0) && (((rd_T52 l1 x25_2).f1.f1) == ((rd_T52 l1 (ji45)).f1.f1))) = true
               ·rw [if_pos c48] at H
                have c48b0 : (((rd_T52 l1 x25_2).f1.f0) == ((rd_T52 l1 (ji45)).f1.f0) && (((rd_T52 l1 x25_2).f1.f1) == ((rd_T52 l1 (ji45)).f1.f1))) = true := c48
                (try (have c48b1 : decide (((rd_T52 l1 x25_2).f1.f0) = ((rd_T52 l1 (ji45)).f1.f0) && (((rd_T52 l1 x25_2).f1.f1) == ((rd_T52 l1 (ji45)).f1.f1))) = true := by simpa using c48))
                (try (have c48b2 : (((rd_T52 l1 x25_2).f1.f0) == ((rd_T52 l1 (ji45)).f1.f0) && (((rd_T52 l1 x25_2).f1.f1) == ((rd_T52 l1 (ji45)).f1.f1))) = true := by simpa using c48))
                clear c48
                obtain rfl := Option.some.inj H
                have hnb49 := NB236_233.out
                have hnc49 := NB233_236.out
                obtain ⟨hcz50_0, hcz50_1, hcz50_2, hcz50_3, hfz50_0, hfz50_1, hfz50_2, hfz50_3⟩ := cl4 BK236
                have p238 : 0 ≤ ((ji45) : Int) := of_decide_eq_true (by first | (with_reducible assumption) | assumption)
                have q238 : (ji45) < (l1.length : Int) := of_decide_eq_true (by first | (with_reducible assumption) | assumption)
                obtain ⟨ad238, e238, hx238_0, hx238_1, hx238_2, hx238_3⟩ := at_T52 HR1.out (ji45) p238 q238
                obtain rfl : ad235 = ad238 := (by injection e238)
                replace hx238_0 := (HB.out.cell (World.block_lt_of_cell? w _ hx238_0)).trans hx238_0
                replace hx238_1 := (HB.out.cell (World.block_lt_of_cell? w _ hx238_1)).trans hx238_1
                replace hx238_2 := (HB.out.cell (World.block_lt_of_cell? w _ hx238_2)).trans hx238_2
                replace hx238_3 := (HB.out.cell (World.block_lt_of_cell? w _ hx238_3)).trans hx238_3
                replace p238 := eq_true p238
                replace q238 := eq_true q238
                go_wp2
                repeat (go_quiet (fail); try go_wp2)
                go_ret
                exact ⟨by first | rfl | (simp [errW_none, errW_some] <;> rfl) | (simp only [← hji45]; first | rfl | (simp [errW_none, errW_some] <;> rfl)) | (simp [*, errW_none, errW_some] <;> rfl), bw2 HB.out GE233.out GE236.out⟩
               ·rw [if_neg c48] at H
                have c48b0 : (((rd_T52 l1 x25_2).f1.f0) == ((rd_T52 l1 (ji45)).f1.f0) && (((rd_T52 l1 x25_2).f1.f1) == ((rd_T52 l1 (ji45)).f1.f1))) = false := by simpa using c48
                (try (have c48b1 : decide (((rd_T52 l1 x25_2).f1.f0) = ((rd_T52 l1 (ji45)).f1.f0) && (((rd_T52 l1 x25_2).f1.f1) == ((rd_T52 l1 (ji45)).f1.f1))) = false := by simpa using c48))
                (try (have c48b2 : (((rd_T52 l1 x25_2).f1.f0) == ((rd_T52 l1 (ji45)).f1.f0) && (((rd_T52 l1 x25_2).f1.f1) == ((rd_T52 l1 (ji45)).f1.f1))) = false := by simpa using c48))
                (try (have c48b3 : ¬ (((rd_T52 l1 x25_2).f1.f0) = ((rd_T52 l1 (ji45)).f1.f0) && (((rd_T52 l1 x25_2).f1.f1) == ((rd_T52 l1 (ji45)).f1.f1))) := by simpa using c48))
                clear c48
                have H' := Ax H
                clear H
                have hnb51 := NB236_233.out
                have hnc51 := NB233_236.out
                obtain ⟨hcz52_0, hcz52_1, hcz52_2, hcz52_3, hfz52_0, hfz52_1, hfz52_2, hfz52_3⟩ := cl4 BK236
                have p238 : 0 ≤ ((ji45) : Int) := of_decide_eq_true (by first | (with_reducible assumption) | assumption)
                have q238 : (ji45) < (l1.length : Int) := of_decide_eq_true (by first | (with_reducible assumption) | assumption)
                obtain ⟨ad238, e238, hx238_0, hx238_1, hx238_2, hx238_3⟩ := at_T52 HR1.out (ji45) p238 q238
                obtain rfl : ad235 = ad238 := (by injection e238)
                replace hx238_0 := (HB.out.cell (World.block_lt_of_cell? w _ hx238_0)).trans hx238_0
                replace hx238_1 := (HB.out.cell (World.block_lt_of_cell? w _ hx238_1)).trans hx238_1
                replace hx238_2 := (HB.out.cell (World.block_lt_of_cell? w _ hx238_2)).trans hx238_2
                replace hx238_3 := (HB.out.cell (World.block_lt_of_cell? w _ hx238_3)).trans hx238_3
                replace p238 := eq_true p238
                replace q238 := eq_true q238
                go_wp2
                repeat (go_quiet (fail); try go_wp2)
                go_roundg kj18
                case measure => have := HJ2.out; have := HK2.out; have := HJ18.out; omega
                case rel => exact ⟨(wrap64 (((rd_T52 l1 x25_2).f0.f1) + 1)), (wrap64 (x25_2 + 1)), rS, rS, H', ⟨by have := HJ2.out; have := HK2.out; have := HJ18.out; omega⟩, ⟨bf0 BK233.out⟩, ⟨bw2 HB.out GE233.out GE236.out⟩⟩
              ·rw [if_neg c47] at H
               exact absurd H (by simp)
             ·rw [if_neg c46] at H
              exact absurd H (by simp)
            ·rw [if_neg c44] at H
             have c44b0 : decide (0 < x25_2) = false := decide_eq_false c44
             clear c44
             have H' := Ax H
             clear H
             have hnb53 := NB236_233.out
             have hnc53 := NB233_236.out
             obtain ⟨hcz54_0, hcz54_1, hcz54_2, hcz54_3, hfz54_0, hfz54_1, hfz54_2, hfz54_3⟩ := cl4 BK236
             go_wp2
             repeat (go_quiet (fail); try go_wp2)
             go_roundg kj18
             case measure => have := HJ2.out; have := HK2.out; have := HJ18.out; omega
             case rel => exact ⟨(wrap64 (((rd_T52 l1 x25_2).f0.f1) + 1)), (wrap64 (x25_2 + 1)), rS, rS, H', ⟨by have := HJ2.out; have := HK2.out; have := HJ18.out; omega⟩, ⟨bf0 BK233.out⟩, ⟨bw2 HB.out GE233.out GE236.out⟩⟩
        ·rw [if_neg c18] at H
         exact absurd H (by simp)
       ·rw [if_neg c17] at H
        exact absurd H (by simp)
      ·rw [if_neg c16] at H
       have c16b0 : decide (x25_2 < (l1.length : Int)) = false := decide_eq_false c16
       clear c16
       by_cases c55 : x5_2 = (wrap64 (a0_1 + 1))
       ·rw [if_pos c55] at H
        have c55b0 : (x5_2 == (wrap64 (a0_1 + 1))) = true := beq_iff_eq.mpr c55
        have c55b1 : (x5_2 != (wrap64 (a0_1 + 1))) = false := bne_eq_false_iff_eq.mpr c55
        clear c55
        obtain rfl := Option.some.inj H
        obtain ⟨hcz56_0, hcz56_1, hfz56_0, hfz56_1⟩ := cl2 BK233
        go_wp2
        repeat (go_quiet (fail); try go_wp2)
        go_ret
        exact ⟨eS, bw1 HB.out GE233.out⟩
       ·rw [if_neg c55] at H
        have c55b0 : (x5_2 == (wrap64 (a0_1 + 1))) = false := beq_eq_false_iff_ne.mpr c55
        have c55b1 : (x5_2 != (wrap64 (a0_1 + 1))) = true := bne_iff_ne.mpr c55
        obtain rfl := Option.some.inj H
        obtain ⟨hcz57_0, hcz57_1, hfz57_0, hfz57_1⟩ := cl2 BK233
        go_wp2
        repeat (go_quiet (fail); try go_wp2)
        go_ret
        exact ⟨eS, bw1 HB.out GE233.out⟩
def spoorlaw20_LineMakes.f (k : Nat) (a0_0 : Int) (a0_1 : Int) (l1 : List (S46)) (l2 : List (S52)) : Option (Bool) := (line_Make.f k a0_0 a0_1 l1).bind fun bt240 => ((spoorref20_Make.f k a0_0 a0_1 l1).bind fun bt244 => ((spoorlaw20_lives.f k).bind fun t248 => (if t248 = true then ((spoorref20_Same.f k bt240.1 bt244.1).bind fun t249 => (if t249 = true then (if bt240.2 = bt244.2 then ((line_Check.f k a0_0 a0_1 l2).bind fun t250 => ((spoorref20_Check.f k a0_0 a0_1 l2).bind fun t251 => (some (t250 == t251)))) else (none)) else (none))) else (none))))
def spoorlaw20_LineMakes.T3 : Bool × List (List Nat × List Nat) := (true, [([], []), ([0, 0], [0]), ([1], [1]), ([1], [1]), ([2, 3, 1, 1], [1, 2, 3]), ([1, 4], [1, 4]), ([5, 4], [5]), ([6], [6]), ([6], [6]), ([7, 8, 6], [6, 7, 8]), ([6, 9], [6, 9]), ([10, 6], [10]), ([11], [11]), ([11], [11]), ([12, 13, 11, 11], [11, 12, 13]), ([11], [11]), ([11], [11]), ([15, 16, 14, 11], [11, 15, 16]), ([14, 17, 11], [11, 14, 17]), ([11, 18], [11, 18]), ([19, 17, 0, 1, 2, 3, 4, 5, 6, 7, 8, 9, 10, 11, 12, 13, 14, 15, 16, 17, 18, 19], [19])])
def spoorlaw20_LineMakes.B3 : List Nat := [0, 1, 3, 3, 15, 31, 63, 127, 127, 511, 1023, 2047, 4095, 4095, 16383, 4095, 4095, 131071, 262143, 524287, 1048575]
theorem spoorlaw20_LineMakes.tab3 : rtab .any (opsOf Try.f3 3) = spoorlaw20_LineMakes.T3 := by kernel_rfl
theorem spoorlaw20_LineMakes.bits3 : waitsOk spoorlaw20_LineMakes.T3.2 spoorlaw20_LineMakes.B3 = true := by kernel_rfl
set_option maxHeartbeats 8000000 in
set_option maxRecDepth 100000 in
theorem spoorlaw20_LineMakes.calls (k : Nat) (a0_0 : Int) (a0_1 : Int) (A1 : Option Addr) (c1 : Nat) (l1 : List (S46)) (A2 : Option Addr) (c2 : Nat) (l2 : List (S52)) (r : Bool) (w : World) (hr1 : Kd.C k46 w A1 l1.length l1) (hc1 : l1.length ≤ c1) (hr2 : Kd.C k52 w A2 l2.length l2) (hc2 : l2.length ≤ c2) (h : spoorlaw20_LineMakes.f k a0_0 a0_1 l1 l2 = some r) :
  Calls Try.prog 3 #[.agg #[.int .i64 a0_0, .int .i64 a0_1], .slice A1 l1.length c1, .slice A2 l2.length c2] w fun e w' => e = .returned (.bool r) ∧ Below w.heap.size w w' := by
 have hu23 := Try.underlying23
 have HR1 := Ax hr1
 have HC1 := Ax hc1
 clear hr1 hc1
 have HR2 := Ax hr2
 have HC2 := Ax hc2
 clear hr2 hc2
 have HB := Ax (Below.refl w.heap.size w)
 have H : ((line_Make.f k a0_0 a0_1 l1).bind fun bt240 => ((spoorref20_Make.f k a0_0 a0_1 l1).bind fun bt244 => ((spoorlaw20_lives.f k).bind fun t248 => (if t248 = true then ((spoorref20_Same.f k bt240.1 bt244.1).bind fun t249 => (if t249 = true then (if bt240.2 = bt244.2 then ((line_Check.f k a0_0 a0_1 l2).bind fun t250 => ((spoorref20_Check.f k a0_0 a0_1 l2).bind fun t251 => (some (t250 == t251)))) else (none)) else (none))) else (none))))) = some r := h
 clear h
 replace H := Option.bind_eq_some_iff.mp H
 obtain ⟨⟨t240, t243⟩, A40, H⟩ := H
 replace H : ((spoorref20_Make.f k a0_0 a0_1 l1).bind fun bt244 => ((spoorlaw20_lives.f k).bind fun t248 => (if t248 = true then ((spoorref20_Same.f k t240 bt244.1).bind fun t249 => (if t249 = true then (if t243 = bt244.2 then ((line_Check.f k a0_0 a0_1 l2).bind fun t250 => ((spoorref20_Check.f k a0_0 a0_1 l2).bind fun t251 => (some (t250 == t251)))) else (none)) else (none))) else (none)))) = some r := H
 have A4 := Ax A40
 clear A40
 replace H := Option.bind_eq_some_iff.mp H
 obtain ⟨⟨t244, t247⟩, A50, H⟩ := H
 replace H : ((spoorlaw20_lives.f k).bind fun t248 => (if t248 = true then ((spoorref20_Same.f k t240 t244).bind fun t249 => (if t249 = true then (if t243 = t247 then ((line_Check.f k a0_0 a0_1 l2).bind fun t250 => ((spoorref20_Check.f k a0_0 a0_1 l2).bind fun t251 => (some (t250 == t251)))) else (none)) else (none))) else (none))) = some r := H
 have A5 := Ax A50
 clear A50
 replace H := Option.bind_eq_some_iff.mp H
 obtain ⟨t248, A60, H⟩ := H
 replace H : (if t248 = true then ((spoorref20_Same.f k t240 t244).bind fun t249 => (if t249 = true then (if t243 = t247 then ((line_Check.f k a0_0 a0_1 l2).bind fun t250 => ((spoorref20_Check.f k a0_0 a0_1 l2).bind fun t251 => (some (t250 == t251)))) else (none)) else (none))) else (none)) = some r := H
 have A6 := Ax A60
 clear A60
 by_cases c7 : t248 = true
 ·subst c7
  have H1 : ((spoorref20_Same.f k t240 t244).bind fun t249 => (if t249 = true then (if t243 = t247 then ((line_Check.f k a0_0 a0_1 l2).bind fun t250 => ((spoorref20_Check.f k a0_0 a0_1 l2).bind fun t251 => (some (t250 == t251)))) else (none)) else (none))) = some r := by rw [if_pos rfl] at H; exact H
  clear H
  have H := H1
  clear H1
  replace H := Option.bind_eq_some_iff.mp H
  obtain ⟨t249, A80, H⟩ := H
  replace H : (if t249 = true then (if t243 = t247 then ((line_Check.f k a0_0 a0_1 l2).bind fun t250 => ((spoorref20_Check.f k a0_0 a0_1 l2).bind fun t251 => (some (t250 == t251)))) else (none)) else (none)) = some r := H
  have A8 := Ax A80
  clear A80
  by_cases c9 : t249 = true
  ·subst c9
   have H1 : (if t243 = t247 then ((line_Check.f k a0_0 a0_1 l2).bind fun t250 => ((spoorref20_Check.f k a0_0 a0_1 l2).bind fun t251 => (some (t250 == t251)))) else (none)) = some r := by rw [if_pos rfl] at H; exact H
   clear H
   have H := H1
   clear H1
   by_cases c10 : t243 = t247
   ·rw [if_pos c10] at H
    have c10b0 : (t243 == t247) = true := beq_iff_eq.mpr c10
    have c10b1 : (t243 != t247) = false := bne_eq_false_iff_eq.mpr c10
    clear c10
    replace H := Option.bind_eq_some_iff.mp H
    obtain ⟨t250, A110, H⟩ := H
    replace H : ((spoorref20_Check.f k a0_0 a0_1 l2).bind fun t251 => (some (t250 == t251))) = some r := H
    have A11 := Ax A110
    clear A110
    replace H := Option.bind_eq_some_iff.mp H
    obtain ⟨t251, A120, H⟩ := H
    replace H : (some (t250 == t251)) = some r := H
    have A12 := Ax A120
    clear A120
    obtain rfl := Option.some.inj H
    go_enter Try.func3, Try.ntmps3
    try go_wp2_with (first | ((with_reducible refine gate_dst (N := 3) rfl ?_); refine box_event ?hg (N := 3) ?hd (cs := #[.int .i64 a0_0, .int .i64 a0_1]) (t := 23) ?hr ?_; (case hd => rfl); (case hg => rfl); (case hr => first | (go_simp; done) | (go_simp; rfl)); intro gb239 hg w13 hbox hb; have n0_ := Bs0 HB hb; have n1_ := Ax (hbox); have n2_ := Gw0 HB hg; have n3_ := Gw0 HB hg; clear HB; have HB := n0_; have BK239 := n1_; have GW239 := n2_; have GE239 := n3_; clear n0_ n1_ n2_ n3_; clear hb hbox hg; obtain ⟨hcz14_0, hcz14_1, hfz14_0, hfz14_1⟩ := cl2 BK239) | ((with_reducible refine gate_callee (f := 8) rfl ?_); refine goesL_ (some 14) rfl rfl Try.func8 (by kernel_rfl) rfl #[.agg #[.int .i64 a0_0, .int .i64 a0_1], .slice A1 l1.length c1] rfl gS ?_; (with_reducible refine (line_Make.calls k a0_0 a0_1 _ _ l1 t240 t243 _ ?side1 ?side2 A4.out).mono ?_); (case side1 => repeat (first | exact (Kd.C_below HR1.out HB.out) | (with_reducible refine Kd.C_alloc ?_ _) | (with_reducible refine Kd.C_drewN ?_ _) | (with_reducible refine Kd.C_drew ?_))); (case side2 => exact HC1.out); rintro e w15 ⟨v241, rfl, ho0, hb⟩; refine ⟨_, rfl, ?_⟩; have HO242 := Ax (Kd.R_lower ho0 (below_size (bw1 HB.out GE239.out))); replace BK239 := Bx0 BK239 hb; replace HB := Bs1 HB hb GE239.out; (try clear hb); (try clear ho0); obtain ⟨hcz16_0, hcz16_1, hfz16_0, hfz16_1⟩ := cl2 BK239) | ((with_reducible refine gate_callee (f := 9) rfl ?_); refine goesL_ (some 20) rfl rfl Try.func9 (by kernel_rfl) rfl #[.agg #[.int .i64 a0_0, .int .i64 a0_1], .slice A1 l1.length c1] rfl gS ?_; (with_reducible refine (spoorref20_Make.calls k a0_0 a0_1 _ _ l1 t244 t247 _ ?side1 ?side2 A5.out).mono ?_); (case side1 => repeat (first | exact (Kd.C_below HR1.out HB.out) | (with_reducible refine Kd.C_alloc ?_ _) | (with_reducible refine Kd.C_drewN ?_ _) | (with_reducible refine Kd.C_drew ?_))); (case side2 => exact HC1.out); rintro e w17 ⟨v245, rfl, ho0, hb⟩; refine ⟨_, rfl, ?_⟩; have n0_ := Ax (Kd.R_elder' (by (with_reducible repeat (first | apply Kd.R_alloc | apply Kd.R_drewN | apply Kd.R_drew)); exact HO242.out) (Kd.R_base ho0) hb); have n1_ := Ax (Kd.R_lower (Kd.R_new' ho0 (Kd.R_lt (by (with_reducible repeat (first | apply Kd.R_alloc | apply Kd.R_drewN | apply Kd.R_drew)); exact HO242.out))) (below_size (bw1 HB.out GE239.out))); have n2_ := Bx0 BK239 hb; have n3_ := Bs1 HB hb GE239.out; clear HO242; clear BK239; clear HB; have HO242 := n0_; have HO246 := n1_; have BK239 := n2_; have HB := n3_; clear n0_ n1_ n2_ n3_; (try clear hb); (try clear ho0)))
    replace HO242 := Ax (Kd.R_drew HO242.out)
    replace HO246 := Ax (Kd.R_drew HO246.out)
    replace BK239 := Ax (blk_drew BK239.out)
    replace HB := Ax (below_drew1 HB.out)
    refine start_ (n := 21) (S := fun w' => w'.cell? ⟨gb239, 0, none⟩ = some (.int .i64 a0_0) ∧ w'.cell? ⟨gb239, 1, none⟩ = some (.int .i64 a0_1)) (ds := []) #[fa,fa,fa,fa,fa,fa,fa,fa,fa,fa,fa,fa,fa,fa,fa,fa,fa,fa,fa,fa,fa] (by kernel_rfl) rfl rfl ⟨(blk_cell BK239.out 0).trans rfl, (blk_cell BK239.out 1).trans rfl⟩ (fun hHeld => ?_); refine with_tabW spoorlaw20_LineMakes.tab3 spoorlaw20_LineMakes.bits3 (fun HT_ HW_ => ?_)
    generalize w17.drew = w18 at HO242 HO246 BK239 HB hHeld ⊢
    refine one_ (i := 0) (N := some 23) #[tr,fa,fa,fa,fa,fa,fa,fa,fa,fa,fa,fa,fa,fa,fa,fa,fa,fa,fa,fa,fa] rfl rfl (one_of HT_.out (by kernel_rfl)) (by decide) (fun K hK => ?_)
    refine goes_ Try.func10 (by kernel_rfl) rfl #[] (by rfl) rfl rfl gS ?_
    with_reducible refine (spoorlaw20_lives.calls k  true _ A6.out).mono ?_
    rintro e w19 ⟨rfl, hb⟩
    refine ⟨_, rfl, ?_⟩
    replace HO242 := Ax (Kd.R_below (by (with_reducible repeat (first | apply Kd.R_alloc | apply Kd.R_drewN | apply Kd.R_drew)); exact HO242.out) hb)
    replace HO246 := Ax (Kd.R_below (by (with_reducible repeat (first | apply Kd.R_alloc | apply Kd.R_drewN | apply Kd.R_drew)); exact HO246.out) hb)
    replace BK239 := Bx0 BK239 hb
    replace HB := Bs1 HB hb GE239.out
    (try clear hb)
    obtain ⟨Ao20, co20, eo20⟩ := Kd.R_slice HO242.out
    (first | subst eo20 | (injection eo20 with f1_ f2_ f3_; have f4_ := f1_.symm; have f5_ := f3_.symm; clear f1_ f2_ f3_; subst f4_; subst f5_))
    obtain ⟨Ao21, co21, eo21⟩ := Kd.R_slice HO246.out
    (first | subst eo21 | (injection eo21 with f1_ f2_ f3_; have f4_ := f1_.symm; have f5_ := f3_.symm; clear f1_ f2_ f3_; subst f4_; subst f5_))
    refine hK.out _ _ ⟨(blk_cell BK239.out 0).trans rfl, (blk_cell BK239.out 1).trans rfl⟩ (fun hHeld => ?_)
    clear hK K
    refine norm_ (a' := ?_) ?_ ?_
    rotate_left
    ·show Act.put _ (some 23) _ = _
     simp only [sP]
     rfl
    refine pure_ (i := 1) (N := some 24) (v := ?_) (a' := ?_) #[tr,tr,fa,fa,fa,fa,fa,fa,fa,fa,fa,fa,fa,fa,fa,fa,fa,fa,fa,fa,fa] rfl rfl (any_of HT_.out (by kernel_rfl)) (fun _ _ _ h => h) (Or.inl ⟨by rfl, ?_⟩) ?_ ?_
    rotate_left
    ·intro w'
     go_simp
     with_reducible rfl
    rotate_left
    ·simp only [sP]
     rfl
    refine pure_ (i := 2) (N := some 25) (v := ?_) (a' := ?_) #[tr,tr,tr,fa,fa,fa,fa,fa,fa,fa,fa,fa,fa,fa,fa,fa,fa,fa,fa,fa,fa] rfl rfl (any_of HT_.out (by kernel_rfl)) (fun _ _ _ h => h) (Or.inl ⟨by rfl, ?_⟩) ?_ ?_
    rotate_left
    ·intro w'
     go_simp
     with_reducible rfl
    rotate_left
    ·simp only [sP]
     rfl
    refine pure_ (i := 3) (N := some 26) (v := ?_) (a' := ?_) #[tr,tr,tr,tr,fa,fa,fa,fa,fa,fa,fa,fa,fa,fa,fa,fa,fa,fa,fa,fa,fa] rfl rfl (any_of HT_.out (by kernel_rfl)) (fun _ _ _ h => h) (Or.inl ⟨by rfl, ?_⟩) ?_ ?_
    rotate_left
    ·intro w'
     go_simp
     with_reducible rfl
    rotate_left
    ·simp only [sP]
     rfl
    refine one_ (i := 4) (N := some 27) #[tr,tr,tr,tr,tr,fa,fa,fa,fa,fa,fa,fa,fa,fa,fa,fa,fa,fa,fa,fa,fa] rfl rfl (one_of HT_.out (by kernel_rfl)) (by decide) (fun K hK => ?_)
    refine goes_ Try.func11 (by kernel_rfl) rfl #[.slice Ao20 t240.length co20, .slice Ao21 t244.length co21] (by rfl) rfl rfl gS ?_
    with_reducible refine (spoorref20_Same.calls k _ _ t240 _ _ t244 true _ ?side1 ?side2 ?side3 ?side4 A8.out).mono ?_
    (case side1 => repeat (first | exact (Kd.R_reads' HO242.out).2.2 | (with_reducible refine Kd.C_alloc ?_ _) | (with_reducible refine Kd.C_drewN ?_ _) | (with_reducible refine Kd.C_drew ?_)))
    (case side2 => exact (Kd.R_reads' HO242.out).2.1)
    (case side3 => repeat (first | exact (Kd.R_reads' HO246.out).2.2 | (with_reducible refine Kd.C_alloc ?_ _) | (with_reducible refine Kd.C_drewN ?_ _) | (with_reducible refine Kd.C_drew ?_)))
    (case side4 => exact (Kd.R_reads' HO246.out).2.1)
    rintro e w' ⟨rfl, ⟨nd, rfl⟩⟩
    refine ⟨_, rfl, ?_⟩
    refine hK.out _ _ ⟨(blk_cell BK239.out 0).trans rfl, (blk_cell BK239.out 1).trans rfl⟩ (fun hHeld => ?_)
    clear hK K
    refine norm_ (a' := ?_) ?_ ?_
    rotate_left
    ·show Act.put _ (some 27) _ = _
     simp only [sP]
     rfl
    refine pure_ (i := 5) (N := some 28) (v := ?_) (a' := ?_) #[tr,tr,tr,tr,tr,tr,fa,fa,fa,fa,fa,fa,fa,fa,fa,fa,fa,fa,fa,fa,fa] rfl rfl (any_of HT_.out (by kernel_rfl)) (fun _ _ _ h => h) (Or.inl ⟨by rfl, ?_⟩) ?_ ?_
    rotate_left
    ·intro w'
     go_simp
     with_reducible rfl
    rotate_left
    ·simp only [sP]
     rfl
    refine pure_ (i := 6) (N := some 29) (v := ?_) (a' := ?_) #[tr,tr,tr,tr,tr,tr,tr,fa,fa,fa,fa,fa,fa,fa,fa,fa,fa,fa,fa,fa,fa] rfl rfl (any_of HT_.out (by kernel_rfl)) (fun _ _ _ h => h) (Or.inl ⟨by rfl, ?_⟩) ?_ ?_
    rotate_left
    ·intro w'
     go_simp
     with_reducible rfl
    rotate_left
    ·simp only [sP]
     rfl
    refine pure_ (i := 7) (N := some 30) (v := ?_) (a' := ?_) #[tr,tr,tr,tr,tr,tr,tr,tr,fa,fa,fa,fa,fa,fa,fa,fa,fa,fa,fa,fa,fa] rfl rfl (any_of HT_.out (by kernel_rfl)) (fun _ _ _ h => h) (Or.inl ⟨by rfl, ?_⟩) ?_ ?_
    rotate_left
    ·intro w'
     go_simp
     with_reducible rfl
    rotate_left
    ·simp only [sP]
     rfl
    refine pure_ (i := 8) (N := some 31) (v := ?_) (a' := ?_) #[tr,tr,tr,tr,tr,tr,tr,tr,tr,fa,fa,fa,fa,fa,fa,fa,fa,fa,fa,fa,fa] rfl rfl (any_of HT_.out (by kernel_rfl)) (fun _ _ _ h => h) (Or.inl ⟨by rfl, ?_⟩) ?_ ?_
    rotate_left
    ·intro w'
     go_simp
     with_reducible rfl
    rotate_left
    ·simp only [sP]
     rfl
    refine pure_ (i := 9) (N := some 32) (v := ?_) (a' := ?_) #[tr,tr,tr,tr,tr,tr,tr,tr,tr,tr,fa,fa,fa,fa,fa,fa,fa,fa,fa,fa,fa] rfl rfl (any_of HT_.out (by kernel_rfl)) (fun _ _ _ h => h) (Or.inl ⟨by rfl, ?_⟩) ?_ ?_
    rotate_left
    ·intro w'
     go_simp
     with_reducible rfl
    rotate_left
    ·simp only [sP]
     rfl
    refine pure_ (i := 10) (N := some 33) (v := ?_) (a' := ?_) #[tr,tr,tr,tr,tr,tr,tr,tr,tr,tr,tr,fa,fa,fa,fa,fa,fa,fa,fa,fa,fa] rfl rfl (any_of HT_.out (by kernel_rfl)) (fun _ _ _ h => h) (Or.inl ⟨by rfl, ?_⟩) ?_ ?_
    rotate_left
    ·intro w'
     go_simp
     with_reducible rfl
    rotate_left
    ·simp only [sP]
     rfl
    refine pure_ (i := 11) (N := some 34) (v := ?_) (a' := ?_) #[tr,tr,tr,tr,tr,tr,tr,tr,tr,tr,tr,tr,fa,fa,fa,fa,fa,fa,fa,fa,fa] rfl rfl (any_of HT_.out (by kernel_rfl)) (fun _ _ _ h => h) (Or.inl ⟨by rfl, ?_⟩) ?_ ?_
    rotate_left
    ·intro w'
     go_simp
     with_reducible rfl
    rotate_left
    ·simp only [sP]
     rfl
    refine pure_ (i := 13) (N := some 36) (v := ?_) (a' := ?_) #[tr,tr,tr,tr,tr,tr,tr,tr,tr,tr,tr,tr,fa,tr,fa,fa,fa,fa,fa,fa,fa] rfl rfl (any_of HT_.out (by kernel_rfl)) (fun _ _ _ h => h) (Or.inl ⟨by rfl, ?_⟩) ?_ ?_
    rotate_left
    ·intro w'
     go_simp
     with_reducible rfl
    rotate_left
    ·simp only [sP]
     rfl
    refine pure_ (i := 16) (N := some 39) (v := ?_) (a' := ?_) #[tr,tr,tr,tr,tr,tr,tr,tr,tr,tr,tr,tr,fa,tr,fa,fa,tr,fa,fa,fa,fa] rfl rfl (any_of HT_.out (by kernel_rfl)) (fun _ _ _ h => h) (Or.inl ⟨by rfl, ?_⟩) ?_ ?_
    rotate_left
    ·intro w'
     go_simp
     with_reducible rfl
    rotate_left
    ·simp only [sP]
     rfl
    refine take_ (i := 12) (N := some 35) (v := ?_) (a' := ?_) #[tr,tr,tr,tr,tr,tr,tr,tr,tr,tr,tr,tr,tr,tr,fa,fa,tr,fa,fa,fa,fa] rfl rfl (take_ofW HT_.out HW_.out (by kernel_rfl)) (fun _ _ _ h => h) (Or.inl ⟨by rfl, ?_⟩) hHeld ?_ ?_
    rotate_left
    ·rintro w' ⟨s0, s1⟩
     go_simp
     with_reducible rfl
    rotate_left
    ·simp only [sP]
     rfl
    refine take_ (i := 15) (N := some 38) (v := ?_) (a' := ?_) #[tr,tr,tr,tr,tr,tr,tr,tr,tr,tr,tr,tr,tr,tr,fa,tr,tr,fa,fa,fa,fa] rfl rfl (take_ofW HT_.out HW_.out (by kernel_rfl)) (fun _ _ _ h => h) (Or.inl ⟨by rfl, ?_⟩) hHeld ?_ ?_
    rotate_left
    ·rintro w' ⟨s0, s1⟩
     go_simp
     with_reducible rfl
    rotate_left
    ·simp only [sP]
     rfl
    refine one_ (i := 14) (N := some 37) #[tr,tr,tr,tr,tr,tr,tr,tr,tr,tr,tr,tr,tr,tr,tr,tr,tr,fa,fa,fa,fa] rfl rfl (one_of HT_.out (by kernel_rfl)) (by decide) (fun K hK => ?_)
    refine goes_ Try.func12 (by kernel_rfl) rfl #[.agg #[.int .i64 a0_0, .int .i64 a0_1], .slice A2 l2.length c2] (by rfl) rfl rfl gS ?_
    with_reducible refine (line_Check.calls k a0_0 a0_1 _ _ l2 t250 _ ?side1 ?side2 A11.out).mono ?_
    (case side1 => repeat (first | exact (Kd.C_below HR2.out (bw1 HB.out GE239.out)) | (with_reducible refine Kd.C_alloc ?_ _) | (with_reducible refine Kd.C_drewN ?_ _) | (with_reducible refine Kd.C_drew ?_)))
    (case side2 => exact HC2.out)
    rintro e w22 ⟨rfl, hb⟩
    refine ⟨_, rfl, ?_⟩
    replace HO242 := Ax (Kd.R_below (by (with_reducible repeat (first | apply Kd.R_alloc | apply Kd.R_drewN | apply Kd.R_drew)); exact HO242.out) hb)
    replace HO246 := Ax (Kd.R_below (by (with_reducible repeat (first | apply Kd.R_alloc | apply Kd.R_drewN | apply Kd.R_drew)); exact HO246.out) hb)
    replace BK239 := Bx0 BK239 hb
    replace HB := Bs1 HB hb GE239.out
    (try clear hb)
    refine hK.out _ _ ⟨(blk_cell BK239.out 0).trans rfl, (blk_cell BK239.out 1).trans rfl⟩ (fun hHeld => ?_)
    clear hK K
    refine norm_ (a' := ?_) ?_ ?_
    rotate_left
    ·show Act.put _ (some 37) _ = _
     simp only [sP]
     rfl
    refine one_ (i := 17) (N := some 40) #[tr,tr,tr,tr,tr,tr,tr,tr,tr,tr,tr,tr,tr,tr,tr,tr,tr,tr,fa,fa,fa] rfl rfl (one_of HT_.out (by kernel_rfl)) (by decide) (fun K hK => ?_)
    refine goes_ Try.func13 (by kernel_rfl) rfl #[.agg #[.int .i64 a0_0, .int .i64 a0_1], .slice A2 l2.length c2] (by rfl) rfl rfl gS ?_
    with_reducible refine (spoorref20_Check.calls k a0_0 a0_1 _ _ l2 t251 _ ?side1 ?side2 A12.out).mono ?_
    (case side1 => repeat (first | exact (Kd.C_below HR2.out HB.out) | (with_reducible refine Kd.C_alloc ?_ _) | (with_reducible refine Kd.C_drewN ?_ _) | (with_reducible refine Kd.C_drew ?_)))
    (case side2 => exact HC2.out)
    rintro e w23 ⟨rfl, hb⟩
    refine ⟨_, rfl, ?_⟩
    replace HO242 := Ax (Kd.R_below (by (with_reducible repeat (first | apply Kd.R_alloc | apply Kd.R_drewN | apply Kd.R_drew)); exact HO242.out) hb)
    replace HO246 := Ax (Kd.R_below (by (with_reducible repeat (first | apply Kd.R_alloc | apply Kd.R_drewN | apply Kd.R_drew)); exact HO246.out) hb)
    replace BK239 := Bx0 BK239 hb
    replace HB := Bs1 HB hb GE239.out
    (try clear hb)
    refine hK.out _ _ ⟨(blk_cell BK239.out 0).trans rfl, (blk_cell BK239.out 1).trans rfl⟩ (fun hHeld => ?_)
    clear hK K
    refine norm_ (a' := ?_) ?_ ?_
    rotate_left
    ·show Act.put _ (some 40) _ = _
     simp only [sP]
     rfl
    refine pure_ (i := 18) (N := some 41) (v := ?_) (a' := ?_) #[tr,tr,tr,tr,tr,tr,tr,tr,tr,tr,tr,tr,tr,tr,tr,tr,tr,tr,tr,fa,fa] rfl rfl (any_of HT_.out (by kernel_rfl)) (fun _ _ _ h => h) (Or.inl ⟨by rfl, ?_⟩) ?_ ?_
    rotate_left
    ·intro w'
     go_simp
     with_reducible rfl
    rotate_left
    ·simp only [sP]
     rfl
    refine pure_ (i := 19) (N := some 42) (v := ?_) (a' := ?_) #[tr,tr,tr,tr,tr,tr,tr,tr,tr,tr,tr,tr,tr,tr,tr,tr,tr,tr,tr,tr,fa] rfl rfl (any_of HT_.out (by kernel_rfl)) (fun _ _ _ h => h) (Or.inl ⟨by rfl, ?_⟩) ?_ ?_
    rotate_left
    ·intro w'
     go_simp
     with_reducible rfl
    rotate_left
    ·simp only [sP]
     rfl
    refine pure_ (i := 20) (N := some 6) (v := ?_) (a' := ?_) #[tr,tr,tr,tr,tr,tr,tr,tr,tr,tr,tr,tr,tr,tr,tr,tr,tr,tr,tr,tr,tr] rfl rfl (any_of HT_.out (by kernel_rfl)) (fun _ _ _ h => h) (Or.inl ⟨by rfl, ?_⟩) ?_ ?_
    rotate_left
    ·intro w'
     go_simp
     with_reducible rfl
    rotate_left
    ·simp only [sP]
     rfl
    refine done_ (done_of HT_.out (by kernel_rfl)) ?_
    try go_wp2
    go_ret
    exact ⟨eS, bw1 HB.out GE239.out⟩
   ·rw [if_neg c10] at H
    have c10b0 : (t243 == t247) = false := beq_eq_false_iff_ne.mpr c10
    have c10b1 : (t243 != t247) = true := bne_iff_ne.mpr c10
    exact absurd H (by simp)
  ·replace c9 := Bool.eq_false_iff.mpr c9
   subst c9
   have H1 : (none) = some r := by rw [if_neg (show ¬ (false = true) by decide)] at H; exact H
   clear H
   have H := H1
   clear H1
   exact absurd H (by simp)
 ·replace c7 := Bool.eq_false_iff.mpr c7
  subst c7
  have H1 : (none) = some r := by rw [if_neg (show ¬ (false = true) by decide)] at H; exact H
  clear H
  have H := H1
  clear H1
  exact absurd H (by simp)
mutual
def spoorlaw20_LineTells.j0 : Nat → List (S46) → Int → Int → Bool → Int → Int → Option (Bool)
 | 0, _, _, _, _, _, _ => none
 | k + 1, x1, x2, x10, x52, x262000, x262001 => if x52 = true then (none) else (spoorlaw20_LineTells.l0 k x2 x10 x1 (x1.length : Int) 0 x262000 x262001 0 0)
def spoorlaw20_LineTells.l0 : Nat → Int → Int → List (S46) → Int → Int → Int → Int → Int → Int → Option (Bool)
 | 0, _, _, _, _, _, _, _, _, _ => none
 | k + 1, x2, x10, x54, x55, x56, x262000, x262001, x264000, x264001 => if x56 < x55 then (if 0 ≤ x56 then (if x56 < (x54.length : Int) then (if ((rd_T46 x54 x56).f0) ≤ x2 then (spoorlaw20_LineTells.l0 k x2 x10 x54 x55 (wrap64 (x56 + 1)) x262000 x262001 ((rd_T46 x54 x56).f1.f0) ((rd_T46 x54 x56).f1.f1)) else (spoorlaw20_LineTells.l0 k x2 x10 x54 x55 (wrap64 (x56 + 1)) x262000 x262001 x264000 x264001)) else (none)) else (none)) else (if x10 = 0 then (some (x262000 == x264000 && (x262001 == x264001))) else (some true))
end
def spoorlaw20_LineTells.f (k : Nat) (a0_0 : Int) (a0_1 : Int) (l1 : List (S46)) (a2 : Int) : Option (Bool) := (spoorlaw20_lives.f k).bind fun t253 => (if t253 = true then ((line_Make.f k a0_0 a0_1 l1).bind fun bt254 => (if bt254.2 = 0 then ((line_At.f k a0_0 a0_1 bt254.1 a2).bind fun bt258 => ((line_Check.f k a0_0 a0_1 bt254.1).bind fun t262 => (if t262 = 0 then (if a0_0 ≤ a2 then (spoorlaw20_LineTells.j0 k l1 a2 bt258.2.2 ((bt258.2.2 == 0) != (decide (a2 ≤ a0_1))) bt258.1 bt258.2.1) else (spoorlaw20_LineTells.j0 k l1 a2 bt258.2.2 ((bt258.2.2 == 0) != false) bt258.1 bt258.2.1)) else (spoorlaw20_LineTells.j0 k l1 a2 bt258.2.2 true bt258.1 bt258.2.1)))) else (some ((bt254.1.length : Int) == 0)))) else (none))
end Go.Proofs.Ytghklhdooemjdaa.Q
end
