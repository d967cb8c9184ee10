-- Printed by this session's program wip/tools/mp.sh out of the translation.
import Derived.Test.YtnolpgphdnbfaaaRows
import Derived.Test.YtnolpgphdnbfaaaQx13
import Derived.Test.YtnolpgphdnbfaaaQOpens
import Derived.Test.YtnolpgphdnbfaaaPureCutterBodiesUpto
import Derived.WalkKit
import Derived.ProofKit
import Derived.OpenShut
import Derived.ShutString
import Derived.ChangeOld
import Derived.Below
import Derived.SizedLaws
import Derived.JoinedCond
namespace Go.Proofs.Ytnolpgphdnbfaaa.cutterBodiesUpto
open Go.ChangeShapes Go.WideShapes Go.ChangeAt Go.RowKit Go.Proofs.Ytnolpgphdnbfaaa.Open Go.Proofs.Ytnolpgphdnbfaaa.Q
open Go.ChangeMaps (open_string shut_string)
set_option linter.unusedVariables false
theorem own : ownKnob Try.prog.godebug = none := by kernel_rfl
theorem laidOut : laidOutB Try.prog = true := by kernel_rfl
theorem contract (H : Type) (enc : TypeId × Value → H) (W : World) (base : Nat) (args : Array Value) (ds gs : List (DataW H)) (before : List MemPlace)
    (hval : ∀ (j : Nat) t v, Try.f5.params[j]? = some t → args[j]? = some v → Value.okWide Try.prog W .any base t v)
    (hW : DataW.Whole enc Try.prog Try.f5.params.toList Rows.cutterBodiesSpec.vars false W args.toList ds gs before) (hk : Rows.uptoSmall H (ds ++ gs) = true) :
    Calls Try.prog 5 args W fun e W' => ∃ v, e = .returned v ∧ Rows.cutterBodiesSpec.post enc Try.prog Try.f5 false true false false W args v W' := by
  have hW' := hW
  obtain ⟨p, q, hA0, hV, rfl, hfz, hnd⟩ := hW
  have hA : DataW.TrodAll enc Try.prog W 0 (fun _ => true) true Try.f5.params.toList args.toList ds p := hA0
  rw [Try.params5] at hA hval
  obtain ⟨v0, vs0, d0, ds0, p0, q0, hargs, rfl, rfl, h0, r0⟩ := trodAll_cons hA
  obtain ⟨v1, vs1, d1, ds1, p1, q1, rfl, rfl, rfl, h1, r1⟩ := trodAll_cons r0
  obtain ⟨rfl, rfl, rfl⟩ := trodAll_nil r1
  obtain rfl : args = #[v0, v1] := by cases args; simp_all
  obtain ⟨rfl, rfl⟩ := trodVars_none hV
  have k0 := h0
  have lt0 : ∀ x ∈ p0, x.block < W.heap.size := by obtain ⟨m, hm⟩ := k0; exact DataW.trod_lt m _ _ _ hm
  obtain ⟨fu0, hf0⟩ := h0
  obtain ⟨b0, K0, o0, u0⟩ := (opens_string Try.underlying9) enc W _ _ _ _ _ hf0
  obtain rfl : v0 = .string b0 := by obtain ⟨x, rfl⟩ := okWide_string Try.underlying9 (hval 0 9 v0 rfl rfl); exact (List.cons.inj (show [Value.string x] = [Value.string b0] from K0)).1
  have k1 := h1
  have lt1 : ∀ x ∈ p1, x.block < W.heap.size := by obtain ⟨m, hm⟩ := k1; exact DataW.trod_lt m _ _ _ hm
  obtain ⟨fu1, hf1⟩ := h1
  obtain ⟨b1, K1, o1, u1⟩ := (opens_slice (opens_string Try.underlying9) Try.underlying34 (by kernel_rfl) 9) enc W _ _ _ _ _ hf1
  obtain ⟨A1, c1, z1, lc1, C1⟩ := K1
  obtain rfl : v1 = .slice A1 b1.length c1 := by obtain ⟨x, y, z, rfl⟩ := okWide_slice Try.underlying34 (hval 1 34 v1 rfl rfl); exact (List.cons.inj (show [Value.slice x y z] = [Value.slice A1 b1.length c1] from z1)).1
  have hB : muStr b0 + (muAll muStr) b1 ≤ 1048576 := by
    have z : Rows.uptoBulkAll ([d0, d1] ++ []) ≤ 1048576 := of_decide_eq_true hk
    simp only [List.append_nil, Rows.uptoBulkAll] at z
    have m0 : muStr b0 ≤ Rows.uptoBulk d0 := u0
    have m1 : (muAll muStr) b1 ≤ Rows.uptoBulk d1 := u1
    omega
  obtain ⟨k, h⟩ := Pure.CutterBodiesUpto b0 b1 o0 o1 hB
  refine (spoorlaw12_CutterBodies.calls k b0 A1 c1 b1 true W C1 lc1 h).mono fun e W' ⟨he, hd⟩ => ?_
  have bel := hd
  subst he
  exact ⟨_, rfl, _, _, _, [], _, [], hW', trodAll_mk1 (shut_bool Try.underlying4 _), (trodAll_cons_mk (Below.trod laidOut (by kernel_rfl) (of_decide_eq_true (by kernel_rfl)) k0 bel lt0) (trodAll_cons_mk (Below.trod laidOut (by kernel_rfl) (of_decide_eq_true (by kernel_rfl)) k1 bel lt1) trodAll_mk0)), rfl, bel.frame _, fun h => by cases h⟩
set_option maxRecDepth 100000 in
theorem lifted (os : Os) (started : os.Started) (H : Type) (enc : TypeId × Value → H) (F : Stop.Interp) :
    ReturnsInHanded {} Try.checked os 5 .any ((Rows.OpenSpec.upto Rows.cutterBodiesSpec).pre6 enc Try.prog Try.f5 Rows.cutterBodiesUptoRow.domain false) (((Rows.OpenSpec.upto Rows.cutterBodiesSpec).at F).post enc Try.prog Try.f5 false true false false) := by
  refine returnsInHanded_of_cond (C := Try.checked) (s := Rows.OpenSpec.upto Rows.cutterBodiesSpec) (k := Rows.uptoSmall) rfl own started (by kernel_rfl) Try.func5
    (OpenSpec.witness (enc := enc) (C := Try.checked) (s := Rows.OpenSpec.upto Rows.cutterBodiesSpec) (k := Rows.uptoSmall) rfl false ⟨#[], #[.string ByteArray.empty, .slice none 0 0], []⟩ 8 (by kernel_rfl) (by kernel_rfl) (by kernel_rfl)
      (x := ([.lit (.string []), .nil], [], [])) (by kernel_rfl) rfl (by kernel_rfl)) ?_
  intro W base args ds gs before hval hW _ hk _
  exact contract H enc W base args ds gs before hval hW hk
theorem over : Rows.cutterBodiesUptoRow.holds Try.pinned (Rows.OpenSpec.upto Rows.cutterBodiesSpec) :=
  OpenClaim.holds_of_cond 5 Try.f5 rfl rfl rfl rfl rfl rfl rfl ⟨rfl, rfl, rfl, rfl, rfl⟩ rfl rfl rfl rfl rfl (by kernel_rfl) Try.func5 (by kernel_rfl)
    (of_decide_eq_true (by kernel_rfl)) (by unfold Func.isWrapper; first | (rw [if_pos (by decide +kernel)]; kernel_rfl) | (rw [if_neg (by decide +kernel)]; exact ⟨rfl, rfl⟩))
    (fun os started H enc _ F => lifted os started H enc F)
theorem proved : Rows.CutterBodiesUptoSaid := over
#print axioms proved
end Go.Proofs.Ytnolpgphdnbfaaa.cutterBodiesUpto
namespace Go.Proofs.Ytnolpgphdnbfaaa
/-- The row, under a short name, for the claim. -/
theorem cutterBodiesUpto_holds : Rows.CutterBodiesUptoSaid := cutterBodiesUpto.proved
end Go.Proofs.Ytnolpgphdnbfaaa
