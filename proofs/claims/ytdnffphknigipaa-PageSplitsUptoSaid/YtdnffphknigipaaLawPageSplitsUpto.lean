-- Printed by this session's program wip/tools/mp.sh out of the translation.
import Derived.Test.YtdnffphknigipaaRows
import Derived.Test.YtdnffphknigipaaQx13
import Derived.Test.YtdnffphknigipaaQOpens
import Derived.Test.YtdnffphknigipaaPurePageSplitsUpto
import Derived.WalkKit
import Derived.ProofKit
import Derived.OpenShut
import Derived.ShutString
import Derived.ChangeOld
import Derived.Below
import Derived.SizedLaws
import Derived.JoinedCond
namespace Go.Proofs.Ytdnffphknigipaa.pageSplitsUpto
open Go.ChangeShapes Go.WideShapes Go.ChangeAt Go.RowKit Go.Proofs.Ytdnffphknigipaa.Open Go.Proofs.Ytdnffphknigipaa.Q
open Go.ChangeMaps (open_string shut_string)
set_option linter.unusedVariables false
theorem own : ownKnob Try.prog.godebug = none := by kernel_rfl
theorem laidOut : laidOutB Try.prog = true := by kernel_rfl
theorem contract (H : Type) (enc : TypeId × Value → H) (W : World) (base : Nat) (args : Array Value) (ds gs : List (DataW H)) (before : List MemPlace)
    (hval : ∀ (j : Nat) t v, Try.f4.params[j]? = some t → args[j]? = some v → Value.okWide Try.prog W .any base t v)
    (hW : DataW.Whole enc Try.prog Try.f4.params.toList Rows.pageSplitsSpec.vars false W args.toList ds gs before) (hk : Rows.uptoSmall H (ds ++ gs) = true) :
    Calls Try.prog 4 args W fun e W' => ∃ v, e = .returned v ∧ Rows.pageSplitsSpec.post enc Try.prog Try.f4 false true false false W args v W' := by
  have hW' := hW
  obtain ⟨p, q, hA0, hV, rfl, hfz, hnd⟩ := hW
  have hA : DataW.TrodAll enc Try.prog W 0 (fun _ => true) true Try.f4.params.toList args.toList ds p := hA0
  rw [Try.params4] at hA hval
  obtain ⟨v0, vs0, d0, ds0, p0, q0, hargs, rfl, rfl, h0, r0⟩ := trodAll_cons hA
  obtain ⟨v1, vs1, d1, ds1, p1, q1, rfl, rfl, rfl, h1, r1⟩ := trodAll_cons r0
  obtain ⟨v2, vs2, d2, ds2, p2, q2, rfl, rfl, rfl, h2, r2⟩ := trodAll_cons r1
  obtain ⟨rfl, rfl, rfl⟩ := trodAll_nil r2
  obtain rfl : args = #[v0, v1, v2] := by cases args; simp_all
  obtain ⟨rfl, rfl⟩ := trodVars_none hV
  have k0 := h0
  have lt0 : ∀ x ∈ p0, x.block < W.heap.size := by obtain ⟨m, hm⟩ := k0; exact DataW.trod_lt m _ _ _ hm
  obtain ⟨fu0, hf0⟩ := h0
  obtain ⟨b0, K0, o0, u0⟩ := (opens_int Try.underlying22) enc W _ _ _ _ _ hf0
  obtain rfl : v0 = .int .u64 b0 := by obtain ⟨x, rfl⟩ := okWide_int Try.underlying22 (hval 0 22 v0 rfl rfl); exact (List.cons.inj (show [Value.int .u64 x] = [Value.int .u64 b0] from K0)).1
  have k1 := h1
  have lt1 : ∀ x ∈ p1, x.block < W.heap.size := by obtain ⟨m, hm⟩ := k1; exact DataW.trod_lt m _ _ _ hm
  obtain ⟨fu1, hf1⟩ := h1
  obtain ⟨b1, K1, o1, u1⟩ := (opens_string Try.underlying9) enc W _ _ _ _ _ hf1
  obtain rfl : v1 = .string b1 := by obtain ⟨x, rfl⟩ := okWide_string Try.underlying9 (hval 1 9 v1 rfl rfl); exact (List.cons.inj (show [Value.string x] = [Value.string b1] from K1)).1
  have k2 := h2
  have lt2 : ∀ x ∈ p2, x.block < W.heap.size := by obtain ⟨m, hm⟩ := k2; exact DataW.trod_lt m _ _ _ hm
  obtain ⟨fu2, hf2⟩ := h2
  obtain ⟨b2, K2, o2, u2⟩ := (opens_slice (opens_string Try.underlying9) Try.underlying31 (by kernel_rfl) 9) enc W _ _ _ _ _ hf2
  obtain ⟨A2, c2, z2, lc2, C2⟩ := K2
  obtain rfl : v2 = .slice A2 b2.length c2 := by obtain ⟨x, y, z, rfl⟩ := okWide_slice Try.underlying31 (hval 2 31 v2 rfl rfl); exact (List.cons.inj (show [Value.slice x y z] = [Value.slice A2 b2.length c2] from z2)).1
  have hB : mu1 b0 + muStr b1 + (muAll muStr) b2 ≤ 1048576 := by
    have z : Rows.uptoBulkAll ([d0, d1, d2] ++ []) ≤ 1048576 := of_decide_eq_true hk
    simp only [List.append_nil, Rows.uptoBulkAll] at z
    have m0 : mu1 b0 ≤ Rows.uptoBulk d0 := u0
    have m1 : muStr b1 ≤ Rows.uptoBulk d1 := u1
    have m2 : (muAll muStr) b2 ≤ Rows.uptoBulk d2 := u2
    omega
  obtain ⟨k, h⟩ := Pure.PageSplitsUpto b0 b1 b2 o0 o1 o2 hB
  refine (spoorlaw05_PageSplits.calls k b0 b1 A2 c2 b2 true W C2 lc2 h).mono fun e W' ⟨he, hd⟩ => ?_
  have bel := hd
  subst he
  exact ⟨_, rfl, _, _, _, [], _, [], hW', trodAll_mk1 (shut_bool Try.underlying4 _), (trodAll_cons_mk (Below.trod laidOut (by kernel_rfl) (of_decide_eq_true (by kernel_rfl)) k0 bel lt0) (trodAll_cons_mk (Below.trod laidOut (by kernel_rfl) (of_decide_eq_true (by kernel_rfl)) k1 bel lt1) (trodAll_cons_mk (Below.trod laidOut (by kernel_rfl) (of_decide_eq_true (by kernel_rfl)) k2 bel lt2) trodAll_mk0))), rfl, bel.frame _, fun h => by cases h⟩
set_option maxRecDepth 100000 in
theorem lifted (os : Os) (started : os.Started) (H : Type) (enc : TypeId × Value → H) (F : Stop.Interp) :
    ReturnsInHanded {} Try.checked os 4 .any ((Rows.OpenSpec.upto Rows.pageSplitsSpec).pre6 enc Try.prog Try.f4 Rows.pageSplitsUptoRow.domain false) (((Rows.OpenSpec.upto Rows.pageSplitsSpec).at F).post enc Try.prog Try.f4 false true false false) := by
  refine returnsInHanded_of_cond (C := Try.checked) (s := Rows.OpenSpec.upto Rows.pageSplitsSpec) (k := Rows.uptoSmall) rfl own started (by kernel_rfl) Try.func4
    (OpenSpec.witness (enc := enc) (C := Try.checked) (s := Rows.OpenSpec.upto Rows.pageSplitsSpec) (k := Rows.uptoSmall) rfl false ⟨#[], #[.int .u64 0, .string ByteArray.empty, .slice none 0 0], []⟩ 8 (by kernel_rfl) (by kernel_rfl) (by kernel_rfl)
      (x := ([.lit (.int .u64 0), .lit (.string []), .nil], [], [])) (by kernel_rfl) rfl (by kernel_rfl)) ?_
  intro W base args ds gs before hval hW _ hk _
  exact contract H enc W base args ds gs before hval hW hk
theorem over : Rows.pageSplitsUptoRow.holds Try.pinned (Rows.OpenSpec.upto Rows.pageSplitsSpec) :=
  OpenClaim.holds_of_cond 4 Try.f4 rfl rfl rfl rfl rfl rfl rfl ⟨rfl, rfl, rfl, rfl, rfl⟩ rfl rfl rfl rfl rfl (by kernel_rfl) Try.func4 (by kernel_rfl)
    (of_decide_eq_true (by kernel_rfl)) (by unfold Func.isWrapper; first | (rw [if_pos (by decide +kernel)]; kernel_rfl) | (rw [if_neg (by decide +kernel)]; exact ⟨rfl, rfl⟩))
    (fun os started H enc _ F => lifted os started H enc F)
theorem proved : Rows.PageSplitsUptoSaid := over
#print axioms proved
end Go.Proofs.Ytdnffphknigipaa.pageSplitsUpto
namespace Go.Proofs.Ytdnffphknigipaa
/-- The row, under a short name, for the claim. -/
theorem pageSplitsUpto_holds : Rows.PageSplitsUptoSaid := pageSplitsUpto.proved
end Go.Proofs.Ytdnffphknigipaa
