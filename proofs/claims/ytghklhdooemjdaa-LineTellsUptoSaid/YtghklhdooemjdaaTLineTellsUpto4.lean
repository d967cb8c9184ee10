/- What is made is right, and tells at each time the verdict of the last mark that is not later: of a window and marks of bulk at most 1048576. -/
import Derived.Test.YtghklhdooemjdaaRows
import Derived.WalkKit
import Derived.ProofKit
import Derived.OpenShut
import Derived.ShutString
import Derived.ChangeOld
import Derived.Below
import Derived.SizedLaws
import Derived.JoinedCond
import Derived.Test.YtghklhdooemjdaaTLineTellsUpto3
section
namespace Go.Proofs.Ytghklhdooemjdaa.Pure
set_option linter.unusedVariables false
open Go.RowKit Go.Proofs.Ytghklhdooemjdaa.Q Go.Proofs.YtghklhdooemjdaaW.PrintWords Go.Proofs.YtghklhdooemjdaaW.PrintLast Go.Proofs.Ytghklhdooemjdaa.Base Go.Proofs.Ytghklhdooemjdaa.Open Go.Proofs.Ytghklhdooemjdaa.Line
theorem lives_ev : Ev spoorlaw20_lives.f true := Ev.of spoorlaw20_lives.mono (k := 200) (by decide +kernel)
theorem tells_l (t no : Int) (l : List (S46)) (v0 v1 : Int) (hl : l.length ≤ 1048576) : ∀ (r : List (S46)) (i : Nat) (acc : S35), l.drop i = r → Ev (fun k => spoorlaw20_LineTells.l0 k t no l (l.length : Int) (i : Int) v0 v1 acc.f0 acc.f1)
      (if no = 0 then (v0 == (r.foldl (wantF t) acc).f0 && (v1 == (r.foldl (wantF t) acc).f1)) else true)
  | [], i, acc, hd => by
    have h1 : l.length ≤ i := List.drop_eq_nil_iff.1 hd
    refine Ev.succ ?_
    simp only [spoorlaw20_LineTells.l0]
    refine Ev.neg (by omega) ?_
    by_cases c : no = 0
    · simp only [if_pos c]
      exact Ev.const rfl
    · simp only [if_neg c]
      exact Ev.const rfl
  | m :: r, i, acc, hd => by
    have hlt := dlt hd
    refine Ev.succ ?_
    simp only [spoorlaw20_LineTells.l0, rdM hd]
    refine Ev.pos (by omega) (Ev.pos (by omega) (Ev.pos (by omega) ?_))
    rw [w64 (by omega) (by omega), show ((i : Int) + 1) = ((i + 1 : Nat) : Int) by omega]
    by_cases c : m.f0 ≤ t
    · refine Ev.pos c ?_
      have e : wantF t acc m = m.f1 := if_pos c
      rw [List.foldl_cons, e]
      exact tells_l t no l v0 v1 hl r (i + 1) m.f1 (dnext hd)
    · refine Ev.neg c ?_
      have e : wantF t acc m = acc := if_neg c
      rw [List.foldl_cons, e]
      exact tells_l t no l v0 v1 hl r (i + 1) acc (dnext hd)
theorem LineTellsUpto : spoorlaw20_LineTells.PureUpto := by
  intro w0 w1 l t h0 h1 h2 hB
  have hlen : l.length + 1 ≤ (muAll mu46) l := muAll_len (fun a => by unfold mu46; omega) l
  have hwf : ∀ x ∈ l, x.f0 ≤ 9223372036854775807 := fun x hx => (wf_i64 (h1.1 x hx).1).2
  have hl : l.length ≤ 1048576 := by omega
  clear h0 h1 h2 hB hlen
  refine Ev.rounds (g := fun k => spoorlaw20_LineTells.f k w0 w1 l t) (r := true) ?_
  simp only [spoorlaw20_LineTells.f]
  refine Ev.bind lives_ev (Ev.pos rfl (Ev.bind (make_ev w0 w1 l (Nat.le_trans (Nat.mul_le_mul_right 32 hl) (by decide))) ?_))
  by_cases c : (makeV w0 w1 l).2 = 0
  case neg =>
    refine Ev.neg c (Ev.const ?_)
    rw [make_no w0 w1 l c]
    rfl
  obtain ⟨ok, hval⟩ := make_ok w0 w1 l hwf c
  refine Ev.pos c ?_
  generalize (makeV w0 w1 l).1 = L at ok hval ⊢
  have hB := (line_iff w0 w1 L).2 ok
  have fin : ∀ v0 v1 no : Int, (no = 0 → v0 = (l.foldl (wantF t) ⟨0, 0⟩).f0 ∧ v1 = (l.foldl (wantF t) ⟨0, 0⟩).f1) → Ev (fun k => spoorlaw20_LineTells.j0 k l t no false v0 v1) true := fun v0 v1 no hv => by
    refine Ev.succ ?_
    simp only [spoorlaw20_LineTells.j0]
    refine Ev.neg (by simp) ?_
    refine Ev.to (tells_l t no l v0 v1 hl l 0 ⟨0, 0⟩ rfl) ?_
    by_cases n0 : no = 0
    · obtain ⟨g1, g2⟩ := hv n0
      rw [if_pos n0, ← g1, ← g2]
      simp
    · rw [if_neg n0]
  refine Ev.bind (at_ev w0 w1 L ok.bnd t) (Ev.bind (check_ev L ok.bnd w0 w1) (Ev.pos (by rw [hB]; rfl) ?_))
  unfold atV
  rw [if_pos hB]
  by_cases d : t < w0 ∨ w1 < t
  · rw [if_pos d]
    by_cases e : w0 ≤ t
    · refine Ev.pos e ?_
      rw [decide_eq_false (show ¬ t ≤ w1 by omega)]
      exact fin 0 0 1 (fun h => by cases h)
    · refine Ev.neg e ?_
      exact fin 0 0 1 (fun h => by cases h)
  · rw [if_neg d]
    refine Ev.pos (by omega) ?_
    rw [decide_eq_true (show t ≤ w1 by omega)]
    refine fin _ _ 0 (fun _ => ?_)
    rw [hval t (by omega) (by omega)]
    exact ⟨rfl, rfl⟩
end Go.Proofs.Ytghklhdooemjdaa.Pure
end
section
namespace Go.Proofs.Ytghklhdooemjdaa.lineTellsUpto
open Go.ChangeShapes Go.WideShapes Go.ChangeAt Go.RowKit Go.Proofs.Ytghklhdooemjdaa.Open Go.Proofs.Ytghklhdooemjdaa.Q
open Go.ChangeMaps (open_string shut_string)
set_option linter.unusedVariables false
theorem own : ownKnob Try.prog.godebug = none := by kernel_rfl
theorem laidOut : laidOutB Try.prog = true := by kernel_rfl
set_option maxRecDepth 100000 in
theorem contract (H : Type) (enc : TypeId × Value → H) (W : World) (base : Nat) (args : Array Value) (ds gs : List (DataW H)) (before : List MemPlace)
    (hval : ∀ (j : Nat) t v, Try.f5.params[j]? = some t → args[j]? = some v → Value.okWide Try.prog W .any base t v)
    (hW : DataW.Whole enc Try.prog Try.f5.params.toList Rows.lineTellsSpec.vars false W args.toList ds gs before) (hk : Rows.uptoSmall H (ds ++ gs) = true) :
    Calls Try.prog 5 args W fun e W' => ∃ v, e = .returned v ∧ Rows.lineTellsSpec.post enc Try.prog Try.f5 false true false false W args v W' := by
  have hW' := hW
  obtain ⟨p, q, hA0, hV, rfl, hfz, hnd⟩ := hW
  have hA : DataW.TrodAll enc Try.prog W 0 (fun _ => true) true Try.f5.params.toList args.toList ds p := hA0
  rw [Try.params5] at hA hval
  obtain ⟨v0, vs0, d0, ds0, p0, q0, hargs, rfl, rfl, h0, r0⟩ := trodAll_cons hA
  obtain ⟨v1, vs1, d1, ds1, p1, q1, rfl, rfl, rfl, h1, r1⟩ := trodAll_cons r0
  obtain ⟨v2, vs2, d2, ds2, p2, q2, rfl, rfl, rfl, h2, r2⟩ := trodAll_cons r1
  obtain ⟨rfl, rfl, rfl⟩ := trodAll_nil r2
  obtain rfl : args = #[v0, v1, v2] := by cases args; simp_all
  obtain ⟨rfl, rfl⟩ := trodVars_none hV
  have k0 := h0
  have lt0 : ∀ x ∈ p0, x.block < W.heap.size := by obtain ⟨m, hm⟩ := k0; exact DataW.trod_lt m _ _ _ hm
  obtain ⟨fu0, hf0⟩ := h0
  obtain ⟨b0, K0, o0, u0⟩ := opn23 enc W _ _ _ _ _ hf0
  have z0 := k23_open K0
  obtain rfl : v0 = .agg #[.int .i64 b0.f0, .int .i64 b0.f1] := by obtain ⟨x, rfl, _⟩ := okWide_struct Try.underlying23 (hval 0 23 v0 rfl rfl); exact congrArg Value.agg (Array.toList_inj.mp (show x.toList = [.int .i64 b0.f0, .int .i64 b0.f1] from z0))
  have k1 := h1
  have lt1 : ∀ x ∈ p1, x.block < W.heap.size := by obtain ⟨m, hm⟩ := k1; exact DataW.trod_lt m _ _ _ hm
  obtain ⟨fu1, hf1⟩ := h1
  obtain ⟨b1, K1, o1, u1⟩ := (opens_slice opn46 Try.underlying24 (by kernel_rfl) 46) enc W _ _ _ _ _ hf1
  obtain ⟨A1, c1, z1, lc1, C1⟩ := K1
  obtain rfl : v1 = .slice A1 b1.length c1 := by obtain ⟨x, y, z, rfl⟩ := okWide_slice Try.underlying24 (hval 1 24 v1 rfl rfl); exact (List.cons.inj (show [Value.slice x y z] = [Value.slice A1 b1.length c1] from z1)).1
  have k2 := h2
  have lt2 : ∀ x ∈ p2, x.block < W.heap.size := by obtain ⟨m, hm⟩ := k2; exact DataW.trod_lt m _ _ _ hm
  obtain ⟨fu2, hf2⟩ := h2
  obtain ⟨b2, K2, o2, u2⟩ := (opens_int Try.underlying2) enc W _ _ _ _ _ hf2
  obtain rfl : v2 = .int .i64 b2 := by obtain ⟨x, rfl⟩ := okWide_int Try.underlying2 (hval 2 2 v2 rfl rfl); exact (List.cons.inj (show [Value.int .i64 x] = [Value.int .i64 b2] from K2)).1
  have hB : mu23 b0 + (muAll mu46) b1 + mu1 b2 ≤ 1048576 := by
    have z : Rows.uptoBulkAll ([d0, d1, d2] ++ []) ≤ 1048576 := of_decide_eq_true hk
    simp only [List.append_nil, Rows.uptoBulkAll] at z
    have m0 : mu23 b0 ≤ Rows.uptoBulk d0 := u0
    have m1 : (muAll mu46) b1 ≤ Rows.uptoBulk d1 := u1
    have m2 : mu1 b2 ≤ Rows.uptoBulk d2 := u2
    omega
  obtain ⟨k, h⟩ := Pure.LineTellsUpto b0.f0 b0.f1 b1 b2 o0 o1 o2 hB
  refine (spoorlaw20_LineTells.calls k b0.f0 b0.f1 A1 c1 b1 b2 true W C1 lc1 h).mono fun e W' ⟨he, hd⟩ => ?_
  have bel := hd
  subst he
  exact ⟨_, rfl, _, _, _, [], _, [], hW', trodAll_mk1 (shut_bool Try.underlying4 _), (trodAll_cons_mk (Below.trod laidOut (by kernel_rfl) (of_decide_eq_true (by kernel_rfl)) k0 bel lt0) (trodAll_cons_mk (Below.trod laidOut (by kernel_rfl) (of_decide_eq_true (by kernel_rfl)) k1 bel lt1) (trodAll_cons_mk (Below.trod laidOut (by kernel_rfl) (of_decide_eq_true (by kernel_rfl)) k2 bel lt2) trodAll_mk0))), rfl, bel.frame _, fun h => by cases h⟩
set_option maxRecDepth 100000 in
theorem lifted (os : Os) (started : os.Started) (H : Type) (enc : TypeId × Value → H) (F : Stop.Interp) :
    ReturnsInHanded {} Try.checked os 5 .any ((Rows.OpenSpec.upto Rows.lineTellsSpec).pre6 enc Try.prog Try.f5 Rows.lineTellsUptoRow.domain false) (((Rows.OpenSpec.upto Rows.lineTellsSpec).at F).post enc Try.prog Try.f5 false true false false) := by
  refine returnsInHanded_of_cond (C := Try.checked) (s := Rows.OpenSpec.upto Rows.lineTellsSpec) (k := Rows.uptoSmall) rfl own started (by kernel_rfl) Try.func5
    (OpenSpec.witness (enc := enc) (C := Try.checked) (s := Rows.OpenSpec.upto Rows.lineTellsSpec) (k := Rows.uptoSmall) rfl false ⟨#[], #[.agg #[.int .i64 0, .int .i64 0], .slice none 0 0, .int .i64 0], []⟩ 8 (by kernel_rfl) (by kernel_rfl) (by kernel_rfl)
      (x := ([.agg [.lit (.int .i64 0), .lit (.int .i64 0)], .nil, .lit (.int .i64 0)], [], [])) (by kernel_rfl) rfl (by kernel_rfl)) ?_
  intro W base args ds gs before hval hW _ hk _
  exact contract H enc W base args ds gs before hval hW hk
theorem over : Rows.lineTellsUptoRow.holds Try.pinned (Rows.OpenSpec.upto Rows.lineTellsSpec) :=
  OpenClaim.holds_of_cond 5 Try.f5 rfl rfl rfl rfl rfl rfl rfl ⟨rfl, rfl, rfl, rfl, rfl⟩ rfl rfl rfl rfl rfl (by kernel_rfl) Try.func5 (by kernel_rfl)
    (of_decide_eq_true (by kernel_rfl)) (by unfold Func.isWrapper; first | (rw [if_pos (by decide +kernel)]; kernel_rfl) | (rw [if_neg (by decide +kernel)]; exact ⟨rfl, rfl⟩))
    (fun os started H enc _ F => lifted os started H enc F)
theorem proved : Rows.LineTellsUptoSaid := over
#print axioms proved
end Go.Proofs.Ytghklhdooemjdaa.lineTellsUpto
namespace Go.Proofs.Ytghklhdooemjdaa
theorem lineTellsUpto_holds : Rows.LineTellsUptoSaid := lineTellsUpto.proved
end Go.Proofs.Ytghklhdooemjdaa
end
