/- The law AddrBetween: the addresses of a prefix are those from its own up to its last one; one that covers another one has its first and its last address, and no more bits. -/
import Derived.Test.YtafclgjnomocdaaQpAddrBetween
import Derived.Test.YtafclgjnomocdaaAddrN
import Derived.Test.YtafclgjnomocdaaAddrS
import Derived.Test.YtafclgjnomocdaaQx12
namespace Go.Proofs.Ytafclgjnomocdaa.Pure
set_option linter.unusedVariables false
open Go.RowKit Go.Proofs.Ytafclgjnomocdaa.Q Go.Proofs.YtafclgjnomocdaaW.PrintWords Go.Proofs.YtafclgjnomocdaaW.PrintLast Go.Proofs.Ytafclgjnomocdaa.Base Go.Proofs.Ytafclgjnomocdaa.Addr

theorem btw2 (s1 : Bool) {n : Nat} (hn : n < 340282366920938463463374607431768211456) (len1 : Int) (s2 : Bool) {m : Nat} (hm : m < 340282366920938463463374607431768211456) (len2 : Int) (x y : Int) (h1 : okP s1 n len1) (h : ¬ (okP s2 m len2 ∧ s2 = s1)) :
    Ev (fun k => spoorlaw09_AddrBetween.j2 k true s1 (hi n) (lo n) len1 s2 (hi m) (lo m) len2 x y) true := by
  refine Ev.succ ?_
  simp only [spoorlaw09_AddrBetween.j2]
  have c1 : ¬ coversP s1 n len1 s2 m len2 := fun q => h ⟨q.1, q.2.1.2.1.symm⟩
  have c2 : ¬ coversP s2 m len2 s1 n len1 := fun q => h ⟨q.2.1.1, q.2.1.2.1⟩
  refine Ev.pos trivial (Ev.bind (covers_ev s1 hn len1 s2 hm len2) (Ev.neg (by rw [decide_eq_false c1]; simp) (Ev.bind (covers_ev s2 hm len2 s1 hn len1) (Ev.const ?_))))
  rw [decide_eq_false c2]; rfl
theorem btw1 (s1 : Bool) {n : Nat} (hn : n < 340282366920938463463374607431768211456) (len1 : Int) (s2 : Bool) {m : Nat} (hm : m < 340282366920938463463374607431768211456) (len2 : Int) (h1 : okP s1 n len1) :
    Ev (fun k => spoorlaw09_AddrBetween.j1 k false s1 (hi n) (lo n) len1 s2 (hi m) (lo m) len2) true := by
  refine Ev.succ ?_
  simp only [spoorlaw09_AddrBetween.j1]
  refine Ev.neg (by simp) (Ev.bind (last_ev s2 hm len2) ?_)
  by_cases h2 : okP s2 m len2
  · rw [if_pos h2]
    refine Ev.pos rfl ?_
    by_cases hs : s2 = s1
    · subst hs
      simp only [bne_self_eq_false]
      refine Ev.succ ?_
      simp only [spoorlaw09_AddrBetween.j2]
      refine Ev.neg (by simp) (Ev.bind (covers_ev s2 hn len1 s2 hm len2) (Ev.bind (has_ev s2 hn len1 s2 hm) ?_))
      have fin : Ev (fun k => (addr_Covers.f k s2 (hi n) (lo n) len1 s2 (hi m) (lo m) len2).bind fun t => if t = true then some (decide (len1 ≤ len2)) else some true) true := by
        refine Ev.bind (covers_ev s2 hn len1 s2 hm len2) ?_
        by_cases c : coversP s2 n len1 s2 m len2
        · exact Ev.pos (decide_eq_true c) (Ev.const (by rw [decide_eq_true (covers_iff.1 c).2.2]))
        · exact Ev.neg (by rw [decide_eq_false c]; simp) (Ev.now _)
      by_cases c : hasP s2 n len1 s2 m
      · refine Ev.pos (decide_eq_true c) (Ev.bind (has_ev s2 hn len1 s2 (ok_lt h2)) (Ev.pos ?_ fin))
        rw [beq_iff_eq, decide_eq_decide]
        exact ⟨fun q => q.2.2, fun q => ⟨h2, c, q⟩⟩
      · refine Ev.neg (by rw [decide_eq_false c]; simp) (Ev.pos ?_ fin)
        rw [decide_eq_false (fun q : coversP s2 n len1 s2 m len2 => c q.2.1)]; rfl
    · have e : (s2 != s1) = true := by simpa using hs
      simp only [e]
      exact btw2 s1 hn len1 s2 hm len2 _ _ h1 (fun q => hs q.2)
  · rw [if_neg h2]
    exact Ev.neg (by decide) (btw2 s1 hn len1 s2 hm len2 _ _ h1 (fun q => h2 q.1))
theorem AddrBetween : spoorlaw09_AddrBetween.Pure := by
  intro s1 h1 l1 len1 s2 h2 l2 len2 h3 l3 w0 w1 w2
  obtain ⟨n, hn, rfl, rfl⟩ := of_parts (wf_u64 w0.2.1.1).1 (wf_u64 w0.2.1.1).2 (wf_u64 w0.2.1.2).1 (wf_u64 w0.2.1.2).2
  obtain ⟨m, hm, rfl, rfl⟩ := of_parts (wf_u64 w1.2.1.1).1 (wf_u64 w1.2.1.1).2 (wf_u64 w1.2.1.2).1 (wf_u64 w1.2.1.2).2
  obtain ⟨a, ha, rfl, rfl⟩ := of_parts (wf_u64 w2.1).1 (wf_u64 w2.1).2 (wf_u64 w2.2).1 (wf_u64 w2.2).2
  refine Ev.rounds (g := fun k => spoorlaw09_AddrBetween.f k s1 (hi n) (lo n) len1 s2 (hi m) (lo m) len2 (hi a) (lo a)) (r := true) ?_
  simp only [spoorlaw09_AddrBetween.f]
  refine Ev.bind (Ev.of (r := true) spoorlaw09_steps.mono (k := 400) (by decide +kernel)) (Ev.pos rfl ?_)
  refine Ev.bind (last_ev s1 hn len1) ?_
  have bad : ∀ x y : Int, ¬ hasP s1 n len1 s1 a → Ev (fun k => spoorlaw09_AddrBetween.j0 k true s1 (hi n) (lo n) len1 s2 (hi m) (lo m) len2 (hi a) (lo a) x y) true := by
    intro x y h
    refine Ev.succ ?_
    simp only [spoorlaw09_AddrBetween.j0]
    refine Ev.pos trivial (Ev.bind (has_ev s1 hn len1 s1 ha) (Ev.const ?_))
    rw [decide_eq_false h]; rfl
  by_cases ho : okP s1 n len1
  · rw [if_pos ho]
    refine Ev.pos rfl ?_
    rw [right_is s1 ha]
    simp only [Option.bind_some]
    by_cases hr : a < 2 ^ Wn s1
    · rw [decide_eq_true hr]
      refine Ev.succ ?_
      simp only [spoorlaw09_AddrBetween.j0]
      refine Ev.neg (by simp) (Ev.bind (has_ev s1 hn len1 s1 ha) (Ev.bind (cmp_ev n a) ?_))
      have other : Ev (fun k => (addr_Has.f k s1 (hi n) (lo n) len1 (!s1) (hi a) (lo a)).bind fun t => spoorlaw09_AddrBetween.j1 k t s1 (hi n) (lo n) len1 s2 (hi m) (lo m) len2) true := by
        refine Ev.bind (has_ev s1 hn len1 (!s1) ha) ?_
        rw [decide_eq_false (fun q : hasP s1 n len1 (!s1) a => by have := q.2.1; cases s1 <;> simp at this)]
        exact btw1 s1 hn len1 s2 hm len2 ho
      by_cases h1 : n ≤ a
      · refine Ev.pos ((cmpN_le n a).2 h1) (Ev.bind (cmp_ev a _) (Ev.neg ?_ other))
        have : decide (hasP s1 n len1 s1 a) = decide (cmpN a (n + hostN s1 len1) ≤ 0) := by
          rw [decide_eq_decide, cmpN_le]
          exact ⟨fun q => q.2.2.2.2, fun q => ⟨ho, rfl, hr, h1, q⟩⟩
        rw [this]; simp
      · refine Ev.neg (fun q => h1 ((cmpN_le n a).1 q)) (Ev.neg ?_ other)
        rw [decide_eq_false (fun q : hasP s1 n len1 s1 a => h1 q.2.2.2.1)]; simp
    · rw [decide_eq_false hr]
      exact bad _ _ (fun q => hr q.2.2.1)
  · rw [if_neg ho]
    exact Ev.neg (by decide) (bad _ _ (fun q => ho q.1))
end Go.Proofs.Ytafclgjnomocdaa.Pure
