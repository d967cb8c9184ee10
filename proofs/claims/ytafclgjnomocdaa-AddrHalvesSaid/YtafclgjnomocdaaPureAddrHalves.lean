/- The law AddrHalves: each address of a prefix is of just one of its halves, and theirs are its; the first half's last one is just ahead of the second half. -/
import Derived.Test.YtafclgjnomocdaaQpAddrHalves
import Derived.Test.YtafclgjnomocdaaAddrN
import Derived.Test.YtafclgjnomocdaaAddrS
import Derived.Test.YtafclgjnomocdaaQx12
namespace Go.Proofs.Ytafclgjnomocdaa.Pure
set_option linter.unusedVariables false
open Go.RowKit Go.Proofs.Ytafclgjnomocdaa.Q Go.Proofs.YtafclgjnomocdaaW.PrintWords Go.Proofs.YtafclgjnomocdaaW.PrintLast Go.Proofs.Ytafclgjnomocdaa.Base Go.Proofs.Ytafclgjnomocdaa.Addr

theorem AddrHalves : spoorlaw09_AddrHalves.Pure := by
  intro s h1 l1 len h2 l2 w0 w1
  obtain ⟨n, hn, rfl, rfl⟩ := of_parts (wf_u64 w0.2.1.1).1 (wf_u64 w0.2.1.1).2 (wf_u64 w0.2.1.2).1 (wf_u64 w0.2.1.2).2
  obtain ⟨a, ha, rfl, rfl⟩ := of_parts (wf_u64 w1.1).1 (wf_u64 w1.1).2 (wf_u64 w1.2).1 (wf_u64 w1.2).2
  have hw := Wn_le s
  have hw32 : 32 ≤ Wn s := by cases s <;> simp [Wn]
  refine Ev.rounds (g := fun k => spoorlaw09_AddrHalves.f k s (hi n) (lo n) len (hi a) (lo a)) (r := true) ?_
  simp only [spoorlaw09_AddrHalves.f]
  refine Ev.bind (Ev.of (r := true) spoorlaw09_steps.mono (k := 400) (by decide +kernel)) (Ev.pos rfl (Ev.bind (halves_ev s hn len) ?_))
  by_cases ho : okP s n len
  · rw [if_pos ho]
    obtain ⟨h0, h1, h2, h3⟩ := id ho
    by_cases z : len = ((Wn s : Nat) : Int)
    · rw [if_pos z]
      exact Ev.neg (by decide) (Ev.neg (by decide) (Ev.const (by rw [decide_eq_true (by omega)])))
    · rw [if_neg z]
      refine Ev.pos rfl ?_
      have ek : Wn s - (len + 1).toNat = Wn s - len.toNat - 1 := by omega
      have hp := p2pos (Wn s - len.toNat - 1)
      have hk2 : 2 ^ (Wn s - len.toNat) = 2 * 2 ^ (Wn s - len.toNat - 1) := by rw [← Nat.pow_succ']; congr 1; omega
      have hdv : 2 ^ (Wn s - len.toNat - 1) ∣ n := Nat.dvd_trans ⟨2, by rw [hk2, Nat.mul_comm]⟩ (Nat.dvd_of_mod_eq_zero h3)
      have htop := okP_top ho
      have oA : okP s n (len + 1) := ⟨by omega, by omega, h2, by rw [ek]; exact Nat.mod_eq_zero_of_dvd hdv⟩
      have hhost : hostN s len = 2 * 2 ^ (Wn s - len.toNat - 1) - 1 := by unfold hostN; rw [hk2]
      have hhostA : hostN s (len + 1) = 2 ^ (Wn s - len.toNat - 1) - 1 := by unfold hostN; rw [ek]
      have hB : halfN s n len = n + 2 ^ (Wn s - len.toNat - 1) := rfl
      have hBlt : halfN s n len < 2 ^ Wn s := by rw [hB]; omega
      have hBn : halfN s n len < 340282366920938463463374607431768211456 := Nat.lt_of_lt_of_le hBlt (wn_pow s)
      have oB : okP s (halfN s n len) (len + 1) := ⟨by omega, by omega, hBlt, by
        rw [ek, hB]
        exact Nat.mod_eq_zero_of_dvd (Nat.dvd_add hdv ⟨1, by omega⟩)⟩
      refine Ev.bind (last_ev s hn (len + 1)) ?_
      rw [if_pos oA]
      have hAn := ok_lt oA
      simp only [next_is s hAn, Option.bind_some]
      have hnx : n + hostN s (len + 1) < 2 ^ Wn s := okP_top oA
      have hne : n + hostN s (len + 1) ≠ 2 ^ Wn s - 1 := by rw [hhostA]; omega
      rw [if_pos hnx, if_neg hne]
      have heq : n + hostN s (len + 1) + 1 = halfN s n len := by rw [hhostA, hB]; omega
      rw [heq]
      refine Ev.bind (last_ev s hBn (len + 1)) (Ev.bind (last_ev s hn len) ?_)
      rw [if_pos oB, if_pos ho]
      have hend : halfN s n len + hostN s (len + 1) = n + hostN s len := by rw [hhostA, hB, hhost]; omega
      rw [hend]
      refine Ev.bind (has_ev s hn (len + 1) s ha) (Ev.bind (has_ev s hBn (len + 1) s ha) ?_)
      refine Ev.pos (by simp) (Ev.pos (by simp) (Ev.pos (by simp) (Ev.pos (by simp) (Ev.pos (by simp) (Ev.pos (by simp) (Ev.pos (by simp) (Ev.bind (has_ev s hn len s ha) ?_)))))))
      by_cases c : hasP s n (len + 1) s a
      · refine Ev.pos (decide_eq_true c) (Ev.pos ?_ (Ev.const ?_))
        · have : hasP s n len s a := ⟨ho, rfl, c.2.2.1, c.2.2.2.1, by have := c.2.2.2.2; omega⟩
          rw [decide_eq_true this]; rfl
        · have : ¬ hasP s (halfN s n len) (len + 1) s a := fun q => by have := q.2.2.2.1; have := c.2.2.2.2; omega
          rw [decide_eq_false this]; rfl
      · refine Ev.neg (by rw [decide_eq_false c]; simp) (Ev.pos ?_ (Ev.now _))
        rw [beq_iff_eq, decide_eq_decide]
        constructor
        · intro q
          refine ⟨oB, rfl, q.2.2.1, ?_, by have := q.2.2.2.2; omega⟩
          rcases Nat.lt_or_ge a (halfN s n len) with g | g
          · exact absurd ⟨oA, rfl, q.2.2.1, q.2.2.2.1, by omega⟩ c
          · exact g
        · intro q
          exact ⟨ho, rfl, q.2.2.1, by have := q.2.2.2.1; omega, by have := q.2.2.2.2; omega⟩
  · rw [if_neg ho]
    exact Ev.neg (by decide) (Ev.pos rfl (Ev.now _))
end Go.Proofs.Ytafclgjnomocdaa.Pure
