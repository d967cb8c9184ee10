/- What both come to, for the laws. -/
import Derived.Test.YtnolpgphdnbfaaaQx10
import Derived.Test.YtnolpgphdnbfaaaQx9
import Derived.Test.YtnolpgphdnbfaaaQx5
import Derived.Test.YtnolpgphdnbfaaaQx8
import Derived.Test.YtnolpgphdnbfaaaCutF
namespace Go.Proofs.Ytnolpgphdnbfaaa.Cut
set_option linter.unusedVariables false
open Go.RowKit Go.Proofs.Ytnolpgphdnbfaaa.Q Go.Proofs.YtnolpgphdnbfaaaW.PrintWords Go.Proofs.YtnolpgphdnbfaaaW.PrintLast Go.Proofs.Ytnolpgphdnbfaaa.Base

theorem begun_feed {r : List Int} (hn : r ≠ []) (h : Begun r) (b : Bool) : feedL [] b 0 r = ((r, false, 0), []) := by
  obtain ⟨x, t, rfl⟩ : ∃ x t, r = x :: t := by cases r with | nil => exact absurd rfl hn | cons x t => exact ⟨x, t, rfl⟩
  obtain rfl : x = 245 := by simpa [rd] using h.1
  match t, h with
  | [], _ => exact feed_two b [] (by simp)
  | [y], _ => exact feed_two b [y] (by simp)
  | y :: z :: m, h =>
    have h3 := h.2 (by simp)
    rw [lenL_three] at h3
    exact feed_short b y z h3.1 h3.2.1 m (by have := h3.2.2; simp at this; omega)
theorem right_feed {r : List Int} {b : Bool} {s : Int} (h : Right r b s) (l : List Int) : feedL [] b s (r ++ l) = feedL r b s l := by
  by_cases hn : r = []
  · subst hn
    rfl
  · obtain ⟨rfl, hB⟩ := h.2.2.2 hn
    have hb : b = false := by
      cases b
      · rfl
      · exact absurd (h.2.2.1 rfl).2 hn
    subst hb
    rw [feed_app, begun_feed hn hB]
    simp
theorem feed_ev (r : List Int) (b : Bool) (s : Int) (c : ByteArray) (hr : Bytes r) (hl : r.length ≤ 4194304) (hc : c.size ≤ 4194304) : Ev (fun k => cutter_Feed.f k (strOfNums r) b s c) (fed r b s (bytesOf c)) := by
  simp only [cutter_Feed.f]
  refine Ev.bind (Ev.const (check_eq hr hl b s)) ?_
  unfold chk fed
  by_cases h : Right r b s
  · simp only [if_pos h]
    refine Ev.pos trivial ?_
    by_cases h0 : c.size = 0
    · refine Ev.pos h0 (Ev.const ?_)
      have : bytesOf c = [] := List.length_eq_zero_iff.1 (by rw [bytesOf_length]; exact h0)
      rw [this]
      simp [told5, feedL]
    · refine Ev.neg h0 ?_
      rw [strOfNums_size]
      refine Ev.pos (by omega) ?_
      have e : strOfNums r ++ c = strOfNums (r ++ bytesOf c) := by rw [str_append, str_bytes]
      rw [e]
      refine Ev.to (cl0_ev (r ++ bytesOf c).length (r ++ bytesOf c) [] b s (Nat.le_refl _) (hr.append (bytesOf_bytes c)) h.1 h.2.1 (by rw [List.length_append, bytesOf_length]; simp; omega) (by rw [List.length_append, bytesOf_length]; omega)) ?_
      rw [right_feed h]
  · simp only [if_neg h]
    first | exact Ev.neg (by decide) (Ev.const rfl) | exact Ev.const rfl
def wrapL (a : ByteArray) : ByteArray × Int := if 1 ≤ a.size ∧ a.size ≤ 64 then (strOfNums ([245, 0, (a.size : Int)] ++ bytesOf a), 0) else (⟨#[]⟩, 11)
theorem wrap_eq (a : ByteArray) : cutter_Wrap.f a = some (wrapL a) := by
  unfold cutter_Wrap.f wrapL
  rw [fit_eq, Option.bind_some]
  by_cases h : 1 ≤ a.size ∧ a.size ≤ 64
  · rw [if_pos (by simp; omega), if_pos h, Option.bind_some, strOfNums_size, if_pos (by simp; omega), str_append, str_bytes, show ((a.size : Int) % 256) = a.size by omega]
  · rw [if_neg (by simp; omega), if_neg h]
theorem rwrap_eq (a : ByteArray) : spoorref12_Wrap.f a = some (wrapL a) := by
  unfold spoorref12_Wrap.f wrapL
  by_cases h : 1 ≤ a.size ∧ a.size ≤ 64
  · rw [if_neg (by omega), if_neg (by omega), if_pos h, Option.bind_some, strOfNums_size, if_pos (by simp; omega), str_append, str_bytes, show ((a.size : Int) % 256) = a.size by omega]
  · rw [if_neg h]
    by_cases h1 : (a.size : Int) < 1
    · rw [if_pos h1]
    · rw [if_neg h1, if_pos (by omega)]
theorem same_loop (l : List S38) (hl : l.length ≤ 1099511627776) : ∀ (n i : Nat), l.length - i = n → i ≤ l.length → Ev (fun k => spoorref12_Same.l0 k l l (l.length : Int) (i : Int)) true
  | 0, i, h, hi => by
    refine Ev.succ ?_
    simp only [spoorref12_Same.l0]
    exact Ev.neg (by omega) (Ev.const rfl)
  | n + 1, i, h, hi => by
    refine Ev.succ ?_
    simp only [spoorref12_Same.l0]
    refine Ev.pos (by omega) (Ev.pos (by omega) (Ev.pos (by omega) (Ev.pos (by omega) (Ev.neg (by simp) ?_))))
    rw [w64 (by omega) (by omega), show ((i : Int) + 1) = ((i + 1 : Nat) : Int) by omega]
    exact same_loop l hl n (i + 1) (by omega) (by omega)
theorem same_ev (l : List S38) (hl : l.length ≤ 1099511627776) : Ev (fun k => spoorref12_Same.f k l l) true := by
  simp only [spoorref12_Same.f]
  exact Ev.pos trivial (same_loop l hl l.length 0 (by omega) (by omega))
theorem lives_ev : Ev spoorlaw12_lives.f true := Ev.of spoorlaw12_lives.mono (k := 40) (by decide +kernel)
theorem feed_len : ∀ (l r : List Int) (b : Bool) (s : Int), (feedL r b s l).2.length ≤ l.length
  | [], _, _, _ => by simp [feedL]
  | x :: l, r, b, s => by
    have h1 := comes_one r b s x
    have h2 := feed_len l (comesL r b s x).1.1 (comesL r b s x).1.2.1 (comesL r b s x).1.2.2
    simp only [feedL, List.length_append, List.length_cons]
    omega
theorem fed_len (r : List Int) (b : Bool) (s : Int) (l : List Int) : (fed r b s l).2.2.2.1.length ≤ l.length := by
  unfold fed told5
  split
  · have := feed_len l r b s
    simpa using this
  · simp
end Go.Proofs.Ytnolpgphdnbfaaa.Cut
