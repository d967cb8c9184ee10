/- Both tell of a cutter whether it is right. -/
import Derived.Test.YtnolpgphdnbfaaaQx6
import Derived.Test.YtnolpgphdnbfaaaCutA
namespace Go.Proofs.Ytnolpgphdnbfaaa.Cut
set_option linter.unusedVariables false
open Go.RowKit Go.Proofs.Ytnolpgphdnbfaaa.Q Go.Proofs.YtnolpgphdnbfaaaW.PrintWords Go.Proofs.YtnolpgphdnbfaaaW.PrintLast Go.Proofs.Ytnolpgphdnbfaaa.Base

/-- Bytes that begin a message, and are not all of it. -/
def Begun (r : List Int) : Prop := rd r 0 = 245 ∧ (3 ≤ r.length → 1 ≤ lenL r ∧ lenL r ≤ 64 ∧ (r.length : Int) < 3 + lenL r)
instance (r : List Int) : Decidable (Begun r) := by unfold Begun; infer_instance
def Right (r : List Int) (b : Bool) (s : Int) : Prop := 0 ≤ s ∧ s ≤ 65535 ∧ (b = true → s = 0 ∧ r = []) ∧ (r ≠ [] → s = 0 ∧ Begun r)
instance (r : List Int) (b : Bool) (s : Int) : Decidable (Right r b s) := by unfold Right; infer_instance
theorem right_keeps {r : List Int} {b : Bool} {s : Int} (h : Bytes r) (k : Right r b s) : Keeps r b s := ⟨h, k.1, k.2.1, k.2.2.1, fun e => ⟨(k.2.2.2 e).1, (k.2.2.2 e).2.1, (k.2.2.2 e).2.2⟩⟩
theorem keeps_right {r : List Int} {b : Bool} {s : Int} (k : Keeps r b s) : Right r b s := ⟨k.2.1, k.2.2.1, k.2.2.2.1, fun e => ⟨(k.2.2.2.2 e).1, (k.2.2.2.2 e).2.1, (k.2.2.2.2 e).2.2⟩⟩
def chk (r : List Int) (b : Bool) (s : Int) : Int := if Right r b s then 0 else 2
theorem wraps_i64 (n : Int) (h₀ : 0 ≤ n) (h₁ : n < 2 ^ 63) : IntKind.i64.wrap n = n := by rw [i64_w, w64 (by omega) (by omega)]
theorem or_len {y z : Int} (hy0 : 0 ≤ y) (hy1 : y < 256) (hz0 : 0 ≤ z) (hz1 : z < 256) : Go.bits .or .i64 (y * 256) z = 256 * y + z := by
  rw [bits_join .i64 63 (by decide) wraps_i64 8 (y * 256) z (by omega) (by omega) (by omega) hz0 (by omega) (by omega)]
  omega
theorem lenL_range {r : List Int} (hr : Bytes r) : 0 ≤ lenL r ∧ lenL r ≤ 65535 := by
  have hy := rd_range hr 1
  have hz := rd_range hr 2
  unfold lenL
  omega
theorem long_eq {r : List Int} (hr : Bytes r) (h3 : 3 ≤ r.length) : cutter_long.f (strOfNums r) = some (lenL r) := by
  unfold cutter_long.f
  have hy := rd_range hr 1
  have hz := rd_range hr 2
  rw [strOfNums_size, if_pos (by omega), if_pos (by omega), bt_str hr, bt_str hr]
  rw [w64 (n := rd r 1) (by omega) (by omega), w64 (n := rd r 2) (by omega) (by omega), w64 (by omega) (by omega), or_len hy.1 hy.2 hz.1 hz.2]
  rfl
theorem fit_eq (n : Int) : cutter_fit.f n = some (decide (1 ≤ n ∧ n ≤ 64)) := by
  unfold cutter_fit.f
  by_cases h : n ≥ 1
  · rw [if_pos h]
    simp [h]
  · rw [if_neg h]
    simp [h]
theorem begins_eq {r : List Int} (hr : Bytes r) (hn : r ≠ []) (hl : r.length ≤ 4194304) : cutter_begins.f (strOfNums r) = some (decide (Begun r)) := by
  have hp : 0 < r.length := List.length_pos_iff.mpr hn
  unfold cutter_begins.f
  rw [strOfNums_size, if_pos (by omega), bt_str hr]
  by_cases h0 : rd r 0 = 245
  · rw [if_pos h0]
    by_cases h3 : (r.length : Int) < 3
    · rw [if_pos h3]
      have : Begun r := ⟨h0, fun h => by omega⟩
      simp [this]
    · rw [if_neg h3, long_eq hr (by omega), Option.bind_some, fit_eq, Option.bind_some, w64 (by omega) (by omega)]
      by_cases hf : 1 ≤ lenL r ∧ lenL r ≤ 64
      · rw [if_pos (by simpa using hf)]
        congr 1
        apply decide_eq_decide.mpr
        unfold Begun
        constructor
        · intro h
          exact ⟨h0, fun _ => ⟨hf.1, hf.2, by omega⟩⟩
        · intro h
          have := (h.2 (by omega)).2.2
          omega
      · rw [if_neg (by simpa using hf)]
        have : ¬ Begun r := fun h => hf ⟨(h.2 (by omega)).1, (h.2 (by omega)).2.1⟩
        simp [this]
  · rw [if_neg h0]
    have : ¬ Begun r := fun h => h0 h.1
    simp [this]
theorem check_eq {r : List Int} (hr : Bytes r) (hl : r.length ≤ 4194304) (b : Bool) (s : Int) : cutter_Check.f (strOfNums r) b s = some (chk r b s) := by
  unfold cutter_Check.f chk
  have bad : ∀ {p : Prop} [Decidable p], ¬ p → some (2 : Int) = some (if p then 0 else 2) := fun h => by rw [if_neg h]
  have good : ∀ {p : Prop} [Decidable p], p → some (0 : Int) = some (if p then 0 else 2) := fun h => by rw [if_pos h]
  by_cases h0 : s < 0
  · rw [if_pos h0]
    exact bad (fun h => by have := h.1; omega)
  · rw [if_neg h0]
    by_cases h1 : s > 65535
    · rw [if_pos h1]
      exact bad (fun h => by have := h.2.1; omega)
    · rw [if_neg h1]
      by_cases hn : r = []
      · rw [if_pos ((str_nil_iff r).2 hn)]
        by_cases h2 : s > 0
        · rw [if_pos h2]
          cases b
          · exact good ⟨by omega, by omega, by simp, fun e => absurd hn e⟩
          · exact bad (fun h => by have := (h.2.2.1 rfl).1; omega)
        · rw [if_neg h2]
          exact good ⟨by omega, by omega, fun _ => ⟨by omega, hn⟩, fun e => absurd hn e⟩
      · rw [if_neg (fun e => hn ((str_nil_iff r).1 e))]
        by_cases h2 : s > 0
        · rw [if_pos h2]
          exact bad (fun h => by have := (h.2.2.2 hn).1; omega)
        · rw [if_neg h2]
          cases b
          · rw [if_neg (by decide), begins_eq hr hn hl, Option.bind_some]
            by_cases hb : Begun r
            · rw [if_pos (by simpa using hb)]
              exact good ⟨by omega, by omega, by simp, fun _ => ⟨by omega, hb⟩⟩
            · rw [if_neg (by simpa using hb)]
              exact bad (fun h => hb (h.2.2.2 hn).2)
          · rw [if_pos rfl]
            exact bad (fun h => hn (h.2.2.1 rfl).2)
theorem rj4_ev {r : List Int} (hr : Bytes r) (hn : r ≠ []) (hl : r.length ≤ 4194304) (b : Bool) (s : Int) (t : Bool) (ht : t = true ↔ rd r 0 ≠ 245) : Ev (fun k => spoorref12_Check.j4 k t (strOfNums r) b s) (if Begun r then 0 else 2) := by
  refine Ev.succ ?_
  simp only [spoorref12_Check.j4]
  cases t
  · have h0 : rd r 0 = 245 := Classical.not_not.mp (fun h => by have := ht.2 h; cases this)
    refine Ev.neg (by decide) ?_
    have hL := lenL_range hr
    have hy := rd_range hr 1
    have hz := rd_range hr 2
    have hw : wrap64 (wrap64 (256 * wrap64 (rd r 1)) + wrap64 (rd r 2)) = lenL r := by
      unfold lenL
      rw [w64 (n := rd r 1) (by omega) (by omega), w64 (n := rd r 2) (by omega) (by omega), w64 (n := 256 * _) (by omega) (by omega), w64 (by omega) (by omega)]
    simp only [strOfNums_size, bt_str hr, hw, w64 (n := 3 + lenL r) (by omega) (by omega)]
    by_cases h3 : 3 ≤ r.length
    · refine Ev.pos (by omega) (Ev.pos (by omega) (Ev.pos (by omega) ?_))
      by_cases h4 : lenL r < 1
      · exact Ev.pos h4 (Ev.const (by rw [if_neg (fun h => by have := h.2 h3; omega)]))
      · refine Ev.neg h4 ?_
        by_cases h5 : lenL r > 64
        · exact Ev.pos h5 (Ev.const (by rw [if_neg (fun h => by have := h.2 h3; omega)]))
        · refine Ev.neg h5 ?_
          by_cases h6 : (r.length : Int) ≥ 3 + lenL r
          · exact Ev.pos h6 (Ev.const (by rw [if_neg (fun h => by have := h.2 h3; omega)]))
          · exact Ev.neg h6 (Ev.const (by rw [if_pos ⟨h0, fun _ => by omega⟩]))
    · exact Ev.neg (by omega) (Ev.const (by rw [if_pos ⟨h0, fun h => absurd h h3⟩]))
  · have h0 : rd r 0 ≠ 245 := ht.1 rfl
    exact Ev.pos rfl (Ev.const (by rw [if_neg (fun h => h0 h.1)]))
theorem rcheck_ev {r : List Int} (hr : Bytes r) (hl : r.length ≤ 4194304) (b : Bool) (s : Int) : Ev (fun k => spoorref12_Check.f k (strOfNums r) b s) (chk r b s) := by
  simp only [spoorref12_Check.f]
  have J4 : ∀ q : Bool, Ev (fun k => spoorref12_Check.j4 k true (strOfNums r) b s) 2 := fun _ => by
    refine Ev.succ ?_
    simp only [spoorref12_Check.j4]
    first | exact Ev.pos trivial (Ev.const rfl) | exact Ev.pos rfl (Ev.const rfl) | exact Ev.const rfl
  have J4' : r = [] → Ev (fun k => spoorref12_Check.j4 k false (strOfNums r) b s) 0 := fun hn => by
    refine Ev.succ ?_
    simp only [spoorref12_Check.j4, strOfNums_size]
    subst hn
    exact Ev.neg (by decide) (Ev.neg (by simp) (Ev.const rfl))
  -- how many things are so
  have J3 : ∀ n : Int, (n > 1 → ¬ Right r b s) → (¬ n > 1 → 0 ≤ s → s ≤ 65535 → (b = true → s = 0 ∧ r = []) ∧ (r ≠ [] → s = 0)) → 0 ≤ s → s ≤ 65535 → Ev (fun k => spoorref12_Check.j3 k n (strOfNums r) b s) (chk r b s) := by
    intro n h1 h2 hs0 hs1
    refine Ev.succ ?_
    simp only [spoorref12_Check.j3]
    by_cases hn1 : n > 1
    · refine Ev.pos hn1 ?_
      unfold chk
      rw [if_neg (h1 hn1)]
      exact J4 true
    · refine Ev.neg hn1 ?_
      obtain ⟨hb, hr0⟩ := h2 hn1 hs0 hs1
      by_cases hn : r = []
      · refine Ev.pos ((str_nil_iff r).2 hn) ?_
        unfold chk
        rw [if_pos ⟨hs0, hs1, hb, fun e => absurd hn e⟩]
        exact J4' hn
      · refine Ev.neg (fun e => hn ((str_nil_iff r).1 e)) ?_
        have hp : 0 < r.length := List.length_pos_iff.mpr hn
        simp only [strOfNums_size, bt_str hr]
        refine Ev.pos (by omega) ?_
        have e : chk r b s = if Begun r then 0 else 2 := by
          unfold chk
          by_cases hB : Begun r
          · rw [if_pos hB, if_pos ⟨hs0, hs1, hb, fun _ => ⟨hr0 hn, hB⟩⟩]
          · rw [if_neg hB, if_neg (fun h => hB (h.2.2.2 hn).2)]
        rw [e]
        exact rj4_ev hr hn hl b s _ (by simp)
  have J0 : ∀ t : Bool, (t = true ↔ ¬ (0 ≤ s ∧ s ≤ 65535)) → Ev (fun k => spoorref12_Check.j0 k t (strOfNums r) b s) (chk r b s) := by
    intro t ht
    refine Ev.succ ?_
    simp only [spoorref12_Check.j0]
    cases t
    · have hs : 0 ≤ s ∧ s ≤ 65535 := Classical.not_not.mp (fun h => by have := ht.2 h; cases this)
      refine Ev.neg (by decide) ?_
      have J2 : ∀ n : Int, 0 ≤ n → n ≤ 2 → ((if s > 0 then n + 1 else n) > 1 → ¬ Right r b s) → (¬ (if s > 0 then n + 1 else n) > 1 → 0 ≤ s → s ≤ 65535 → (b = true → s = 0 ∧ r = []) ∧ (r ≠ [] → s = 0)) → Ev (fun k => spoorref12_Check.j2 k n (strOfNums r) b s) (chk r b s) := by
        intro n n0 n2 h1 h2
        refine Ev.succ ?_
        simp only [spoorref12_Check.j2]
        by_cases h0 : s > 0
        · rw [if_pos h0] at h1 h2
          refine Ev.pos h0 ?_
          rw [w64 (by omega) (by omega)]
          exact J3 _ h1 h2 hs.1 hs.2
        · rw [if_neg h0] at h1 h2
          exact Ev.neg h0 (J3 _ h1 h2 hs.1 hs.2)
      have J1 : ∀ n : Int, (n = if r = [] then 0 else 1) → Ev (fun k => spoorref12_Check.j1 k n (strOfNums r) b s) (chk r b s) := by
        intro n hn
        refine Ev.succ ?_
        simp only [spoorref12_Check.j1]
        cases b
        · refine Ev.neg (by decide) (J2 n ?_ ?_ ?_ ?_)
          · rw [hn]; split <;> omega
          · rw [hn]; split <;> omega
          · intro h1 hR
            by_cases he : r = []
            · rw [if_pos he] at hn; split at h1 <;> omega
            · have := (hR.2.2.2 he).1
              rw [if_neg he] at hn; split at h1 <;> omega
          · intro h1 _ _
            refine ⟨by simp, fun he => ?_⟩
            rw [if_neg he] at hn
            split at h1 <;> omega
        · refine Ev.pos rfl ?_
          rw [w64 (by rw [hn]; split <;> omega) (by rw [hn]; split <;> omega)]
          refine J2 (n + 1) ?_ ?_ ?_ ?_
          · rw [hn]; split <;> omega
          · rw [hn]; split <;> omega
          · intro h1 hR
            have hz := hR.2.2.1 rfl
            rw [if_pos hz.2] at hn
            split at h1 <;> omega
          · intro h1 _ _
            by_cases he : r = []
            · rw [if_pos he] at hn
              exact ⟨fun _ => ⟨by split at h1 <;> omega, he⟩, fun h => absurd he h⟩
            · rw [if_neg he] at hn
              split at h1 <;> omega
      by_cases he : r = []
      · exact Ev.pos ((str_nil_iff r).2 he) (J1 0 (by rw [if_pos he]))
      · exact Ev.neg (fun e => he ((str_nil_iff r).1 e)) (J1 _ (by rw [if_neg he]; rfl))
    · have hs : ¬ (0 ≤ s ∧ s ≤ 65535) := ht.1 rfl
      refine Ev.pos rfl ?_
      unfold chk
      rw [if_neg (fun h => hs ⟨h.1, h.2.1⟩)]
      exact Ev.const rfl
  by_cases h0 : s < 0
  · exact Ev.pos h0 (J0 true (by simp; omega))
  · exact Ev.neg h0 (J0 _ (by simp; omega))
end Go.Proofs.Ytnolpgphdnbfaaa.Cut
