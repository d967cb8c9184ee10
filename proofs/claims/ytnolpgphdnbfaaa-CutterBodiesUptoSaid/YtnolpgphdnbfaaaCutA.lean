/- The document's answer is the machine's, byte by byte. -/
import Derived.Test.YtnolpgphdnbfaaaQx8
import Derived.Test.YtnolpgphdnbfaaaCut
namespace Go.Proofs.Ytnolpgphdnbfaaa.Cut
set_option linter.unusedVariables false
open Go.RowKit Go.Proofs.Ytnolpgphdnbfaaa.Q Go.Proofs.YtnolpgphdnbfaaaW.PrintWords Go.Proofs.YtnolpgphdnbfaaaW.PrintLast Go.Proofs.Ytnolpgphdnbfaaa.Base

theorem str_nil_iff (r : List Int) : (strOfNums r).toList = [] ↔ r = [] := by rw [toList_nil_iff, strOfNums_size, List.length_eq_zero_iff]
theorem bt_str {r : List Int} (h : Bytes r) (i : Int) : bt (strOfNums r) i = rd r i := bt_of (bytes_str h) i
theorem rd_range {r : List Int} (h : Bytes r) (i : Int) : 0 ≤ rd r i ∧ rd r i < 256 := by
  rw [← bt_str h]
  have := bt_range (strOfNums r) i
  omega
abbrev Out := ByteArray × Bool × Int × List S38
def told (d : (List Int × Bool × Int) × List S38) : Out := (strOfNums d.1.1, d.1.2.1, d.1.2.2, d.2)
theorem rcomes_ev (r : List Int) (b : Bool) (s x : Int) (hr : Bytes r) (hl : r.length ≤ 1000) (hx0 : 0 ≤ x) (hx1 : x < 256) (hs : 0 ≤ s) (hs1 : s ≤ 65535) :
    Ev (fun k => spoorref12_comes.f k (strOfNums r) b s x) (told (comesL r b s x)) := by
  have hq : Bytes (r ++ [x]) := hr.append (Bytes.cons hx0 hx1 Bytes.nil)
  simp only [spoorref12_comes.f]
  by_cases h0 : s > 0
  · refine Ev.pos h0 (Ev.const ?_)
    unfold comesL
    rw [if_pos h0, w64 (by omega) (by omega)]
    rfl
  · obtain rfl : s = 0 := by omega
    refine Ev.neg h0 ?_
    have J : ∀ t : Bool, (t = true ↔ (r = [] ∧ x ≠ 245)) → Ev (fun k => spoorref12_comes.j0 k x t (strOfNums r) b 0) (told (comesL r b 0 x)) := by
      intro t ht
      refine Ev.succ ?_
      simp only [spoorref12_comes.j0, Option.bind_some]
      unfold comesL
      rw [if_neg h0]
      cases t
      · have hn : ¬ (r = [] ∧ x ≠ 245) := fun h => by have := ht.2 h; cases this
        rw [if_neg hn]
        refine Ev.neg (by decide) ?_
        simp only [← str_append, strOfNums_size, bt_str hq]
        have hlen : (r ++ [x]).length = r.length + 1 := by simp
        refine Ev.pos (by simp; omega) ?_
        by_cases h3 : (r ++ [x]).length < 3
        · rw [if_pos h3]
          exact Ev.pos (by omega) (Ev.const rfl)
        · rw [if_neg h3]
          have hy := rd_range hq 1
          have hz := rd_range hq 2
          have hw : wrap64 (wrap64 (256 * wrap64 (rd (r ++ [x]) 1)) + wrap64 (rd (r ++ [x]) 2)) = lenL (r ++ [x]) := by
            unfold lenL
            rw [w64 (n := rd (r ++ [x]) 1) (by omega) (by omega), w64 (n := rd (r ++ [x]) 2) (by omega) (by omega), w64 (n := 256 * _) (by omega) (by omega), w64 (by omega) (by omega)]
          have hn0 : 0 ≤ lenL (r ++ [x]) := by unfold lenL; omega
          have hn1 : lenL (r ++ [x]) ≤ 65535 := by unfold lenL; omega
          refine Ev.neg (by omega) (Ev.pos (by omega) (Ev.pos (by omega) ?_))
          simp only [hw]
          have K : ∀ t : Bool, (t = true ↔ (lenL (r ++ [x]) < 1 ∨ 64 < lenL (r ++ [x]))) → Ev (fun k => spoorref12_comes.j1 k (lenL (r ++ [x])) t (strOfNums (r ++ [x])) false 0) (told (if lenL (r ++ [x]) < 1 ∨ 64 < lenL (r ++ [x]) then (([], false, lenL (r ++ [x])), [⟨3, ⟨#[]⟩⟩]) else if ((r ++ [x]).length : Int) = 3 + lenL (r ++ [x]) then (([], false, 0), [⟨1, strOfNums ((r ++ [x]).drop 3)⟩]) else ((r ++ [x], false, 0), []))) := by
            intro t ht
            refine Ev.succ ?_
            simp only [spoorref12_comes.j1]
            cases t
            · have hn : ¬ (lenL (r ++ [x]) < 1 ∨ 64 < lenL (r ++ [x])) := fun h => by have := ht.2 h; cases this
              rw [if_neg hn]
              refine Ev.neg (by decide) ?_
              simp only [strOfNums_size, w64 (n := 3 + lenL (r ++ [x])) (by omega) (by omega)]
              by_cases he : ((r ++ [x]).length : Int) = 3 + lenL (r ++ [x])
              · simp only [if_pos he]
                refine Ev.pos (by omega) (Ev.const ?_)
                have : (strOfNums (r ++ [x])).extract 3 (r ++ [x]).length = strOfNums ((r ++ [x]).drop 3) := by
                  have := str_from (strOfNums (r ++ [x])) 3
                  rw [strOfNums_size, bytes_str hq] at this
                  exact this
                rw [this]
                rfl
              · simp only [if_neg he]
                exact Ev.const rfl
            · rw [if_pos (ht.1 rfl)]
              exact Ev.pos rfl (Ev.const rfl)
          by_cases h1 : lenL (r ++ [x]) < 1
          · exact Ev.pos h1 (K true (by simp [h1]))
          · exact Ev.neg h1 (K _ (by simp [h1]))
      · rw [if_pos (ht.1 rfl)]
        refine Ev.pos rfl ?_
        cases b
        · exact Ev.neg (by decide) (Ev.const rfl)
        · exact Ev.pos rfl (Ev.const rfl)
    by_cases hr0 : r = []
    · exact Ev.pos ((str_nil_iff r).2 hr0) (J _ (by simp [hr0]))
    · exact Ev.neg (fun e => hr0 ((str_nil_iff r).1 e)) (J _ (by simp [hr0]))
/-- What a cutter keeps. -/
def Keeps (r : List Int) (b : Bool) (s : Int) : Prop := Bytes r ∧ 0 ≤ s ∧ s ≤ 65535 ∧ (b = true → s = 0 ∧ r = []) ∧ (r ≠ [] → s = 0 ∧ rd r 0 = 245 ∧ (3 ≤ r.length → 1 ≤ lenL r ∧ lenL r ≤ 64 ∧ (r.length : Int) < 3 + lenL r))
theorem Keeps.short {r : List Int} {b : Bool} {s : Int} (h : Keeps r b s) : r.length ≤ 66 := by
  by_cases h3 : 3 ≤ r.length
  · have := h.2.2.2.2 (fun e => by subst e; simp at h3)
    have := this.2.2 h3
    omega
  · omega
theorem Keeps.none : Keeps [] false 0 := ⟨Bytes.nil, by omega, by omega, by simp, by simp⟩
theorem rd_zero_app {r : List Int} (x : Int) (h : r ≠ []) : rd (r ++ [x]) 0 = rd r 0 := by
  cases r with
  | nil => exact absurd rfl h
  | cons y t => simp [rd]
theorem Keeps.comes {r : List Int} {b : Bool} {s : Int} (h : Keeps r b s) {x : Int} (hx0 : 0 ≤ x) (hx1 : x < 256) : Keeps (comesL r b s x).1.1 (comesL r b s x).1.2.1 (comesL r b s x).1.2.2 := by
  have hq : Bytes (r ++ [x]) := h.1.append (Bytes.cons hx0 hx1 Bytes.nil)
  obtain ⟨hr, hs0, hs1, hb, hrest⟩ := h
  unfold comesL
  by_cases h0 : 0 < s
  · rw [if_pos h0]
    exact ⟨hr, by show 0 ≤ s - 1; omega, by show s - 1 ≤ 65535; omega, fun e => by have := hb e; omega, fun e => by have := hrest e; omega⟩
  · rw [if_neg h0]
    obtain rfl : s = 0 := by omega
    by_cases h1 : r = [] ∧ x ≠ 245
    · rw [if_pos h1]
      exact ⟨hr, by simp, by simp, fun _ => ⟨rfl, h1.1⟩, fun e => absurd h1.1 e⟩
    · rw [if_neg h1]
      have hb0 : rd (r ++ [x]) 0 = 245 := by
        by_cases he : r = []
        · subst he
          have : x = 245 := Classical.not_not.mp (fun e => h1 ⟨rfl, e⟩)
          subst this
          rfl
        · rw [rd_zero_app x he]
          exact (hrest he).2.1
      by_cases h3 : (r ++ [x]).length < 3
      · rw [if_pos h3]
        exact ⟨hq, by simp, by simp, by simp, fun _ => ⟨rfl, hb0, fun h => by simp only [] at h; omega⟩⟩
      · rw [if_neg h3]
        have hy := rd_range hq 1
        have hz := rd_range hq 2
        by_cases h4 : lenL (r ++ [x]) < 1 ∨ 64 < lenL (r ++ [x])
        · rw [if_pos h4]
          exact ⟨Bytes.nil, by show 0 ≤ lenL _; unfold lenL; omega, by show lenL _ ≤ 65535; unfold lenL; omega, by simp, by simp⟩
        · rw [if_neg h4]
          by_cases h5 : ((r ++ [x]).length : Int) = 3 + lenL (r ++ [x])
          · rw [if_pos h5]
            exact Keeps.none
          · rw [if_neg h5]
            refine ⟨hq, by simp, by simp, by simp, fun _ => ⟨rfl, hb0, fun h => ⟨show 1 ≤ lenL (r ++ [x]) by omega, show lenL (r ++ [x]) ≤ 64 by omega, ?_⟩⟩⟩
            show ((r ++ [x]).length : Int) < 3 + lenL (r ++ [x])
            by_cases hl : 3 ≤ r.length
            · have h6 := (hrest (fun e => by subst e; simp at hl)).2.2 hl
              have e1 : lenL (r ++ [x]) = lenL r := by
                unfold lenL rd
                simp only [List.getD_eq_getElem?_getD]
                rw [List.getElem?_append_left (by simp; omega), List.getElem?_append_left (by simp; omega)]
              rw [e1] at h5 ⊢
              simp at h5 ⊢
              omega
            · simp at h3 h5 ⊢
              omega
end Go.Proofs.Ytnolpgphdnbfaaa.Cut
