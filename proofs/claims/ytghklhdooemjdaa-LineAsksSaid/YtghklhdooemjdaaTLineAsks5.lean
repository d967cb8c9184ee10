/- Whatever a line is, it tells at a time, when, and in part, and differs from another one, as the document says, or not. -/
import Derived.Test.YtghklhdooemjdaaRows
import Derived.WalkKit
import Derived.ProofKit
import Derived.OpenShut
import Derived.ShutString
import Derived.ChangeOld
import Derived.Below
import Derived.SizedLaws
import Derived.JoinedCond
import Derived.Test.YtghklhdooemjdaaTLineAsks4
section
namespace Go.Proofs.Ytghklhdooemjdaa.Line
set_option linter.unusedVariables false
open Go.RowKit Go.Proofs.Ytghklhdooemjdaa.Q Go.Proofs.YtghklhdooemjdaaW.PrintWords Go.Proofs.YtghklhdooemjdaaW.PrintLast Go.Proofs.Ytghklhdooemjdaa.Base Go.Proofs.Ytghklhdooemjdaa.Open
def cutV (w0 w1 : Int) (l : List Er) (f g : Int) : List Er × Int := if lineB w0 w1 l = true then (if winP f g ∧ w0 ≤ f ∧ g ≤ w1 then (l.filterMap (cutE f g), 0) else ([], 1)) else ([], 2)
theorem cut_ev (w0 w1 : Int) (l : List Er) (hb : ∀ x ∈ l, bndE x) (f g : Int) : Ev (fun k => line_Cut.f k w0 w1 l f g) (cutV w0 w1 l f g) := by
  simp only [line_Cut.f]
  refine Ev.bind (check_ev l hb w0 w1) ?_
  unfold cutV
  by_cases c : lineB w0 w1 l = true
  case neg =>
    rw [if_neg c, Bool.eq_false_iff.2 c]
    exact Ev.pos (by decide) (Ev.const rfl)
  rw [if_pos c, c]
  refine Ev.neg (by decide) (Ev.bind (win_ev f g) ?_)
  have hok := (line_iff w0 w1 l).1 c
  have hlen := hok.len
  by_cases d : winP f g ∧ w0 ≤ f ∧ g ≤ w1
  · rw [if_pos d]
    refine Ev.pos ⟨decide_eq_true d.1, by omega, by omega⟩ (Ev.pos (Nat.le_trans (Nat.mul_le_mul_right 32 hlen) (by decide)) (Ev.const rfl))
  · rw [if_neg d]
    refine Ev.neg (fun h => d ⟨of_decide_eq_true h.1, by omega, by omega⟩) (Ev.const rfl)
abbrev Pb := S80
def bv (b : Bool) : Vd := ⟨if b = true then 1 else 2, 0⟩
def erB (p : Pb) : Er := ⟨p.f0, bv p.f1⟩
theorem bv_right (b : Bool) : rightB (bv b) = true := by cases b <;> rfl
theorem bv_same (a b : Bool) : sameV (bv a) (bv b) ↔ a = b := by cases a <;> cases b <;> simp [sameV, bv]
theorem rd_snocB (init : List Pb) (l : Pb) : rd_T80 (init ++ [l]) (((init ++ [l]).length - 1 : Nat) : Int) = l := by
  simp [rd_T80, List.getD_eq_getElem?_getD]
theorem addB_map (out : List Pb) (x : Pb) :
    (∃ i l, out.map erB = i ++ [l] ∧ sameV l.f1 (bv x.f1) ∧ (addB out x).map erB = i ++ [⟨⟨l.f0.f0, x.f0.f1⟩, l.f1⟩]) ∨
    ((∀ v, (out.map erB).getLast?.map (·.f1) = some v → ¬ sameV (bv x.f1) v) ∧ (addB out x).map erB = out.map erB ++ [erB x]) := by
  by_cases hn : out = []
  · subst hn
    right
    exact ⟨fun v hv => by simp at hv, by simp [addB]⟩
  · obtain ⟨i, l, rfl⟩ := snoc_of hn
    unfold addB
    rw [rd_snocB]
    by_cases c : l.f1 = x.f1
    · left
      refine ⟨i.map erB, erB l, by simp, (bv_same _ _).2 c, ?_⟩
      rw [if_pos ⟨by simp, c⟩]
      have e : (i ++ [l]).set ((i ++ [l]).length - 1) (⟨⟨l.f0.f0, x.f0.f1⟩, l.f1⟩ : Pb) = i ++ [⟨⟨l.f0.f0, x.f0.f1⟩, l.f1⟩] := by
        rw [List.length_append, List.length_singleton, Nat.add_sub_cancel, List.set_append_right _ _ (Nat.le_refl _), Nat.sub_self]
        rfl
      rw [e]
      simp [erB]
    · right
      rw [if_neg (fun h => c h.2)]
      refine ⟨fun v hv => ?_, by simp⟩
      simp only [List.map_append, List.map_cons, List.map_nil, List.getLast?_append, List.getLast?_singleton, Option.some_or, Option.map_some] at hv
      obtain rfl := Option.some.inj hv
      exact fun h => c ((bv_same _ _).1 h).symm
def contP : Int → List (PcV × PcV) → Option Int
  | p, [] => some p
  | p, x :: xs => if mxf x = p ∧ p ≤ mnt x then contP (mnt x + 1) xs else none
def valP (t : Int) : List (PcV × PcV) → Bool
  | [] => false
  | x :: xs => if t ≤ mnt x then (ofPair x).f1 else valP t xs
theorem fold_ok (w0 : Int) : ∀ (ps : List (PcV × PcV)) (p e : Int) (out : List Pb), contP p ps = some e → cont w0 (out.map erB) = some p → alt none (out.map erB) →
    cont w0 ((ps.foldl putP out).map erB) = some e ∧ alt none ((ps.foldl putP out).map erB) ∧ p ≤ e ∧ ∀ t, w0 ≤ t → t < e → val t ((ps.foldl putP out).map erB) = if t < p then val t (out.map erB) else bv (valP t ps)
  | [], p, e, out, h, hc, ha => by
    obtain rfl := Option.some.inj h
    exact ⟨hc, ha, Int.le_refl _, fun t t0 t1 => by rw [if_pos t1]; rfl⟩
  | x :: xs, p, e, out, h, hc, ha => by
    unfold contP at h
    by_cases c : mxf x = p ∧ p ≤ mnt x
    case neg => rw [if_neg c] at h; cases h
    rw [if_pos c] at h
    obtain ⟨c1, c2⟩ := c
    have hm := addB_map out (ofPair x)
    have e1 : erB (ofPair x) = (⟨⟨p, mnt x⟩, bv (ofPair x).f1⟩ : Er) := by rw [← c1]; rfl
    rw [e1] at hm
    obtain ⟨p1, p2, p3, p4⟩ := put_ok' (out.map erB) ((addB out (ofPair x)).map erB) w0 p (mnt x) (bv (ofPair x).f1) hm hc ha c2 (bv_right _)
    obtain ⟨i1, i2, i3, i4⟩ := fold_ok w0 xs (mnt x + 1) e (putP out x) h p1 p2
    refine ⟨i1, i2, by omega, fun t t0 t1 => ?_⟩
    rw [List.foldl_cons, i4 t t0 t1]
    simp only [valP]
    by_cases d : t < mnt x + 1
    · rw [if_pos d]
      have := p4 t t0 (by omega)
      rw [show (putP out x).map erB = (addB out (ofPair x)).map erB from rfl, this]
      by_cases d2 : t < p
      · rw [if_pos d2, if_pos d2]
      · rw [if_neg d2, if_neg d2, if_pos (by omega)]
    · rw [if_neg d, if_neg (by omega), if_neg (by omega)]
def Stand (p e : Int) : List PcV → List PcV → Prop
  | [], [] => p = e
  | x :: xs, y :: ys => mxf (x, y) = p ∧ p ≤ x.f0.f1 ∧ p ≤ y.f0.f1 ∧ cont (x.f0.f1 + 1) (xs.map eraOf) = some e ∧ cont (y.f0.f1 + 1) (ys.map eraOf) = some e
  | _, _ => False
theorem mxf_of {x y : PcV} {p : Int} (h1 : x.f0.f0 ≤ p) (h2 : y.f0.f0 ≤ p) (h : x.f0.f0 = p ∨ y.f0.f0 = p) : mxf (x, y) = p := by
  show (if x.f0.f0 < y.f0.f0 then y.f0.f0 else x.f0.f0) = p
  split <;> omega
theorem mxf_le {x y : PcV} {p : Int} (h : mxf (x, y) = p) : x.f0.f0 ≤ p ∧ y.f0.f0 ≤ p := by
  have h' : (if x.f0.f0 < y.f0.f0 then y.f0.f0 else x.f0.f0) = p := h
  split at h' <;> omega
theorem cont_head {x : Er} {xs : List Er} {f e : Int} (h : cont f (x :: xs) = some e) : x.f0.f0 = f ∧ f ≤ x.f0.f1 ∧ cont (x.f0.f1 + 1) xs = some e := by
  unfold cont at h
  by_cases c : x.f0.f0 = f ∧ f ≤ x.f0.f1 ∧ rightB x.f1 = true
  · rw [if_pos c] at h
    exact ⟨c.1, c.2.1, h⟩
  · rw [if_neg c] at h; cases h
def neqV (a b : Vd) : Bool := (!a.f0 == b.f0 || !a.f1 == b.f1)
theorem both_ok (e : Int) : ∀ (n : Nat) (a b : List PcV) (p : Int), a.length + b.length ≤ n → Stand p e a b →
    contP p (bothL n a b) = some e ∧ ∀ t, p ≤ t → t < e → valP t (bothL n a b) = neqV (val t (a.map eraOf)) (val t (b.map eraOf))
  | n, [], [], p, hn, h => by
    have h' : p = e := h
    subst h'
    rw [bothL_nl]
    exact ⟨rfl, fun t t0 t1 => by omega⟩
  | n, [], y :: ys, p, hn, h => h.elim
  | n, x :: xs, [], p, hn, h => h.elim
  | 0, x :: xs, y :: ys, p, hn, h => by simp at hn
  | n + 1, x :: xs, y :: ys, p, hn, h => by
    obtain ⟨h1, h2, h3, h4, h5⟩ := h
    obtain ⟨l1, l2⟩ := mxf_le h1
    have hx := cont_le _ _ _ h4
    have hy := cont_le _ _ _ h5
    rw [bothL_cons]
    have em : mnt (x, y) = if y.f0.f1 < x.f0.f1 then y.f0.f1 else x.f0.f1 := rfl
    rw [← em]
    simp only [List.length_cons] at hn
    have fin : ∀ (a' b' : List PcV), a'.length + b'.length ≤ n → Stand (mnt (x, y) + 1) e a' b' → p ≤ mnt (x, y) →
        (∀ t, mnt (x, y) < t → val t ((x :: xs).map eraOf) = val t (a'.map eraOf)) → (∀ t, mnt (x, y) < t → val t ((y :: ys).map eraOf) = val t (b'.map eraOf)) → mnt (x, y) ≤ x.f0.f1 → mnt (x, y) ≤ y.f0.f1 →
        contP p ((x, y) :: bothL n a' b') = some e ∧ ∀ t, p ≤ t → t < e → valP t ((x, y) :: bothL n a' b') = neqV (val t ((x :: xs).map eraOf)) (val t ((y :: ys).map eraOf)) := by
      intro a' b' hl hs hp ha hb hmx hmy
      obtain ⟨i1, i2⟩ := both_ok e n a' b' (mnt (x, y) + 1) hl hs
      refine ⟨?_, fun t t0 t1 => ?_⟩
      · rw [← i1]
        exact if_pos ⟨h1, hp⟩
      · simp only [valP]
        by_cases d : t ≤ mnt (x, y)
        · rw [if_pos d]
          have ex : val t ((x :: xs).map eraOf) = x.f1 := by
            show (if t ≤ x.f0.f1 then x.f1 else _) = _
            exact if_pos (by omega)
          have ey : val t ((y :: ys).map eraOf) = y.f1 := by
            show (if t ≤ y.f0.f1 then y.f1 else _) = _
            exact if_pos (by omega)
          rw [ex, ey]
          rfl
        · rw [if_neg d, i2 t (by omega) t1, ha t (by omega), hb t (by omega)]
    have vx : ∀ t, x.f0.f1 < t → val t ((x :: xs).map eraOf) = val t (xs.map eraOf) := fun t ht => by
      show (if t ≤ x.f0.f1 then x.f1 else _) = _
      exact if_neg (by omega)
    have vy : ∀ t, y.f0.f1 < t → val t ((y :: ys).map eraOf) = val t (ys.map eraOf) := fun t ht => by
      show (if t ≤ y.f0.f1 then y.f1 else _) = _
      exact if_neg (by omega)
    rcases Int.lt_trichotomy x.f0.f1 y.f0.f1 with g | g | g
    · have e2 : mnt (x, y) = x.f0.f1 := by rw [em, if_neg (by omega)]
      rw [e2] at fin ⊢
      rw [if_pos rfl, if_neg (by omega)]
      refine fin xs (y :: ys) (by simp only [List.length_cons]; omega) ?_ h2 vx (fun t _ => rfl) (Int.le_refl _) (by omega)
      cases xs with
      | nil =>
        have := Option.some.inj h4
        omega
      | cons z zs =>
        obtain ⟨k1, k2, k3⟩ := cont_head h4
        exact ⟨mxf_of (by show z.f0.f0 ≤ _; have : z.f0.f0 = _ := k1; omega) (by omega) (.inl k1), k2, by omega, k3, h5⟩
    · have e2 : mnt (x, y) = x.f0.f1 := by rw [em, if_neg (by omega)]
      rw [e2] at fin ⊢
      rw [if_pos rfl, if_pos g.symm]
      refine fin xs ys (by omega) ?_ h2 vx (fun t ht => vy t (by omega)) (Int.le_refl _) (by omega)
      cases xs with
      | nil =>
        have q1 := Option.some.inj h4
        cases ys with
        | nil => exact q1
        | cons z zs =>
          obtain ⟨k1, k2, k3⟩ := cont_head h5
          have := cont_le _ _ _ k3
          have k2' : y.f0.f1 + 1 ≤ (eraOf z).f0.f1 := k2
          omega
      | cons u us =>
        obtain ⟨k1, k2, k3⟩ := cont_head h4
        cases ys with
        | nil =>
          have q1 := Option.some.inj h5
          have := cont_le _ _ _ k3
          omega
        | cons z zs =>
          obtain ⟨m1, m2, m3⟩ := cont_head h5
          have k1' : u.f0.f0 = x.f0.f1 + 1 := k1
          have m1' : z.f0.f0 = y.f0.f1 + 1 := m1
          exact ⟨mxf_of (by omega) (by omega) (.inl k1'), k2, by rw [g]; exact m2, k3, m3⟩
    · have e2 : mnt (x, y) = y.f0.f1 := by rw [em, if_pos g]
      rw [e2] at fin ⊢
      rw [if_neg (by omega), if_pos rfl]
      refine fin (x :: xs) ys (by simp only [List.length_cons]; omega) ?_ h3 (fun t _ => rfl) vy (by omega) (Int.le_refl _)
      cases ys with
      | nil =>
        have := Option.some.inj h5
        omega
      | cons z zs =>
        obtain ⟨k1, k2, k3⟩ := cont_head h5
        have k1' : z.f0.f0 = y.f0.f1 + 1 := k1
        exact ⟨mxf_of (by omega) (by omega) (.inr k1'), by omega, k2, h4, k3⟩
theorem held_sound : ∀ (out : List Pb) (a e : Int) (pv : Option Vd) (u : Option Int), cont a (out.map erB) = some e → 0 ≤ a → e ≤ 1099511627777 → alt pv (out.map erB) →
    (∀ z, u = some z → z + 1 ≤ a ∧ (z + 1 = a → pv = some (bv true))) → soundL u ((out.filterMap heldB).map runOf) = true
  | [], a, e, pv, u, h, h0, he, ha, hu => by cases u <;> rfl
  | x :: xs, a, e, pv, u, h, h0, he, ha, hu => by
    obtain ⟨k1, k2, k3⟩ := cont_head h
    have k1' : x.f0.f0 = a := k1
    have k2' : a ≤ x.f0.f1 := k2
    have k3' : cont (x.f0.f1 + 1) (xs.map erB) = some e := k3
    have hle := cont_le _ _ _ k3'
    have haxs : alt (some (bv x.f1)) (xs.map erB) := by
      cases pv with
      | none => exact ha
      | some v => exact ha.2
    by_cases hx : x.f1 = true
    · have e1 : heldB x = some x.f0 := if_pos hx
      rw [List.filterMap_cons, e1]
      have ih := held_sound xs (x.f0.f1 + 1) e (some (bv x.f1)) (some x.f0.f1) k3' (by omega) he haxs (fun z hz => by
        obtain rfl := Option.some.inj hz
        exact ⟨Int.le_refl _, fun _ => by rw [hx]⟩)
      have hs : ¬ ((runOf x.f0).f0 < 0 ∨ (runOf x.f0).f1 < (runOf x.f0).f0 ∨ 1099511627776 < (runOf x.f0).f1) := by
        show ¬ (x.f0.f0 < 0 ∨ x.f0.f1 < x.f0.f0 ∨ 1099511627776 < x.f0.f1)
        omega
      cases u with
      | none =>
        show (if (runOf x.f0).f0 < 0 ∨ (runOf x.f0).f1 < (runOf x.f0).f0 ∨ 1099511627776 < (runOf x.f0).f1 then false else soundL (some (runOf x.f0).f1) _) = true
        rw [if_neg hs]
        exact ih
      | some z =>
        obtain ⟨g1, g2⟩ := hu z rfl
        have g3 : z + 1 ≠ a := fun hz => by
          have hp := g2 hz
          subst hp
          have h5 : ¬ sameV (bv x.f1) (bv true) := ha.1
          rw [hx] at h5
          exact h5 ⟨rfl, rfl⟩
        show (if (runOf x.f0).f0 < 0 ∨ (runOf x.f0).f1 < (runOf x.f0).f0 ∨ 1099511627776 < (runOf x.f0).f1 then false else if z = 1099511627776 ∨ (runOf x.f0).f0 ≤ z + 1 then false else soundL (some (runOf x.f0).f1) _) = true
        rw [if_neg hs, if_neg (by show ¬ (z = 1099511627776 ∨ x.f0.f0 ≤ z + 1); omega)]
        exact ih
    · have e1 : heldB x = none := if_neg hx
      rw [List.filterMap_cons, e1]
      exact held_sound xs (x.f0.f1 + 1) e (some (bv x.f1)) u k3' (by omega) he haxs (fun z hz => ⟨by have := (hu z hz).1; omega, fun hz2 => by have := (hu z hz).1; omega⟩)
theorem has_iff (t : Int) : ∀ (l : List Iv) (i : Nat), 0 ≤ hasFrom t i l ↔ ∃ x ∈ l, inI t x = true
  | [], i => by simp [hasFrom]
  | x :: xs, i => by
    by_cases c : inI t x = true
    · simp only [hasFrom, if_pos c]
      exact ⟨fun _ => ⟨x, by simp, c⟩, fun _ => by omega⟩
    · simp only [hasFrom, if_neg c]
      rw [has_iff t xs (i + 1)]
      simp [c]
theorem inI_iff (t : Int) (x : Iv) : inI t x = true ↔ x.f0 ≤ t ∧ t ≤ x.f1 := by
  unfold inI
  by_cases c : x.f0 ≤ t
  · rw [if_pos c]
    simp [c]
  · rw [if_neg c]
    simp [c]
theorem held_has (t : Int) : ∀ (out : List Pb) (a e : Int), cont a (out.map erB) = some e → ((∃ x ∈ out.filterMap heldB, inI t x = true) ↔ a ≤ t ∧ t < e ∧ val t (out.map erB) = bv true)
  | [], a, e, h => by
    obtain rfl := Option.some.inj h
    simp
    omega
  | x :: xs, a, e, h => by
    obtain ⟨k1, k2, k3⟩ := cont_head h
    have k1' : x.f0.f0 = a := k1
    have k2' : a ≤ x.f0.f1 := k2
    have k3' : cont (x.f0.f1 + 1) (xs.map erB) = some e := k3
    have hle := cont_le _ _ _ k3'
    have ih := held_has t xs _ e k3'
    have ev : val t ((x :: xs).map erB) = if t ≤ x.f0.f1 then bv x.f1 else val t (xs.map erB) := rfl
    rw [ev]
    by_cases hx : x.f1 = true
    · have e1 : heldB x = some x.f0 := if_pos hx
      rw [List.filterMap_cons, e1]
      simp only [List.mem_cons, exists_eq_or_imp]
      rw [ih, inI_iff, hx]
      by_cases d : t ≤ x.f0.f1
      · rw [if_pos d]
        constructor
        · rintro (h1 | h1)
          · exact ⟨by omega, by omega, rfl⟩
          · omega
        · rintro ⟨h1, h2, _⟩
          exact .inl ⟨by omega, d⟩
      · rw [if_neg d]
        constructor
        · rintro (h1 | h1)
          · omega
          · exact ⟨by omega, h1.2.1, h1.2.2⟩
        · rintro ⟨h1, h2, h3⟩
          exact .inr ⟨by omega, h2, h3⟩
    · have e1 : heldB x = none := if_neg hx
      rw [List.filterMap_cons, e1]
      rw [ih]
      have hxf : x.f1 = false := Bool.eq_false_iff.2 hx
      rw [hxf]
      by_cases d : t ≤ x.f0.f1
      · rw [if_pos d]
        constructor
        · rintro h1; omega
        · rintro ⟨h1, h2, h3⟩
          exact absurd ((bv_same _ _).1 (show sameV (bv false) (bv true) by rw [h3]; exact ⟨rfl, rfl⟩)) (by decide)
      · rw [if_neg d]
        constructor
        · rintro ⟨h1, h2, h3⟩; exact ⟨by omega, h2, h3⟩
        · rintro ⟨h1, h2, h3⟩; exact ⟨by omega, h2, h3⟩
theorem map_back (l : List Er) : (l.map pieceOf).map eraOf = l := by
  rw [List.map_map]
  conv => rhs; rw [← List.map_id l]
  rfl
theorem differ_ok (w0 w1 : Int) (l m : List Er) (hl : LineOk w0 w1 l) (hm : LineOk w0 w1 m) :
    soundL none (((differL l m).filterMap heldB).map runOf) = true ∧ ∀ t, (0 ≤ hasFrom t 0 ((differL l m).filterMap heldB) ↔ w0 ≤ t ∧ t ≤ w1 ∧ neqV (val t l) (val t m) = true) := by
  have hw := hl.win
  obtain ⟨v1, v2, v3⟩ := hw
  have hs : Stand w0 (w1 + 1) (l.map pieceOf) (m.map pieceOf) := by
    have c1 := hl.cont
    have c2 := hm.cont
    cases l with
    | nil => exact absurd rfl hl.ne
    | cons x xs =>
      cases m with
      | nil => exact absurd rfl hm.ne
      | cons y ys =>
        obtain ⟨a1, a2, a3⟩ := cont_head c1
        obtain ⟨b1, b2, b3⟩ := cont_head c2
        refine ⟨mxf_of (x := pieceOf x) (y := pieceOf y) (show x.f0.f0 ≤ w0 by omega) (show y.f0.f0 ≤ w0 by omega) (.inl a1), a2, b2, ?_, ?_⟩
        · rw [map_back]; exact a3
        · rw [map_back]; exact b3
  obtain ⟨p1, p2⟩ := both_ok (w1 + 1) _ _ _ w0 (Nat.le_refl _) hs
  obtain ⟨f1, f2, f3, f4⟩ := fold_ok w0 _ w0 (w1 + 1) [] p1 rfl trivial
  have f1' : cont w0 ((differL l m).map erB) = some (w1 + 1) := f1
  refine ⟨held_sound (differL l m) w0 (w1 + 1) none none f1' v1 (by omega) f2 (fun z hz => by cases hz), fun t => ?_⟩
  rw [has_iff, held_has t (differL l m) w0 (w1 + 1) f1']
  constructor
  · rintro ⟨t0, t1, h⟩
    have g := f4 t t0 t1
    rw [if_neg (by omega), p2 t t0 t1, map_back, map_back] at g
    refine ⟨t0, by omega, ?_⟩
    have g' : bv (neqV (val t l) (val t m)) = bv true := g.symm.trans h
    exact (bv_same _ _).1 (by rw [g']; exact ⟨rfl, rfl⟩)
  · rintro ⟨t0, t1, h⟩
    have g := f4 t t0 (by omega)
    rw [if_neg (by omega), p2 t t0 (by omega), map_back, map_back, h] at g
    exact ⟨t0, by omega, g⟩
theorem differ_len (l m : List Er) : ((differL l m).filterMap heldB).length ≤ l.length + m.length := by
  refine Nat.le_trans (List.length_filterMap_le _ _) ?_
  have h1 := puts_len (bothL ((l.map pieceOf).length + (m.map pieceOf).length) (l.map pieceOf) (m.map pieceOf)) []
  have h2 := bothL_len ((l.map pieceOf).length + (m.map pieceOf).length) (l.map pieceOf) (m.map pieceOf)
  rw [List.length_map, List.length_map] at h2
  unfold differL
  rw [List.length_map, List.length_map] at h1 ⊢
  rw [List.length_nil, Nat.zero_add] at h1
  exact Nat.le_trans h1 h2
def differV (w0 w1 : Int) (l m : List Er) : List Iv × Int := if lineB w0 w1 l = true ∧ lineB w0 w1 m = true then (if 1024 < ((differL l m).filterMap heldB).length then ([], 11) else ((differL l m).filterMap heldB, 0)) else ([], 2)
theorem differ_ev (w0 w1 : Int) (l m : List Er) (hb : ∀ x ∈ l, bndE x) (hb2 : ∀ x ∈ m, bndE x) : Ev (fun k => line_Differ.f k w0 w1 l m) (differV w0 w1 l m) := by
  simp only [line_Differ.f]
  refine Ev.bind (check_ev l hb w0 w1) ?_
  by_cases c : lineB w0 w1 l = true
  case neg =>
    have e : differV w0 w1 l m = ([], 2) := if_neg (fun h => c h.1)
    rw [e, Bool.eq_false_iff.2 c]
    exact Ev.pos (by decide) (Ev.const rfl)
  by_cases d : lineB w0 w1 m = true
  case neg =>
    have e : differV w0 w1 l m = ([], 2) := if_neg (fun h => d h.2)
    rw [e, c]
    refine Ev.neg (by decide) (Ev.bind (check_ev m hb2 w0 w1) ?_)
    rw [Bool.eq_false_iff.2 d]
    exact Ev.pos (by decide) (Ev.const rfl)
  have e : differV w0 w1 l m = if 1024 < ((differL l m).filterMap heldB).length then ([], 11) else ((differL l m).filterMap heldB, 0) := if_pos ⟨c, d⟩
  rw [e, c]
  refine Ev.neg (by decide) (Ev.bind (check_ev m hb2 w0 w1) ?_)
  rw [d]
  have h1 := ((line_iff w0 w1 l).1 c).len
  have h2 := ((line_iff w0 w1 m).1 d).len
  exact Ev.neg (by decide) (Ev.pos (Nat.le_trans (Nat.mul_le_mul_right 32 (show l.length + m.length + 1 ≤ 2049 by omega)) (by decide)) (Ev.const rfl))
end Go.Proofs.Ytghklhdooemjdaa.Line
end
section
namespace Go.Proofs.Ytghklhdooemjdaa.Line
set_option linter.unusedVariables false
open Go.RowKit Go.Proofs.Ytghklhdooemjdaa.Q Go.Proofs.YtghklhdooemjdaaW.PrintWords Go.Proofs.YtghklhdooemjdaaW.PrintLast Go.Proofs.Ytghklhdooemjdaa.Base Go.Proofs.Ytghklhdooemjdaa.Open
theorem one19 (a b : Int) : spoorref19_One.f a b = some (decide (winP a b)) := by
  unfold spoorref19_One.f
  by_cases h0 : a ≥ 0
  case neg => rw [if_neg h0, decide_eq_false (fun h => h0 h.1)]
  rw [if_pos h0]
  by_cases h1 : a ≤ b
  case neg => rw [if_neg h1, decide_eq_false (fun h => h1 h.2.1)]
  rw [if_pos h1]
  by_cases h2 : b ≤ 1099511627776
  · rw [decide_eq_true h2, decide_eq_true (show winP a b from ⟨h0, h1, h2⟩)]
  · rw [decide_eq_false h2, decide_eq_false (fun h : winP a b => h2 h.2.2)]
theorem one20 (v : Vd) : spoorref20_One.f v.f0 v.f1 = some (rightB v) := right_some v.f0 v.f1
theorem same_l (l : List Er) (hl : l.length ≤ 4194304) : ∀ (r : List Er) (i : Nat), l.drop i = r → Ev (fun k => spoorref20_Same.l0 k l l (l.length : Int) (i : Int)) true
  | [], i, hd => by
    have h1 : l.length ≤ i := List.drop_eq_nil_iff.1 hd
    refine Ev.succ ?_
    simp only [spoorref20_Same.l0]
    exact Ev.neg (by omega) (Ev.const rfl)
  | x :: r, i, hd => by
    have hlt := dlt hd
    refine Ev.succ ?_
    simp only [spoorref20_Same.l0, rdV hd]
    refine Ev.pos (by omega) (Ev.pos (by omega) (Ev.pos (by omega) (Ev.pos (by omega) (Ev.neg (by simp) ?_))))
    rw [w64 (by omega) (by omega), show ((i : Int) + 1) = ((i + 1 : Nat) : Int) by omega]
    exact same_l l hl r (i + 1) (dnext hd)
theorem same_ev (l : List Er) (hl : l.length ≤ 4194304) : Ev (fun k => spoorref20_Same.f k l l) true := by
  simp only [spoorref20_Same.f]
  exact Ev.pos trivial (same_l l hl l 0 rfl)
def contR (w1 : Int) : Int → Option Vd → List Er → Bool
  | f, _, [] => decide (f = w1 + 1)
  | f, p, x :: xs => rightB x.f1 && decide (x.f0.f0 = f) && decide (x.f0.f0 ≤ x.f0.f1) && decide (x.f0.f1 ≤ w1) && (match p with
    | none => true
    | some v => !(x.f1.f0 == v.f0 && x.f1.f1 == v.f1)) && contR w1 (x.f0.f1 + 1) (some x.f1) xs
theorem contR_iff (w1 : Int) : ∀ (l : List Er) (f : Int) (p : Option Vd), contR w1 f p l = true ↔ cont f l = some (w1 + 1) ∧ alt p l
  | [], f, p => by simp [contR, cont, alt]
  | x :: xs, f, p => by
    have ih := contR_iff w1 xs (x.f0.f1 + 1) (some x.f1)
    simp only [contR, Bool.and_eq_true, decide_eq_true_eq, ih]
    have e : cont f (x :: xs) = if x.f0.f0 = f ∧ f ≤ x.f0.f1 ∧ rightB x.f1 = true then cont (x.f0.f1 + 1) xs else none := rfl
    constructor
    · rintro ⟨⟨⟨⟨⟨h1, h2⟩, h3⟩, h4⟩, h5⟩, h6, h7⟩
      refine ⟨by rw [e, if_pos ⟨h2, by omega, h1⟩]; exact h6, ?_⟩
      cases p with
      | none => exact h7
      | some v =>
        refine ⟨fun hs => ?_, h7⟩
        obtain ⟨g1, g2⟩ := hs
        simp [g1, g2] at h5
    · rintro ⟨h1, h2⟩
      rw [e] at h1
      by_cases c : x.f0.f0 = f ∧ f ≤ x.f0.f1 ∧ rightB x.f1 = true
      case neg => rw [if_neg c] at h1; cases h1
      rw [if_pos c] at h1
      have hle := cont_le _ _ _ h1
      have h7 : alt (some x.f1) xs := by
        cases p with
        | none => exact h2
        | some v => exact h2.2
      refine ⟨⟨⟨⟨⟨c.2.2, c.1⟩, by omega⟩, by omega⟩, ?_⟩, h1, h7⟩
      cases p with
      | none => rfl
      | some v =>
        have hs : ¬ sameV x.f1 v := h2.1
        by_cases g : x.f1.f0 = v.f0
        · have g2 : x.f1.f1 ≠ v.f1 := fun h => hs ⟨g, h⟩
          simp [g2]
        · simp [g]
def prevV (l : List Er) (i : Nat) : Option Vd := if i = 0 then none else (l[i - 1]?).map (·.f1)
theorem rj2_no (l m : List Er) (i n j a b c d e f : Int) : Ev (fun k => spoorref20_Check.j2 k l i m n j true a b c d e f) 2 := by
  refine Ev.succ ?_
  simp only [spoorref20_Check.j2]
  exact Ev.pos trivial (Ev.const rfl)
theorem rchk_l (l : List Er) (hl : l.length ≤ 1024) (w0 w1 : Int) (hw0 : -1 ≤ w1) (hw1 : w1 ≤ 1099511627776) : ∀ (r : List Er) (i : Nat) (f : Int), l.drop i = r → 0 ≤ f → Ev (fun k => spoorref20_Check.l0 k l f l (l.length : Int) (i : Int) w0 w1) (ec (contR w1 f (prevV l i) r))
  | [], i, f, hd, hf => by
    have h1 : l.length ≤ i := List.drop_eq_nil_iff.1 hd
    refine Ev.succ ?_
    simp only [spoorref20_Check.l0]
    refine Ev.neg (by omega) ?_
    rw [w64 (by omega) (by omega)]
    simp only [contR]
    by_cases c : f = w1 + 1
    · rw [decide_eq_true c]
      exact Ev.pos c (Ev.const rfl)
    · rw [decide_eq_false c]
      exact Ev.neg c (Ev.const rfl)
  | x :: r, i, f, hd, hf => by
    have hlt := dlt hd
    have hp : prevV l (i + 1) = some x.f1 := by
      unfold prevV
      rw [if_neg (by omega), Nat.add_sub_cancel, ← List.head?_drop, hd]
      rfl
    refine Ev.succ ?_
    simp only [spoorref20_Check.l0, rdV hd]
    refine Ev.pos (by omega) (Ev.pos (by omega) (Ev.pos (by omega) ?_))
    rw [one20]
    simp only [Option.bind_some, contR]
    by_cases h1 : rightB x.f1 = true
    case neg =>
      rw [Bool.eq_false_iff.2 h1]
      exact Ev.neg (by simp) (rj2_no ..)
    rw [h1]
    refine Ev.pos rfl ?_
    by_cases h2 : x.f0.f0 = f
    case neg =>
      rw [decide_eq_false h2]
      exact Ev.neg h2 (rj2_no ..)
    rw [decide_eq_true h2]
    refine Ev.pos h2 ?_
    by_cases h3 : x.f0.f1 < x.f0.f0
    · rw [decide_eq_false (show ¬ x.f0.f0 ≤ x.f0.f1 by omega)]
      exact Ev.pos h3 (rj2_no ..)
    rw [decide_eq_true (show x.f0.f0 ≤ x.f0.f1 by omega)]
    refine Ev.neg h3 ?_
    by_cases h4 : x.f0.f1 > w1
    · rw [decide_eq_true h4, decide_eq_false (show ¬ x.f0.f1 ≤ w1 by omega)]
      exact rj2_no ..
    rw [decide_eq_false h4, decide_eq_true (show x.f0.f1 ≤ w1 by omega)]
    have ih := rchk_l l hl w0 w1 hw0 hw1 r (i + 1) (x.f0.f1 + 1) (dnext hd) (by omega)
    rw [hp] at ih
    refine Ev.succ ?_
    simp only [spoorref20_Check.j2, Bool.true_and]
    refine Ev.neg (by simp) ?_
    have e1 : wrap64 ((i : Int) + 1) = ((i + 1 : Nat) : Int) := by rw [w64 (by omega) (by omega)]; omega
    have e2 : wrap64 (x.f0.f1 + 1) = x.f0.f1 + 1 := w64 (by omega) (by omega)
    rw [e1, e2]
    by_cases h5 : (i : Int) > 0
    · refine Ev.pos h5 ?_
      obtain ⟨q, hq⟩ : ∃ q, l[i - 1]? = some q := ⟨_, List.getElem?_eq_getElem (by omega)⟩
      have hpq : prevV l i = some q.f1 := by unfold prevV; rw [if_neg (by omega), hq]; rfl
      have hrd : rd_T52 l (wrap64 ((i : Int) - 1)) = q := by
        rw [w64 (by omega) (by omega), show ((i : Int) - 1) = ((i - 1 : Nat) : Int) by omega]
        simp [rd_T52, List.getD_eq_getElem?_getD, hq]
      rw [hpq, hrd]
      refine Ev.pos (by rw [w64 (by omega) (by omega)]; omega) (Ev.pos (by rw [w64 (by omega) (by omega)]; omega) ?_)
      dsimp only
      by_cases h6 : (x.f1.f0 == q.f1.f0 && x.f1.f1 == q.f1.f1) = true
      · rw [h6]
        exact Ev.pos rfl (Ev.const rfl)
      · rw [Bool.eq_false_iff.2 h6]
        exact Ev.neg (by simp) ih
    · refine Ev.neg h5 ?_
      obtain rfl : i = 0 := by omega
      exact ih
theorem rj0_no (l : List Er) (a b : Int) : Ev (fun k => spoorref20_Check.j0 k l true a b) 2 := by
  refine Ev.succ ?_
  simp only [spoorref20_Check.j0]
  exact Ev.pos trivial (Ev.const rfl)
theorem lineB_R (w0 w1 : Int) (l : List Er) : lineB w0 w1 l = (decide (winP w0 w1) && decide (l ≠ []) && decide (l.length ≤ 1024) && contR w1 w0 none l) := by
  rw [Bool.eq_iff_iff, line_iff]
  simp only [Bool.and_eq_true, decide_eq_true_eq, contR_iff]
  exact ⟨fun h => ⟨⟨⟨h.win, h.ne⟩, h.len⟩, h.cont, h.alt⟩, fun ⟨⟨⟨h1, h2⟩, h3⟩, h4, h5⟩ => ⟨h1, h2, h3, h4, h5⟩⟩
theorem rcheck_ev (l : List Er) (w0 w1 : Int) : Ev (fun k => spoorref20_Check.f k w0 w1 l) (ec (lineB w0 w1 l)) := by
  simp only [spoorref20_Check.f]
  rw [one19, lineB_R]
  simp only [Option.bind_some]
  by_cases c0 : winP w0 w1
  case neg =>
    rw [decide_eq_false c0]
    exact Ev.neg (by simp) (rj0_no ..)
  rw [decide_eq_true c0]
  refine Ev.pos rfl ?_
  by_cases c1 : l = []
  · subst c1
    exact Ev.pos (by simp) (rj0_no ..)
  have hlen := List.length_pos_iff.2 c1
  rw [decide_eq_true c1]
  refine Ev.neg (by omega) ?_
  by_cases c2 : (l.length : Int) > 1024
  · rw [decide_eq_true c2, decide_eq_false (show ¬ l.length ≤ 1024 by omega)]
    exact rj0_no ..
  rw [decide_eq_false c2, decide_eq_true (show l.length ≤ 1024 by omega)]
  refine Ev.succ ?_
  simp only [spoorref20_Check.j0, Bool.true_and]
  obtain ⟨v1, v2, v3⟩ := c0
  exact Ev.neg (by simp) (rchk_l l (by omega) w0 w1 (by omega) v3 l 0 w0 rfl v1)
end Go.Proofs.Ytghklhdooemjdaa.Line
end
section
namespace Go.Proofs.Ytghklhdooemjdaa.Turn
set_option linter.unusedVariables false
open Go.RowKit Go.Proofs.Ytghklhdooemjdaa.Q Go.Proofs.YtghklhdooemjdaaW.PrintWords Go.Proofs.YtghklhdooemjdaaW.PrintLast Go.Proofs.Ytghklhdooemjdaa.Base
abbrev Iv := S23
abbrev Rn := S102
theorem posL_spec (t : Int) (xs : List Int) : ∀ i, (∀ j, posL t xs i ≤ j → j < i → t < xs.getD j 0) ∧ (0 < posL t xs i → xs.getD (posL t xs i - 1) 0 ≤ t)
  | 0 => ⟨fun j _ h => absurd h (Nat.not_lt_zero j), fun h => absurd h (Nat.lt_irrefl 0)⟩
  | i + 1 => by
    obtain ⟨h1, h2⟩ := posL_spec t xs i
    by_cases c : t < xs.getD i 0
    · have e : posL t xs (i + 1) = posL t xs i := if_pos c
      rw [e]
      refine ⟨fun j a b => ?_, h2⟩
      by_cases d : j = i
      · rw [d]; exact c
      · exact h1 j a (by omega)
    · have e : posL t xs (i + 1) = i + 1 := if_neg c
      rw [e]
      refine ⟨fun j a b => by omega, fun _ => ?_⟩
      rw [Nat.add_sub_cancel]
      exact Int.not_lt.1 c
theorem getD_of {xs : List Int} {i : Nat} (h : i < xs.length) : xs.getD i 0 = xs[i] := by
  rw [List.getD_eq_getElem?_getD, List.getElem?_eq_getElem h]
  rfl
theorem ins_ok (xs : List Int) (t : Int) (h : xs.Pairwise (· < ·)) : (insS xs t).Pairwise (· < ·) ∧ ∀ x, x ∈ insS xs t ↔ x = t ∨ x ∈ xs := by
  have hp := posL_le t xs xs.length
  obtain ⟨h1, h2⟩ := posL_spec t xs xs.length
  unfold insS
  generalize posL t xs xs.length = p at *
  by_cases c : 0 < p ∧ xs.getD (p - 1) 0 = t
  · rw [if_pos c]
    refine ⟨h, fun x => ⟨.inr, fun hx => hx.elim (fun e => ?_) id⟩⟩
    rw [e, ← c.2, getD_of (by omega)]
    exact List.getElem_mem _
  · rw [if_neg c]
    have hs : xs = xs.take p ++ xs.drop p := (List.take_append_drop p xs).symm
    have hlow : ∀ a ∈ xs.take p, a < t := fun a ha => by
      obtain ⟨i, hi, rfl⟩ := List.mem_iff_getElem.1 ha
      rw [List.length_take] at hi
      rw [List.getElem_take]
      have h0 : 0 < p := by omega
      have h3 := h2 h0
      rw [getD_of (by omega)] at h3
      have h4 : xs[p - 1]'(by omega) ≠ t := fun e => c ⟨h0, by rw [getD_of (by omega)]; exact e⟩
      have h5 : xs[i]'(by omega) ≤ xs[p - 1]'(by omega) := by
        by_cases d : i = p - 1
        · subst d; exact Int.le_refl _
        · exact Int.le_of_lt (List.pairwise_iff_getElem.1 h i (p - 1) (by omega) (by omega) (by omega))
      omega
    have hhigh : ∀ b ∈ xs.drop p, t < b := fun b hb => by
      obtain ⟨i, hi, rfl⟩ := List.mem_iff_getElem.1 hb
      rw [List.length_drop] at hi
      rw [List.getElem_drop]
      have h3 := h1 (p + i) (by omega) (by omega)
      rw [getD_of (by omega)] at h3
      exact h3
    refine ⟨?_, fun x => ?_⟩
    · rw [List.pairwise_append]
      rw [hs, List.pairwise_append] at h
      refine ⟨h.1, List.pairwise_cons.2 ⟨hhigh, h.2.1⟩, fun a ha b hb => ?_⟩
      rcases List.mem_cons.1 hb with e | hb
      · rw [e]; exact hlow a ha
      · exact h.2.2 a ha b hb
    · conv => rhs; rw [hs]
      simp only [List.mem_append, List.mem_cons]
      exact ⟨fun h => h.elim (fun a => .inr (.inl a)) (fun b => b.elim .inl (fun c => .inr (.inr c))), fun h => h.elim (fun a => .inr (.inl a)) (fun b => b.elim .inl (fun c => .inr (.inr c)))⟩
theorem sorted_ok : ∀ (l acc : List Int), acc.Pairwise (· < ·) → (l.foldl insS acc).Pairwise (· < ·) ∧ ∀ x, x ∈ l.foldl insS acc ↔ x ∈ acc ∨ x ∈ l
  | [], acc, h => ⟨h, fun x => by simp⟩
  | t :: l, acc, h => by
    obtain ⟨h1, h2⟩ := ins_ok acc t h
    obtain ⟨h3, h4⟩ := sorted_ok l (insS acc t) h1
    refine ⟨h3, fun x => ?_⟩
    rw [List.foldl_cons, h4 x, h2 x, List.mem_cons]
    exact ⟨fun h => h.elim (fun a => a.elim (fun b => .inr (.inl b)) .inl) (fun a => .inr (.inr a)), fun h => h.elim (fun a => .inl (.inr a)) (fun a => a.elim (fun b => .inl (.inl b)) .inr)⟩
theorem ins_len (xs : List Int) (t : Int) : (insS xs t).length ≤ xs.length + 1 := insS_len xs t
theorem sorted_len : ∀ (l acc : List Int), (l.foldl insS acc).length ≤ acc.length + l.length
  | [], acc => Nat.le_refl _
  | t :: l, acc => by
    have h1 := sorted_len l (insS acc t)
    have h2 := ins_len acc t
    rw [List.foldl_cons, List.length_cons]
    omega
def turn (P : Int → Bool) (e : Int) : Option Int → List Int → List Iv
  | none, [] => []
  | some s, [] => [⟨s, e⟩]
  | none, t :: ts => if P t = true then turn P e (some t) ts else turn P e none ts
  | some s, t :: ts => if P t = true then turn P e (some s) ts else ⟨s, t - 1⟩ :: turn P e none ts
def lastP (P : Int → Bool) : Bool → List Int → Int → Bool
  | d, [], _ => d
  | d, t :: ts, x => if t ≤ x then lastP P (P t) ts x else d
theorem last_lt (P : Int → Bool) (d : Bool) (x : Int) : ∀ (ts : List Int), (∀ t ∈ ts, x < t) → lastP P d ts x = d
  | [], _ => rfl
  | t :: ts, h => if_neg (Int.not_le.2 (h t (by simp)))
def inR (x : Int) (l : List Iv) : Prop := ∃ y ∈ l, y.f0 ≤ x ∧ x ≤ y.f1
theorem inR_nil (x : Int) : inR x [] ↔ False := ⟨fun ⟨y, h, _⟩ => by simp at h, fun h => h.elim⟩
theorem inR_cons (x : Int) (y : Iv) (l : List Iv) : inR x (y :: l) ↔ (y.f0 ≤ x ∧ x ≤ y.f1) ∨ inR x l := by
  unfold inR
  simp only [List.mem_cons, exists_eq_or_imp]
def fromO : Option Int → Int → Prop
  | none, _ => True
  | some s, x => s ≤ x
theorem turn_has (P : Int → Bool) (e : Int) (x : Int) : ∀ (ts : List Int) (o : Option Int), ts.Pairwise (· < ·) → (∀ t ∈ ts, t ≤ e) → (∀ s, o = some s → ∀ t ∈ ts, s < t) →
    (inR x (turn P e o ts) ↔ fromO o x ∧ x ≤ e ∧ lastP P o.isSome ts x = true)
  | [], none, _, _, _ => by simp [turn, inR_nil, lastP]
  | [], some s, _, _, _ => by simp [turn, inR_cons, inR_nil, lastP, fromO]
  | t :: ts, none, hs, he, ho => by
    obtain ⟨hs1, hs2⟩ := List.pairwise_cons.1 hs
    have he2 : ∀ t' ∈ ts, t' ≤ e := fun t' h => he t' (by simp [h])
    by_cases c : P t = true
    · have e1 : turn P e none (t :: ts) = turn P e (some t) ts := if_pos c
      rw [e1, turn_has P e x ts (some t) hs2 he2 (fun s hs t' h' => by rw [← Option.some.inj hs]; exact hs1 t' h')]
      simp only [fromO, lastP, c, Option.isSome_some, Option.isSome_none, true_and]
      by_cases d : t ≤ x
      · rw [if_pos d]
        exact ⟨fun h => h.2, fun h => ⟨d, h⟩⟩
      · rw [if_neg d]
        exact ⟨fun h => absurd h.1 d, fun h => by cases h.2⟩
    · have e1 : turn P e none (t :: ts) = turn P e none ts := if_neg c
      rw [e1, turn_has P e x ts none hs2 he2 (fun s hs => by cases hs)]
      simp only [fromO, lastP, Option.isSome_none, true_and]
      by_cases d : t ≤ x
      · rw [if_pos d, Bool.eq_false_iff.2 c]
      · rw [if_neg d, last_lt P false x ts (fun t' h' => by have := hs1 t' h'; omega)]
  | t :: ts, some s, hs, he, ho => by
    obtain ⟨hs1, hs2⟩ := List.pairwise_cons.1 hs
    have he2 : ∀ t' ∈ ts, t' ≤ e := fun t' h => he t' (by simp [h])
    have hst := ho s rfl t (by simp)
    have hte := he t (by simp)
    by_cases c : P t = true
    · have e1 : turn P e (some s) (t :: ts) = turn P e (some s) ts := if_pos c
      rw [e1, turn_has P e x ts (some s) hs2 he2 (fun s' hs t' h' => by rw [← Option.some.inj hs]; have := hs1 t' h'; omega)]
      simp only [fromO, lastP, c, Option.isSome_some]
      by_cases d : t ≤ x
      · rw [if_pos d]
      · rw [if_neg d, last_lt P true x ts (fun t' h' => by have := hs1 t' h'; omega)]
    · have e1 : turn P e (some s) (t :: ts) = ⟨s, t - 1⟩ :: turn P e none ts := if_neg c
      rw [e1, inR_cons, turn_has P e x ts none hs2 he2 (fun s hs => by cases hs)]
      simp only [fromO, lastP, Option.isSome_some, Option.isSome_none, true_and]
      by_cases d : t ≤ x
      · rw [if_pos d, Bool.eq_false_iff.2 c]
        exact ⟨fun h => h.elim (fun a => by omega) (fun b => ⟨by omega, b⟩), fun h => .inr h.2⟩
      · rw [if_neg d, last_lt P false x ts (fun t' h' => by have := hs1 t' h'; omega)]
        exact ⟨fun h => h.elim (fun a => ⟨a.1, by omega, rfl⟩) (fun b => by cases b.2), fun h => .inl ⟨h.1, by omega⟩⟩
theorem last_eq (P : Int → Bool) (x : Int) : ∀ (ts : List Int) (d : Bool), ts.Pairwise (· < ·) → (∃ t ∈ ts, t ≤ x) → (∀ t ∈ ts, t ≤ x → (∀ t' ∈ ts, t < t' → x < t') → P t = P x) → lastP P d ts x = P x
  | [], d, _, h, _ => by obtain ⟨t, ht, _⟩ := h; cases ht
  | t :: ts, d, hs, h, hc => by
    obtain ⟨hs1, hs2⟩ := List.pairwise_cons.1 hs
    have hle : t ≤ x := by
      obtain ⟨t', ht', hx⟩ := h
      rcases List.mem_cons.1 ht' with e | m
      · rw [← e]; exact hx
      · have := hs1 t' m; omega
    have e1 : lastP P d (t :: ts) x = lastP P (P t) ts x := if_pos hle
    rw [e1]
    by_cases c : ∃ t' ∈ ts, t' ≤ x
    · refine last_eq P x ts (P t) hs2 c (fun u hu hux hn => hc u (by simp [hu]) hux (fun t' ht' hlt => ?_))
      rcases List.mem_cons.1 ht' with e | m
      · have := hs1 u hu; omega
      · exact hn t' m hlt
    · have hgt : ∀ t' ∈ ts, x < t' := fun t' h' => Int.not_le.1 (fun hh => c ⟨t', h', hh⟩)
      rw [last_lt P (P t) x ts hgt]
      refine hc t (by simp) hle (fun t' ht' hlt => ?_)
      rcases List.mem_cons.1 ht' with e | m
      · omega
      · exact hgt t' m
def runI (x : Iv) : Rn := ⟨x.f0, x.f1⟩
def sndL : Option Int → List Iv → Prop
  | _, [] => True
  | p, x :: xs => 0 ≤ x.f0 ∧ x.f0 ≤ x.f1 ∧ x.f1 ≤ 1099511627776 ∧ (∀ u, p = some u → u + 1 < x.f0) ∧ sndL (some x.f1) xs
theorem snd_iff : ∀ (l : List Iv) (p : Option Int), (∀ u, p = some u → u ≤ 1099511627776) → (soundL p (l.map runI) = true ↔ sndL p l)
  | [], p, _ => by cases p <;> simp [soundL, sndL]
  | x :: xs, p, hp => by
    have e : soundL p ((x :: xs).map runI) = if x.f0 < 0 ∨ x.f1 < x.f0 ∨ 1099511627776 < x.f1 then false else
      match p with
      | none => soundL (some x.f1) (xs.map runI)
      | some t => if t = 1099511627776 ∨ x.f0 ≤ t + 1 then false else soundL (some x.f1) (xs.map runI) := by cases p <;> rfl
    rw [e]
    simp only [sndL]
    by_cases c : x.f0 < 0 ∨ x.f1 < x.f0 ∨ 1099511627776 < x.f1
    · rw [if_pos c]
      exact ⟨fun h => (by cases h), fun h => by omega⟩
    rw [if_neg c]
    have ih := snd_iff xs (some x.f1) (fun u hu => by rw [← Option.some.inj hu]; omega)
    cases p with
    | none =>
      dsimp only
      rw [ih]
      exact ⟨fun h => ⟨by omega, by omega, by omega, fun u hu => (by cases hu), h⟩, fun h => h.2.2.2.2⟩
    | some t =>
      have ht := hp t rfl
      dsimp only
      by_cases d : t = 1099511627776 ∨ x.f0 ≤ t + 1
      · rw [if_pos d]
        exact ⟨fun h => (by cases h), fun h => by have := h.2.2.2.1 t rfl; omega⟩
      · rw [if_neg d, ih]
        exact ⟨fun h => ⟨by omega, by omega, by omega, fun u hu => by rw [← Option.some.inj hu]; omega, h⟩, fun h => h.2.2.2.2⟩
theorem snd_low : ∀ (l : List Iv) (u x : Int), sndL (some u) l → inR x l → u + 1 < x
  | [], u, x, _, h => ((inR_nil x).1 h).elim
  | y :: l, u, x, hs, h => by
    obtain ⟨h1, h2, h3, h4, h5⟩ := hs
    have h6 := h4 u rfl
    rcases (inR_cons x y l).1 h with a | a
    · omega
    · have := snd_low l y.f1 x h5 a; omega
theorem snd_none {p : Option Int} {l : List Iv} (h : sndL p l) : sndL none l := by
  cases l with
  | nil => trivial
  | cons x xs => exact ⟨h.1, h.2.1, h.2.2.1, fun u hu => (by cases hu), h.2.2.2.2⟩
theorem snd_one : ∀ (l m : List Iv), sndL none l → sndL none m → (∀ x, inR x l ↔ inR x m) → l = m
  | [], [], _, _, _ => rfl
  | [], y :: m, _, hm, h => ((inR_nil _).1 ((h y.f0).2 ((inR_cons _ _ _).2 (.inl ⟨Int.le_refl _, hm.2.1⟩)))).elim
  | x :: l, [], hl, _, h => ((inR_nil _).1 ((h x.f0).1 ((inR_cons _ _ _).2 (.inl ⟨Int.le_refl _, hl.2.1⟩)))).elim
  | x :: l, y :: m, hl, hm, h => by
    obtain ⟨a1, a2, a3, a4, a5⟩ := hl
    obtain ⟨b1, b2, b3, b4, b5⟩ := hm
    have lo : ∀ {z : Iv} {r : List Iv} {t : Int}, z.f0 ≤ z.f1 → sndL (some z.f1) r → inR t (z :: r) → z.f0 ≤ t := fun {z r t} hz hr ht => by
      rcases (inR_cons t z r).1 ht with a | a
      · exact a.1
      · have := snd_low r z.f1 t hr a; omega
    have e0 : x.f0 = y.f0 := by
      have h1 := lo b2 b5 ((h x.f0).1 ((inR_cons _ _ _).2 (.inl ⟨Int.le_refl _, a2⟩)))
      have h2 := lo a2 a5 ((h y.f0).2 ((inR_cons _ _ _).2 (.inl ⟨Int.le_refl _, b2⟩)))
      omega
    have up : ∀ {z : Iv} {r : List Iv} {t : Int}, sndL (some z.f1) r → inR t (z :: r) → t ≤ z.f1 ∨ z.f1 + 1 < t := fun {z r t} hr ht => by
      rcases (inR_cons t z r).1 ht with a | a
      · exact .inl a.2
      · exact .inr (snd_low r z.f1 t hr a)
    have e1 : x.f1 = y.f1 := by
      by_cases c : x.f1 < y.f1
      · have h1 := up a5 ((h (x.f1 + 1)).2 ((inR_cons _ _ _).2 (.inl ⟨by omega, by omega⟩)))
        omega
      · by_cases d : y.f1 < x.f1
        · have h1 := up b5 ((h (y.f1 + 1)).1 ((inR_cons _ _ _).2 (.inl ⟨by omega, by omega⟩)))
          omega
        · omega
    have exy : x = y := by
      cases x; cases y
      simp only at e0 e1
      rw [e0, e1]
    subst exy
    rw [snd_one l m (snd_none a5) (snd_none b5) (fun t => ?_)]
    have ht := h t
    rw [inR_cons, inR_cons] at ht
    constructor
    · intro hh
      have g := snd_low l x.f1 t a5 hh
      rcases ht.1 (.inr hh) with a | a
      · omega
      · exact a
    · intro hh
      have g := snd_low m x.f1 t b5 hh
      rcases ht.2 (.inr hh) with a | a
      · omega
      · exact a
theorem turn_sound (P : Int → Bool) (e : Int) (he1 : e ≤ 1099511627776) : ∀ (ts : List Int) (o : Option Int) (p : Option Int), ts.Pairwise (· < ·) → (∀ t ∈ ts, 0 ≤ t ∧ t ≤ e) → (∀ s, o = some s → 0 ≤ s ∧ s ≤ e ∧ ∀ t ∈ ts, s < t) →
    (∀ u, p = some u → (∀ s, o = some s → u + 1 < s) ∧ ∀ t ∈ ts, u + 1 < t) → sndL p (turn P e o ts)
  | [], none, p, _, _, _, _ => trivial
  | [], some s, p, _, _, ho, hp => ⟨(ho s rfl).1, (ho s rfl).2.1, he1, fun u hu => (hp u hu).1 s rfl, trivial⟩
  | t :: ts, none, p, hs, he, ho, hp => by
    obtain ⟨hs1, hs2⟩ := List.pairwise_cons.1 hs
    have he2 : ∀ t' ∈ ts, 0 ≤ t' ∧ t' ≤ e := fun t' h => he t' (by simp [h])
    by_cases c : P t = true
    · have e1 : turn P e none (t :: ts) = turn P e (some t) ts := if_pos c
      rw [e1]
      refine turn_sound P e he1 ts (some t) p hs2 he2 (fun s hs => ?_) (fun u hu => ⟨fun s hs => ?_, fun t' h' => (hp u hu).2 t' (by simp [h'])⟩)
      · rw [← Option.some.inj hs]; exact ⟨(he t (by simp)).1, (he t (by simp)).2, hs1⟩
      · rw [← Option.some.inj hs]; exact (hp u hu).2 t (by simp)
    · have e1 : turn P e none (t :: ts) = turn P e none ts := if_neg c
      rw [e1]
      exact turn_sound P e he1 ts none p hs2 he2 (fun s hs => by cases hs) (fun u hu => ⟨fun s hs => (by cases hs), fun t' h' => (hp u hu).2 t' (by simp [h'])⟩)
  | t :: ts, some s, p, hs, he, ho, hp => by
    obtain ⟨hs1, hs2⟩ := List.pairwise_cons.1 hs
    have he2 : ∀ t' ∈ ts, 0 ≤ t' ∧ t' ≤ e := fun t' h => he t' (by simp [h])
    obtain ⟨o1, o2, o3⟩ := ho s rfl
    have hst := o3 t (by simp)
    have hte := he t (by simp)
    by_cases c : P t = true
    · have e1 : turn P e (some s) (t :: ts) = turn P e (some s) ts := if_pos c
      rw [e1]
      exact turn_sound P e he1 ts (some s) p hs2 he2 (fun s' hs' => by rw [← Option.some.inj hs']; exact ⟨o1, o2, fun t' h' => o3 t' (by simp [h'])⟩) (fun u hu => ⟨(hp u hu).1, fun t' h' => (hp u hu).2 t' (by simp [h'])⟩)
    · have e1 : turn P e (some s) (t :: ts) = ⟨s, t - 1⟩ :: turn P e none ts := if_neg c
      rw [e1]
      refine ⟨o1, by show s ≤ t - 1; omega, by show t - 1 ≤ _; omega, fun u hu => (hp u hu).1 s rfl, ?_⟩
      exact turn_sound P e he1 ts none _ hs2 he2 (fun s hs => by cases hs) (fun u hu => ⟨fun s hs => (by cases hs), fun t' h' => by have := hs1 t' h'; have h9 : t - 1 = u := Option.some.inj hu; omega⟩)
end Go.Proofs.Ytghklhdooemjdaa.Turn
end
section
namespace Go.Proofs.Ytghklhdooemjdaa.Line
set_option linter.unusedVariables false
open Go.RowKit Go.Proofs.Ytghklhdooemjdaa.Q Go.Proofs.YtghklhdooemjdaaW.PrintWords Go.Proofs.YtghklhdooemjdaaW.PrintLast Go.Proofs.YtghklhdooemjdaaW.PrintMore Go.Proofs.Ytghklhdooemjdaa.Base Go.Proofs.Ytghklhdooemjdaa.Open
theorem same19_l (l : List Iv) (hl : l.length ≤ 4194304) : ∀ (r : List Iv) (i : Nat), l.drop i = r → Ev (fun k => spoorref19_Same.l0 k l l (l.length : Int) (i : Int)) true
  | [], i, hd => by
    have h1 : l.length ≤ i := List.drop_eq_nil_iff.1 hd
    refine Ev.succ ?_
    simp only [spoorref19_Same.l0]
    exact Ev.neg (by omega) (Ev.const rfl)
  | x :: r, i, hd => by
    have hlt := dlt hd
    refine Ev.succ ?_
    simp only [spoorref19_Same.l0, rdI hd]
    refine Ev.pos (by omega) (Ev.pos (by omega) (Ev.pos (by omega) (Ev.pos (by omega) (Ev.neg (by simp) ?_))))
    rw [w64 (by omega) (by omega), show ((i : Int) + 1) = ((i + 1 : Nat) : Int) by omega]
    exact same19_l l hl r (i + 1) (dnext hd)
theorem same19_ev (l : List Iv) (hl : l.length ≤ 4194304) : Ev (fun k => spoorref19_Same.f k l l) true := by
  simp only [spoorref19_Same.f]
  exact Ev.pos trivial (same19_l l hl l 0 rfl)
def holdsV (t : Int) : List Er → Vd
  | [] => ⟨0, 0⟩
  | x :: xs => if x.f0.f0 ≤ t ∧ t ≤ x.f0.f1 then x.f1 else holdsV t xs
theorem holds_l (t : Int) (l : List Er) (hl : l.length ≤ 1048576) : ∀ (r : List Er) (i : Nat), l.drop i = r → Ev (fun k => spoorref20_holds.l0 k t l (l.length : Int) (i : Int)) ((holdsV t r).f0, (holdsV t r).f1)
  | [], i, hd => by
    have h1 : l.length ≤ i := List.drop_eq_nil_iff.1 hd
    refine Ev.succ ?_
    simp only [spoorref20_holds.l0]
    exact Ev.neg (by omega) (Ev.const rfl)
  | x :: r, i, hd => by
    have hlt := dlt hd
    have ih := holds_l t l hl r (i + 1) (dnext hd)
    refine Ev.succ ?_
    simp only [spoorref20_holds.l0, rdV hd]
    refine Ev.pos (by omega) (Ev.pos (by omega) (Ev.pos (by omega) ?_))
    rw [w64 (by omega) (by omega), show ((i : Int) + 1) = ((i + 1 : Nat) : Int) by omega]
    by_cases c : x.f0.f0 ≤ t
    · refine Ev.pos c ?_
      by_cases d : t ≤ x.f0.f1
      · have e : holdsV t (x :: r) = x.f1 := if_pos ⟨c, d⟩
        rw [e]
        exact Ev.pos d (Ev.const rfl)
      · have e : holdsV t (x :: r) = holdsV t r := if_neg (fun h => d h.2)
        rw [e]
        exact Ev.neg d ih
    · have e : holdsV t (x :: r) = holdsV t r := if_neg (fun h => c h.1)
      rw [e]
      exact Ev.neg c ih
theorem holds_ev (t : Int) (l : List Er) (hl : l.length ≤ 1048576) : Ev (fun k => spoorref20_holds.f k l t) ((holdsV t l).f0, (holdsV t l).f1) := by
  simp only [spoorref20_holds.f]
  exact holds_l t l hl l 0 rfl
theorem holds_val (t : Int) : ∀ (l : List Er) (a e : Int), cont a l = some e → a ≤ t → holdsV t l = val t l
  | [], a, e, h, h0 => rfl
  | x :: xs, a, e, h, h0 => by
    obtain ⟨c1, c2, c3⟩ := cont_head h
    by_cases d : t ≤ x.f0.f1
    · have e1 : holdsV t (x :: xs) = x.f1 := if_pos ⟨by omega, d⟩
      have e2 : val t (x :: xs) = x.f1 := if_pos d
      rw [e1, e2]
    · have e1 : holdsV t (x :: xs) = holdsV t xs := if_neg (fun h => d h.2)
      have e2 : val t (x :: xs) = val t xs := if_neg d
      rw [e1, e2]
      exact holds_val t xs _ e c3 (by omega)
theorem val_const (t x : Int) (htx : t ≤ x) : ∀ (l : List Er) (a e : Int), cont a l = some e → a ≤ t → x < e → (∀ y ∈ l, t < y.f0.f0 → x < y.f0.f0) → val t l = val x l
  | [], a, e, h, h0, h1, _ => rfl
  | y :: ys, a, e, h, h0, h1, hn => by
    obtain ⟨c1, c2, c3⟩ := cont_head h
    by_cases d : t ≤ y.f0.f1
    · have d2 : x ≤ y.f0.f1 := by
        cases ys with
        | nil => have := Option.some.inj c3; omega
        | cons z zs =>
          obtain ⟨g1, g2, g3⟩ := cont_head c3
          have := hn z (by simp) (by omega)
          omega
      have e1 : val t (y :: ys) = y.f1 := if_pos d
      have e2 : val x (y :: ys) = y.f1 := if_pos d2
      rw [e1, e2]
    · have e1 : val t (y :: ys) = val t ys := if_neg d
      have e2 : val x (y :: ys) = val x ys := if_neg (by omega)
      rw [e1, e2]
      exact val_const t x htx ys _ e c3 (by omega) h1 (fun z hz => hn z (by simp [hz]))
theorem rat_ev (w0 w1 : Int) (l : List Er) (t : Int) : Ev (fun k => spoorref20_At.f k w0 w1 l t) (atV w0 w1 l t) := by
  simp only [spoorref20_At.f]
  refine Ev.bind (rcheck_ev l w0 w1) ?_
  unfold atV
  by_cases c : lineB w0 w1 l = true
  case neg =>
    rw [if_neg c, Bool.eq_false_iff.2 c]
    exact Ev.neg (by decide) (Ev.const rfl)
  rw [if_pos c, c]
  have hok := (line_iff w0 w1 l).1 c
  have hlen := hok.len
  refine Ev.pos rfl ?_
  by_cases d : t < w0 ∨ w1 < t
  · simp only [if_pos d]
    by_cases d0 : t < w0
    · exact Ev.pos d0 (Ev.const rfl)
    · exact Ev.neg d0 (Ev.pos (by omega) (Ev.const rfl))
  · simp only [if_neg d]
    refine Ev.neg (by omega) (Ev.neg (by omega) (Ev.bind (holds_ev t l (by omega)) (Ev.const ?_)))
    rw [holds_val t l w0 (w1 + 1) hok.cont (by omega)]
def whenE (v0 v1 : Int) (x : Er) : Option Iv := if x.f1.f0 = v0 ∧ x.f1.f1 = v1 then some ⟨x.f0.f0, x.f0.f1⟩ else none
def whenV (w0 w1 : Int) (l : List Er) (v0 v1 : Int) : List Iv × Int := if lineB w0 w1 l = true then (l.filterMap (whenE v0 v1), 0) else ([], 2)
theorem when_l (v0 v1 : Int) (l : List Er) (hl : l.length ≤ 1024) : ∀ (r : List Er) (i : Nat) (a : List Iv), l.drop i = r → a.length ≤ i → Ev (fun k => line_When.l0 k a l (l.length : Int) (i : Int) v0 v1) (a ++ r.filterMap (whenE v0 v1), 0)
  | [], i, a, hd, ha => by
    have h1 : l.length ≤ i := List.drop_eq_nil_iff.1 hd
    refine Ev.succ ?_
    simp only [line_When.l0]
    exact Ev.neg (by omega) (Ev.const (by simp))
  | x :: r, i, a, hd, ha => by
    have hlt := dlt hd
    refine Ev.succ ?_
    simp only [line_When.l0, rdV hd]
    refine Ev.pos (by omega) (Ev.pos (by omega) (Ev.pos (by omega) ?_))
    rw [w64 (by omega) (by omega), show ((i : Int) + 1) = ((i + 1 : Nat) : Int) by omega]
    by_cases c : x.f1.f0 = v0 ∧ x.f1.f1 = v1
    · have e : whenE v0 v1 x = some ⟨x.f0.f0, x.f0.f1⟩ := if_pos c
      rw [List.filterMap_cons, e]
      refine Ev.pos (by simp [c.1, c.2]) (Ev.pos (by omega) ?_)
      have ih := when_l v0 v1 l hl r (i + 1) (a ++ [⟨x.f0.f0, x.f0.f1⟩]) (dnext hd) (by simp; omega)
      rw [List.append_assoc] at ih
      exact ih
    · have e : whenE v0 v1 x = none := if_neg c
      rw [List.filterMap_cons, e]
      exact Ev.neg (by simpa using c) (when_l v0 v1 l hl r (i + 1) a (dnext hd) (by omega))
theorem rwhen_l (v0 v1 : Int) (l : List Er) (hl : l.length ≤ 1024) : ∀ (r : List Er) (i : Nat) (a : List Iv), l.drop i = r → a.length ≤ i → Ev (fun k => spoorref20_When.l0 k a l (l.length : Int) (i : Int) v0 v1) (a ++ r.filterMap (whenE v0 v1), 0)
  | [], i, a, hd, ha => by
    have h1 : l.length ≤ i := List.drop_eq_nil_iff.1 hd
    refine Ev.succ ?_
    simp only [spoorref20_When.l0]
    exact Ev.neg (by omega) (Ev.const (by simp))
  | x :: r, i, a, hd, ha => by
    have hlt := dlt hd
    refine Ev.succ ?_
    simp only [spoorref20_When.l0, rdV hd]
    refine Ev.pos (by omega) (Ev.pos (by omega) (Ev.pos (by omega) ?_))
    rw [w64 (by omega) (by omega), show ((i : Int) + 1) = ((i + 1 : Nat) : Int) by omega]
    by_cases c : x.f1.f0 = v0 ∧ x.f1.f1 = v1
    · have e : whenE v0 v1 x = some ⟨x.f0.f0, x.f0.f1⟩ := if_pos c
      rw [List.filterMap_cons, e]
      refine Ev.pos (by simp [c.1, c.2]) (Ev.pos (by omega) ?_)
      have ih := rwhen_l v0 v1 l hl r (i + 1) (a ++ [⟨x.f0.f0, x.f0.f1⟩]) (dnext hd) (by simp; omega)
      rw [List.append_assoc] at ih
      exact ih
    · have e : whenE v0 v1 x = none := if_neg c
      rw [List.filterMap_cons, e]
      exact Ev.neg (by simpa using c) (rwhen_l v0 v1 l hl r (i + 1) a (dnext hd) (by omega))
theorem when_ev (w0 w1 : Int) (l : List Er) (hb : ∀ x ∈ l, bndE x) (v0 v1 : Int) : Ev (fun k => line_When.f k w0 w1 l v0 v1) (whenV w0 w1 l v0 v1) := by
  simp only [line_When.f]
  refine Ev.bind (check_ev l hb w0 w1) ?_
  unfold whenV
  by_cases c : lineB w0 w1 l = true
  case neg =>
    rw [if_neg c, Bool.eq_false_iff.2 c]
    exact Ev.neg (by decide) (Ev.const rfl)
  rw [if_pos c, c]
  exact Ev.pos rfl (when_l v0 v1 l ((line_iff w0 w1 l).1 c).len l 0 [] rfl (Nat.le_refl _))
theorem rwhen_ev (w0 w1 : Int) (l : List Er) (v0 v1 : Int) : Ev (fun k => spoorref20_When.f k w0 w1 l v0 v1) (whenV w0 w1 l v0 v1) := by
  simp only [spoorref20_When.f]
  refine Ev.bind (rcheck_ev l w0 w1) ?_
  unfold whenV
  by_cases c : lineB w0 w1 l = true
  case neg =>
    rw [if_neg c, Bool.eq_false_iff.2 c]
    exact Ev.neg (by decide) (Ev.const rfl)
  rw [if_pos c, c]
  exact Ev.pos rfl (rwhen_l v0 v1 l ((line_iff w0 w1 l).1 c).len l 0 [] rfl (Nat.le_refl _))
theorem rcut_l (f g : Int) (hfg : f ≤ g) (l : List Er) (hl : l.length ≤ 1024) (ho : ∀ x ∈ l, x.f0.f0 ≤ x.f0.f1) : ∀ (r : List Er) (i : Nat) (a : List Er), l.drop i = r → a.length ≤ i → Ev (fun k => spoorref20_Cut.l0 k a l (l.length : Int) (i : Int) f g) (a ++ r.filterMap (cutE f g), 0)
  | [], i, a, hd, ha => by
    have h1 : l.length ≤ i := List.drop_eq_nil_iff.1 hd
    refine Ev.succ ?_
    simp only [spoorref20_Cut.l0]
    exact Ev.neg (by omega) (Ev.const (by simp))
  | x :: r, i, a, hd, ha => by
    have hlt := dlt hd
    have hx := ho x (List.mem_of_mem_drop (i := i) (by rw [hd]; simp))
    refine Ev.succ ?_
    simp only [spoorref20_Cut.l0, rdV hd]
    refine Ev.pos (by omega) (Ev.pos (by omega) (Ev.pos (by omega) ?_))
    rw [w64 (by omega) (by omega), show ((i : Int) + 1) = ((i + 1 : Nat) : Int) by omega]
    have e1 : mx x.f0.f0 f = if x.f0.f0 < f then f else x.f0.f0 := rfl
    have e2 : mn x.f0.f1 g = if g < x.f0.f1 then g else x.f0.f1 := rfl
    by_cases c : x.f0.f1 < f ∨ g < x.f0.f0
    · have e : cutE f g x = none := if_pos c
      rw [List.filterMap_cons, e]
      refine Ev.neg ?_ (rcut_l f g hfg l hl ho r (i + 1) a (dnext hd) (by omega))
      rw [e1, e2]
      split <;> split <;> omega
    · have e : cutE f g x = some ⟨⟨mx x.f0.f0 f, mn x.f0.f1 g⟩, x.f1⟩ := if_neg c
      rw [List.filterMap_cons, e]
      refine Ev.pos ?_ (Ev.pos (by omega) ?_)
      · rw [e1, e2]
        split <;> split <;> omega
      have ih := rcut_l f g hfg l hl ho r (i + 1) (a ++ [⟨⟨mx x.f0.f0 f, mn x.f0.f1 g⟩, x.f1⟩]) (dnext hd) (by simp; omega)
      rw [List.append_assoc] at ih
      exact ih
theorem rcut_ev (w0 w1 : Int) (l : List Er) (f g : Int) : Ev (fun k => spoorref20_Cut.f k w0 w1 l f g) (cutV w0 w1 l f g) := by
  simp only [spoorref20_Cut.f]
  refine Ev.bind (rcheck_ev l w0 w1) ?_
  unfold cutV
  by_cases c : lineB w0 w1 l = true
  case neg =>
    rw [if_neg c, Bool.eq_false_iff.2 c]
    exact Ev.neg (by decide) (Ev.const rfl)
  rw [if_pos c, c]
  refine Ev.pos rfl ?_
  rw [one19]
  simp only [Option.bind_some]
  have jno : Ev (fun k => spoorref20_Cut.j0 k l true f g) ([], 1) := by
    refine Ev.succ ?_
    simp only [spoorref20_Cut.j0]
    exact Ev.pos trivial (Ev.const rfl)
  by_cases d : winP f g
  case neg =>
    rw [decide_eq_false d, if_neg (fun h => d h.1)]
    exact Ev.neg (by decide) jno
  rw [decide_eq_true d]
  refine Ev.pos rfl ?_
  by_cases d0 : f < w0
  · rw [if_neg (fun h => by omega)]
    exact Ev.pos d0 jno
  refine Ev.neg d0 ?_
  by_cases d1 : g > w1
  · rw [if_neg (fun h => by omega), decide_eq_true d1]
    exact jno
  rw [if_pos ⟨d, by omega, by omega⟩, decide_eq_false d1]
  have hok := (line_iff w0 w1 l).1 c
  refine Ev.succ ?_
  simp only [spoorref20_Cut.j0]
  refine Ev.neg (by decide) ?_
  exact rcut_l f g d.2.1 l hok.len (fun x hx => (cont_bnd l _ _ hok.cont x hx).2.1) l 0 [] rfl (Nat.le_refl _)
theorem rdZ {l : List Int} {i : Nat} {x : Int} {r : List Int} (h : l.drop i = x :: r) : rd l (i : Int) = x := by
  have e : l[i]? = some x := by rw [← List.head?_drop, h]; rfl
  simp [rd, List.getD_eq_getElem?_getD, e]
def finI (o : List Iv) : List Iv × Int := if 1024 < o.length then ([], 11) else (o, 0)
def neqH (l m : List Er) (t : Int) : Bool := neqV (holdsV t l) (holdsV t m)
def opened (w1 : Int) : Option Int → List Iv
  | none => []
  | some s => [⟨s, w1⟩]
theorem rdif_b (w0 w1 : Int) (l m : List Er) (hl : l.length ≤ 1024) (hm : m.length ≤ 1024) (ts : List Int) (hts : ts.length ≤ 4096) (hb : ∀ t ∈ ts, 0 ≤ t ∧ t ≤ 1099511627776) : ∀ (r : List Int) (i : Nat) (done : List Iv) (o : Option Int), ts.drop i = r → (done ++ opened w1 o).length ≤ i →
    Ev (fun k => spoorref20_Differ.l1 k l m (done ++ opened w1 o) o.isSome ts (ts.length : Int) (i : Int) w0 w1) (finI (done ++ Turn.turn (neqH l m) w1 o r))
  | [], i, done, o, hd, ha => by
    have h1 : ts.length ≤ i := List.drop_eq_nil_iff.1 hd
    have e : Turn.turn (neqH l m) w1 o [] = opened w1 o := by cases o <;> rfl
    rw [e]
    refine Ev.succ ?_
    simp only [spoorref20_Differ.l1]
    refine Ev.neg (by omega) ?_
    unfold finI
    by_cases c : 1024 < (done ++ opened w1 o).length
    · rw [if_pos c]
      exact Ev.pos (by omega) (Ev.const rfl)
    · rw [if_neg c]
      exact Ev.neg (by omega) (Ev.const rfl)
  | t :: r, i, done, o, hd, ha => by
    have hlt := dlt hd
    obtain ⟨hb0, hb1⟩ := hb t (List.mem_of_mem_drop (i := i) (by rw [hd]; simp))
    have e1 : wrap64 ((i : Int) + 1) = ((i + 1 : Nat) : Int) := by rw [w64 (by omega) (by omega)]; omega
    have ih := fun done o h => rdif_b w0 w1 l m hl hm ts hts hb r (i + 1) done o (dnext hd) h
    refine Ev.succ ?_
    simp only [spoorref20_Differ.l1, rdZ hd]
    refine Ev.pos (by omega) (Ev.pos (by omega) (Ev.pos (by omega) (Ev.bind (holds_ev t l (by omega)) (Ev.bind (holds_ev t m (by omega)) ?_))))
    have eh : (!((holdsV t l).f0 == (holdsV t m).f0) || (!((holdsV t l).f1 == (holdsV t m).f1))) = neqH l m t := rfl
    simp only [eh]
    cases o with
    | none =>
      refine Ev.neg (by decide) (Ev.succ ?_)
      simp only [spoorref20_Differ.j3]
      rw [e1]
      refine Ev.neg (by decide) (Ev.neg (by decide) ?_)
      have eo : done ++ opened w1 none = done := List.append_nil _
      rw [eo] at ha ⊢
      by_cases c : neqH l m t = true
      · have e2 : Turn.turn (neqH l m) w1 none (t :: r) = Turn.turn (neqH l m) w1 (some t) r := if_pos c
        rw [e2, c]
        exact Ev.pos rfl (Ev.pos (by omega) (ih done (some t) (by simp [opened]; omega)))
      · have e2 : Turn.turn (neqH l m) w1 none (t :: r) = Turn.turn (neqH l m) w1 none r := if_neg c
        have h2 := ih done none (by rw [eo]; omega)
        rw [eo] at h2
        rw [e2, Bool.eq_false_iff.2 c]
        exact Ev.neg (by decide) h2
    | some s =>
      refine Ev.pos rfl (Ev.succ ?_)
      simp only [spoorref20_Differ.j3]
      rw [e1]
      have eo : (done ++ opened w1 (some s)).length = done.length + 1 := by simp [opened]
      by_cases c : neqH l m t = true
      · have e2 : Turn.turn (neqH l m) w1 (some s) (t :: r) = Turn.turn (neqH l m) w1 (some s) r := if_pos c
        rw [e2, c]
        exact Ev.neg (by decide) (Ev.pos rfl (ih done (some s) (by omega)))
      · have e2 : Turn.turn (neqH l m) w1 (some s) (t :: r) = ⟨s, t - 1⟩ :: Turn.turn (neqH l m) w1 none r := if_neg c
        have ew : wrap64 (((done ++ opened w1 (some s)).length : Int) - 1) = ((done.length : Nat) : Int) := by rw [eo, w64 (by omega) (by omega)]; omega
        have et : wrap64 (t - 1) = t - 1 := w64 (by omega) (by omega)
        have er : rd_T23 (done ++ opened w1 (some s)) ((done.length : Nat) : Int) = ⟨s, w1⟩ := by simp [rd_T23, opened]
        have es : (done ++ opened w1 (some s)).set done.length ⟨s, t - 1⟩ = done ++ [⟨s, t - 1⟩] := by
          rw [List.set_append_right _ _ (Nat.le_refl _), Nat.sub_self]
          rfl
        have h2 := ih (done ++ [⟨s, t - 1⟩]) none (by simp [opened]; omega)
        have eo2 : (done ++ [(⟨s, t - 1⟩ : Iv)]) ++ opened w1 none = done ++ [⟨s, t - 1⟩] := List.append_nil _
        rw [eo2] at h2
        rw [e2, Bool.eq_false_iff.2 c, ew, er, et, Int.toNat_natCast, es]
        refine Ev.pos rfl (Ev.pos (by omega) (Ev.pos (by omega) (Ev.bind (Ev.const rfl) (Ev.pos rfl ?_))))
        have e3 : done ++ (⟨s, t - 1⟩ :: Turn.turn (neqH l m) w1 none r) = (done ++ [⟨s, t - 1⟩]) ++ Turn.turn (neqH l m) w1 none r := by simp
        rw [e3]
        exact h2
theorem rdif_a (w0 w1 : Int) (l m : List Er) (all : List Er) (hall : all.length ≤ 4096) (F : List Iv × Int) (hF : Ev (fun k => spoorref20_Differ.l1 k l m [] false ((all.map (fun x => x.f0.f0)).foldl insS []) ((((all.map (fun x => x.f0.f0)).foldl insS []).length : Nat) : Int) 0 w0 w1) F) : ∀ (r : List Er) (i : Nat) (a : List Int), all.drop i = r → a ++ r.map (fun x => x.f0.f0) = all.map (fun x => x.f0.f0) → a.length = i →
    Ev (fun k => spoorref20_Differ.l0 k l m a all (all.length : Int) (i : Int) w0 w1) F
  | [], i, a, hd, ha, hi => by
    have h1 : all.length ≤ i := List.drop_eq_nil_iff.1 hd
    refine Ev.succ ?_
    simp only [spoorref20_Differ.l0]
    refine Ev.neg (by omega) ?_
    have ea : a = all.map (fun x => x.f0.f0) := by rw [← ha]; simp
    have hlen : a.length ≤ 4096 := by rw [ea, List.length_map]; omega
    refine Ev.bind (a := a.foldl insS []) ?_ ?_
    · simp only [spoorref19_Sorted.f]
      exact Ev.pos (by omega) (Ev.const rfl)
    · rw [ea]
      exact hF
  | x :: r, i, a, hd, ha, hi => by
    have hlt := dlt hd
    have e1 : wrap64 ((i : Int) + 1) = ((i + 1 : Nat) : Int) := by rw [w64 (by omega) (by omega)]; omega
    refine Ev.succ ?_
    simp only [spoorref20_Differ.l0, rdV hd]
    refine Ev.pos (by omega) (Ev.pos (by omega) (Ev.pos (by omega) (Ev.pos (by omega) ?_)))
    rw [e1]
    exact rdif_a w0 w1 l m all hall F hF r (i + 1) (a ++ [x.f0.f0]) (dnext hd) (by rw [← ha]; simp) (by simp [hi])
theorem inI_R (x : Int) (l : List Iv) : (∃ y ∈ l, inI x y = true) ↔ Turn.inR x l := by
  unfold Turn.inR
  exact ⟨fun ⟨y, h, g⟩ => ⟨y, h, (inI_iff x y).1 g⟩, fun ⟨y, h, g⟩ => ⟨y, h, (inI_iff x y).2 g⟩⟩
theorem turn_differ (w0 w1 : Int) (l m : List Er) (hl : LineOk w0 w1 l) (hm : LineOk w0 w1 m) :
    Turn.turn (neqH l m) w1 none (((l ++ m).map (fun x => x.f0.f0)).foldl insS []) = (differL l m).filterMap heldB := by
  obtain ⟨v1, v2, v3⟩ := hl.win
  obtain ⟨s1, s2⟩ := differ_ok w0 w1 l m hl hm
  obtain ⟨t1, t2⟩ := Turn.sorted_ok ((l ++ m).map (fun x => x.f0.f0)) [] List.Pairwise.nil
  generalize ((l ++ m).map (fun x => x.f0.f0)).foldl insS [] = ts at t1 t2 ⊢
  have hmem : ∀ t, t ∈ ts ↔ (∃ x ∈ l, x.f0.f0 = t) ∨ ∃ x ∈ m, x.f0.f0 = t := fun t => by
    rw [t2 t]
    simp only [List.not_mem_nil, false_or, List.mem_map, List.mem_append]
    exact ⟨fun ⟨x, h, e⟩ => h.elim (fun a => .inl ⟨x, a, e⟩) (fun a => .inr ⟨x, a, e⟩), fun h => h.elim (fun ⟨x, a, e⟩ => ⟨x, .inl a, e⟩) (fun ⟨x, a, e⟩ => ⟨x, .inr a, e⟩)⟩
  have hbnd : ∀ t ∈ ts, w0 ≤ t ∧ t ≤ w1 := fun t ht => by
    rcases (hmem t).1 ht with ⟨x, hx, rfl⟩ | ⟨x, hx, rfl⟩
    · have := cont_bnd l _ _ hl.cont x hx; omega
    · have := cont_bnd m _ _ hm.cont x hx; omega
  refine Turn.snd_one _ _ (Turn.turn_sound (neqH l m) w1 v3 ts none none t1 (fun t ht => by have := hbnd t ht; omega) (fun s hs => by cases hs) (fun u hu => by cases hu)) ((Turn.snd_iff _ none (fun u hu => by cases hu)).1 s1) (fun x => ?_)
  rw [Turn.turn_has (neqH l m) w1 x ts none t1 (fun t ht => (hbnd t ht).2) (fun s hs => by cases hs), ← inI_R, ← has_iff x _ 0, s2 x]
  have hP : ∀ t, w0 ≤ t → t ≤ w1 → neqH l m t = neqV (val t l) (val t m) := fun t h0 h1 => by
    unfold neqH
    rw [holds_val t l w0 (w1 + 1) hl.cont h0, holds_val t m w0 (w1 + 1) hm.cont h0]
  by_cases hx0 : x < w0
  · have e : Turn.lastP (neqH l m) (none : Option Int).isSome ts x = false := Turn.last_lt _ _ x ts (fun t ht => by have := hbnd t ht; omega)
    rw [e]
    exact ⟨fun h => (by cases h.2.2), fun h => by omega⟩
  · by_cases hx1 : x ≤ w1
    · have hn : ∃ t ∈ ts, t ≤ x := by
        have hc := hl.cont
        cases l with
        | nil => exact absurd rfl hl.ne
        | cons y ys => exact ⟨y.f0.f0, (hmem _).2 (.inl ⟨y, by simp, rfl⟩), by have := (cont_head hc).1; omega⟩
      have e : Turn.lastP (neqH l m) (none : Option Int).isSome ts x = neqH l m x := Turn.last_eq _ x ts _ t1 hn (fun t ht htx hno => by
        have hb := hbnd t ht
        rw [hP t hb.1 hb.2, hP x (by omega) hx1]
        rw [val_const t x htx l w0 (w1 + 1) hl.cont hb.1 (by omega) (fun y hy hty => hno _ ((hmem _).2 (.inl ⟨y, hy, rfl⟩)) hty)]
        rw [val_const t x htx m w0 (w1 + 1) hm.cont hb.1 (by omega) (fun y hy hty => hno _ ((hmem _).2 (.inr ⟨y, hy, rfl⟩)) hty)])
      rw [e, hP x (by omega) hx1]
      exact ⟨fun h => ⟨by omega, hx1, h.2.2⟩, fun h => ⟨trivial, hx1, h.2.2⟩⟩
    · exact ⟨fun h => absurd h.2.1 hx1, fun h => absurd h.2.1 hx1⟩
theorem rdiffer_ev (w0 w1 : Int) (l m : List Er) : Ev (fun k => spoorref20_Differ.f k w0 w1 l m) (differV w0 w1 l m) := by
  simp only [spoorref20_Differ.f]
  refine Ev.bind (rcheck_ev l w0 w1) ?_
  have jno : Ev (fun k => spoorref20_Differ.j0 k l m true w0 w1) ([], 2) := by
    refine Ev.succ ?_
    simp only [spoorref20_Differ.j0]
    exact Ev.pos trivial (Ev.const rfl)
  by_cases c : lineB w0 w1 l = true
  case neg =>
    have e : differV w0 w1 l m = ([], 2) := if_neg (fun h => c h.1)
    rw [e, Bool.eq_false_iff.2 c]
    exact Ev.neg (by decide) jno
  rw [c]
  refine Ev.pos rfl (Ev.bind (rcheck_ev m w0 w1) ?_)
  by_cases d : lineB w0 w1 m = true
  case neg =>
    have e : differV w0 w1 l m = ([], 2) := if_neg (fun h => d h.2)
    rw [e, Bool.eq_false_iff.2 d]
    exact jno
  have hl := (line_iff w0 w1 l).1 c
  have hm := (line_iff w0 w1 m).1 d
  have h1 := hl.len
  have h2 := hm.len
  obtain ⟨v1, v2, v3⟩ := hl.win
  have e : differV w0 w1 l m = finI ((differL l m).filterMap heldB) := if_pos ⟨c, d⟩
  rw [e, d]
  refine Ev.succ ?_
  simp only [spoorref20_Differ.j0]
  refine Ev.neg (by decide) (Ev.bind (Ev.const rfl) (Ev.pos (by simp; omega) (Ev.bind (Ev.const rfl) (Ev.pos (by simp; omega) (Ev.bind (Ev.const rfl) ?_)))))
  rw [List.nil_append, ← turn_differ w0 w1 l m hl hm]
  obtain ⟨t1, t2⟩ := Turn.sorted_ok ((l ++ m).map (fun x => x.f0.f0)) [] List.Pairwise.nil
  have hlen := Turn.sorted_len ((l ++ m).map (fun x => x.f0.f0)) []
  rw [List.length_map, List.length_append, List.length_nil] at hlen
  refine rdif_a w0 w1 l m (l ++ m) (by rw [List.length_append]; omega) _ ?_ (l ++ m) 0 [] rfl rfl rfl
  refine rdif_b w0 w1 l m h1 h2 _ (by omega) (fun t ht => ?_) _ 0 [] none rfl (Nat.le_refl _)
  have ht2 := (t2 t).1 ht
  simp only [List.not_mem_nil, false_or, List.mem_map, List.mem_append] at ht2
  obtain ⟨x, hx, rfl⟩ := ht2
  rcases hx with hx | hx
  · have := cont_bnd l _ _ hl.cont x hx; omega
  · have := cont_bnd m _ _ hm.cont x hx; omega
end Go.Proofs.Ytghklhdooemjdaa.Line
end
section
namespace Go.Proofs.Ytghklhdooemjdaa.Pure
set_option linter.unusedVariables false
open Go.RowKit Go.Proofs.Ytghklhdooemjdaa.Q Go.Proofs.YtghklhdooemjdaaW.PrintWords Go.Proofs.YtghklhdooemjdaaW.PrintLast Go.Proofs.Ytghklhdooemjdaa.Base Go.Proofs.Ytghklhdooemjdaa.Open Go.Proofs.Ytghklhdooemjdaa.Line
theorem lives_ev4 : Ev spoorlaw20_lives.f true := Ev.of spoorlaw20_lives.mono (k := 200) (by decide +kernel)
theorem atV_at (w0 w1 : Int) (l : List Er) (t : Int) : ((atV w0 w1 l t).1 == (atV w0 w1 l t).1 && ((atV w0 w1 l t).2.1 == (atV w0 w1 l t).2.1)) = true := by simp
theorem LineAsks : spoorlaw20_LineAsks.Pure := by
  intro w0 w1 l m t v0 v1 f g h0 h1 h2 h3 h4 h5 hB hB2
  have hwl : ∀ x ∈ l, bndE x := fun x hx => wf_era (h1.1 x hx)
  have hwm : ∀ x ∈ m, bndE x := fun x hx => wf_era (h2.1 x hx)
  have hll := h1.2
  have hml := h2.2
  clear h0 h1 h2 h3 h4 h5 hB hB2
  refine Ev.rounds (g := fun k => spoorlaw20_LineAsks.f k w0 w1 l m t v0 v1 f g) (r := true) ?_
  simp only [spoorlaw20_LineAsks.f]
  have big : Ev (fun k => spoorlaw20_LineAsks.j0 k l m t true w0 w1 v0 v1 f g) true := by
    refine Ev.succ ?_
    simp only [spoorlaw20_LineAsks.j0]
    exact Ev.pos trivial (Ev.bind lives_ev4 (Ev.const rfl))
  by_cases c : (l.length : Int) > 200
  · exact Ev.pos c big
  refine Ev.neg c ?_
  by_cases d : (m.length : Int) > 200
  · rw [decide_eq_true d]
    exact big
  rw [decide_eq_false d]
  refine Ev.succ ?_
  simp only [spoorlaw20_LineAsks.j0]
  have hw : (whenV w0 w1 l v0 v1).1.length ≤ 4194304 := by
    unfold whenV
    split
    · exact Nat.le_trans (List.length_filterMap_le _ _) (by omega)
    · exact Nat.zero_le _
  have hc : (cutV w0 w1 l f g).1.length ≤ 4194304 := by
    unfold cutV
    split
    · split
      · exact Nat.le_trans (List.length_filterMap_le _ _) (by omega)
      · exact Nat.zero_le _
    · exact Nat.zero_le _
  have hf : (differV w0 w1 l m).1.length ≤ 4194304 := by
    have := differ_len l m
    unfold differV
    split
    · split
      · exact Nat.zero_le _
      · show ((differL l m).filterMap heldB).length ≤ _
        omega
    · exact Nat.zero_le _
  refine Ev.neg (by decide) (Ev.bind (at_ev w0 w1 l hwl t) (Ev.bind (rat_ev w0 w1 l t) (Ev.bind (when_ev w0 w1 l hwl v0 v1) (Ev.bind (rwhen_ev w0 w1 l v0 v1) (Ev.bind (cut_ev w0 w1 l hwl f g) (Ev.bind (rcut_ev w0 w1 l f g) (Ev.bind (differ_ev w0 w1 l m hwl hwm) (Ev.bind (rdiffer_ev w0 w1 l m) (Ev.bind lives_ev4 (Ev.pos rfl ?_))))))))))
  refine Ev.pos (atV_at w0 w1 l t) (Ev.pos rfl (Ev.bind (same19_ev _ hw) (Ev.pos rfl (Ev.pos rfl (Ev.bind (same_ev _ hc) (Ev.pos rfl (Ev.pos rfl (Ev.bind (same19_ev _ hf) (Ev.pos rfl (Ev.const ?_))))))))))
  simp
end Go.Proofs.Ytghklhdooemjdaa.Pure
end
section
namespace Go.Proofs.Ytghklhdooemjdaa.lineAsks
open Go.ChangeShapes Go.WideShapes Go.ChangeAt Go.RowKit Go.Proofs.Ytghklhdooemjdaa.Open Go.Proofs.Ytghklhdooemjdaa.Q
open Go.ChangeMaps (open_string shut_string)
set_option linter.unusedVariables false
theorem own : ownKnob Try.prog.godebug = none := by kernel_rfl
theorem laidOut : laidOutB Try.prog = true := by kernel_rfl
set_option maxRecDepth 100000 in
theorem contract (H : Type) (enc : TypeId × Value → H) (W : World) (base : Nat) (args : Array Value) (ds gs : List (DataW H)) (before : List MemPlace)
    (hval : ∀ (j : Nat) t v, Try.f4.params[j]? = some t → args[j]? = some v → Value.okWide Try.prog W .any base t v)
    (hW : DataW.Whole enc Try.prog Try.f4.params.toList Rows.lineAsksSpec.vars false W args.toList ds gs before) (hsz0 : (DataW.weightsEach Try.prog (Try.f4.params.toList ++ Rows.lineAsksSpec.plain.varTypes Try.prog) (ds ++ gs)).all (· ≤ reachBytes) = true) :
    Calls Try.prog 4 args W fun e W' => ∃ v, e = .returned v ∧ Rows.lineAsksSpec.post enc Try.prog Try.f4 false true false false W args v W' := by
  have hW' := hW
  obtain ⟨p, q, hA0, hV, rfl, hfz, hnd⟩ := hW
  have hA : DataW.TrodAll enc Try.prog W 0 (fun _ => true) true Try.f4.params.toList args.toList ds p := hA0
  have hsz : (DataW.weightsEach Try.prog (Try.f4.params.toList ++ Rows.lineAsksSpec.plain.varTypes Try.prog) (ds ++ gs)).all (· ≤ reachBytes) = true := hsz0
  rw [Try.params4] at hA hval hsz
  obtain ⟨v0, vs0, d0, ds0, p0, q0, hargs, rfl, rfl, h0, r0⟩ := trodAll_cons hA
  obtain ⟨v1, vs1, d1, ds1, p1, q1, rfl, rfl, rfl, h1, r1⟩ := trodAll_cons r0
  obtain ⟨v2, vs2, d2, ds2, p2, q2, rfl, rfl, rfl, h2, r2⟩ := trodAll_cons r1
  obtain ⟨v3, vs3, d3, ds3, p3, q3, rfl, rfl, rfl, h3, r3⟩ := trodAll_cons r2
  obtain ⟨v4, vs4, d4, ds4, p4, q4, rfl, rfl, rfl, h4, r4⟩ := trodAll_cons r3
  obtain ⟨v5, vs5, d5, ds5, p5, q5, rfl, rfl, rfl, h5, r5⟩ := trodAll_cons r4
  obtain ⟨rfl, rfl, rfl⟩ := trodAll_nil r5
  obtain rfl : args = #[v0, v1, v2, v3, v4, v5] := by cases args; simp_all
  obtain ⟨rfl, rfl⟩ := trodVars_none hV
  have k0 := h0
  have lt0 : ∀ x ∈ p0, x.block < W.heap.size := by obtain ⟨m, hm⟩ := k0; exact DataW.trod_lt m _ _ _ hm
  obtain ⟨fu0, hf0⟩ := h0
  obtain ⟨b0, K0, o0, u0⟩ := opn23 enc W _ _ _ _ _ hf0
  have z0 := k23_open K0
  obtain rfl : v0 = .agg #[.int .i64 b0.f0, .int .i64 b0.f1] := by obtain ⟨x, rfl, _⟩ := okWide_struct Try.underlying23 (hval 0 23 v0 rfl rfl); exact congrArg Value.agg (Array.toList_inj.mp (show x.toList = [.int .i64 b0.f0, .int .i64 b0.f1] from z0))
  have k1 := h1
  have lt1 : ∀ x ∈ p1, x.block < W.heap.size := by obtain ⟨m, hm⟩ := k1; exact DataW.trod_lt m _ _ _ hm
  obtain ⟨fu1, hf1⟩ := h1
  obtain ⟨b1, K1, o1, u1⟩ := (opens_slice opn52 Try.underlying25 (by kernel_rfl) 52) enc W _ _ _ _ _ hf1
  obtain ⟨A1, c1, z1, lc1, C1⟩ := K1
  obtain rfl : v1 = .slice A1 b1.length c1 := by obtain ⟨x, y, z, rfl⟩ := okWide_slice Try.underlying25 (hval 1 25 v1 rfl rfl); exact (List.cons.inj (show [Value.slice x y z] = [Value.slice A1 b1.length c1] from z1)).1
  have k2 := h2
  have lt2 : ∀ x ∈ p2, x.block < W.heap.size := by obtain ⟨m, hm⟩ := k2; exact DataW.trod_lt m _ _ _ hm
  obtain ⟨fu2, hf2⟩ := h2
  obtain ⟨b2, K2, o2, u2⟩ := (opens_slice opn52 Try.underlying25 (by kernel_rfl) 52) enc W _ _ _ _ _ hf2
  obtain ⟨A2, c2, z2, lc2, C2⟩ := K2
  obtain rfl : v2 = .slice A2 b2.length c2 := by obtain ⟨x, y, z, rfl⟩ := okWide_slice Try.underlying25 (hval 2 25 v2 rfl rfl); exact (List.cons.inj (show [Value.slice x y z] = [Value.slice A2 b2.length c2] from z2)).1
  have k3 := h3
  have lt3 : ∀ x ∈ p3, x.block < W.heap.size := by obtain ⟨m, hm⟩ := k3; exact DataW.trod_lt m _ _ _ hm
  obtain ⟨fu3, hf3⟩ := h3
  obtain ⟨b3, K3, o3, u3⟩ := (opens_int Try.underlying2) enc W _ _ _ _ _ hf3
  obtain rfl : v3 = .int .i64 b3 := by obtain ⟨x, rfl⟩ := okWide_int Try.underlying2 (hval 3 2 v3 rfl rfl); exact (List.cons.inj (show [Value.int .i64 x] = [Value.int .i64 b3] from K3)).1
  have k4 := h4
  have lt4 : ∀ x ∈ p4, x.block < W.heap.size := by obtain ⟨m, hm⟩ := k4; exact DataW.trod_lt m _ _ _ hm
  obtain ⟨fu4, hf4⟩ := h4
  obtain ⟨b4, K4, o4, u4⟩ := opn35 enc W _ _ _ _ _ hf4
  have z4 := k35_open K4
  obtain rfl : v4 = .agg #[.int .u8 b4.f0, .int .i64 b4.f1] := by obtain ⟨x, rfl, _⟩ := okWide_struct Try.underlying35 (hval 4 35 v4 rfl rfl); exact congrArg Value.agg (Array.toList_inj.mp (show x.toList = [.int .u8 b4.f0, .int .i64 b4.f1] from z4))
  have k5 := h5
  have lt5 : ∀ x ∈ p5, x.block < W.heap.size := by obtain ⟨m, hm⟩ := k5; exact DataW.trod_lt m _ _ _ hm
  obtain ⟨fu5, hf5⟩ := h5
  obtain ⟨b5, K5, o5, u5⟩ := opn23 enc W _ _ _ _ _ hf5
  have z5 := k23_open K5
  obtain rfl : v5 = .agg #[.int .i64 b5.f0, .int .i64 b5.f1] := by obtain ⟨x, rfl, _⟩ := okWide_struct Try.underlying23 (hval 5 23 v5 rfl rfl); exact congrArg Value.agg (Array.toList_inj.mp (show x.toList = [.int .i64 b5.f0, .int .i64 b5.f1] from z5))
  have sz1 : b1.length * 32 ≤ 140737488351232 := sized_row hsz (j := 1) (t := 25) rfl rfl Try.underlying25 (by kernel_rfl) k1
  have sz2 : b2.length * 32 ≤ 140737488351232 := sized_row hsz (j := 2) (t := 25) rfl rfl Try.underlying25 (by kernel_rfl) k2
  obtain ⟨k, h⟩ := Pure.LineAsks b0.f0 b0.f1 b1 b2 b3 b4.f0 b4.f1 b5.f0 b5.f1 o0 o1 o2 o3 o4 o5 sz1 sz2
  refine (spoorlaw20_LineAsks.calls k b0.f0 b0.f1 A1 c1 b1 A2 c2 b2 b3 b4.f0 b4.f1 b5.f0 b5.f1 true W C1 lc1 C2 lc2 h).mono fun e W' ⟨he, hd⟩ => ?_
  have bel := hd
  subst he
  exact ⟨_, rfl, _, _, _, [], _, [], hW', trodAll_mk1 (shut_bool Try.underlying4 _), (trodAll_cons_mk (Below.trod laidOut (by kernel_rfl) (of_decide_eq_true (by kernel_rfl)) k0 bel lt0) (trodAll_cons_mk (Below.trod laidOut (by kernel_rfl) (of_decide_eq_true (by kernel_rfl)) k1 bel lt1) (trodAll_cons_mk (Below.trod laidOut (by kernel_rfl) (of_decide_eq_true (by kernel_rfl)) k2 bel lt2) (trodAll_cons_mk (Below.trod laidOut (by kernel_rfl) (of_decide_eq_true (by kernel_rfl)) k3 bel lt3) (trodAll_cons_mk (Below.trod laidOut (by kernel_rfl) (of_decide_eq_true (by kernel_rfl)) k4 bel lt4) (trodAll_cons_mk (Below.trod laidOut (by kernel_rfl) (of_decide_eq_true (by kernel_rfl)) k5 bel lt5) trodAll_mk0)))))), rfl, bel.frame _, fun h => by cases h⟩
set_option maxRecDepth 100000 in
theorem lifted (os : Os) (started : os.Started) (H : Type) (enc : TypeId × Value → H) :
    ReturnsInHanded {} Try.checked os 4 .any (Rows.lineAsksSpec.pre6 enc Try.prog Try.f4 Rows.lineAsksRow.domain false) (Rows.lineAsksSpec.post enc Try.prog Try.f4 false true false false) := by
  refine returnsInHanded_of_change_sized (C := Try.checked) own started (by kernel_rfl) Try.func4
    (ChangeSpec.witness6 (enc := enc) (C := Try.checked) false ⟨#[], #[.agg #[.int .i64 0, .int .i64 0], .slice none 0 0, .slice none 0 0, .int .i64 0, .agg #[.int .u8 0, .int .i64 0], .agg #[.int .i64 0, .int .i64 0]], []⟩ 8 (by kernel_rfl) (by kernel_rfl) (by kernel_rfl) (by kernel_rfl)) ?_
  intro W base args ds gs before hval hW _ hsz _
  exact contract H enc W base args ds gs before hval hW hsz
theorem over : Rows.lineAsksRow.holds Try.pinned (OpenSpec.ofChange Rows.lineAsksSpec) :=
  OpenClaim.holds_of_wide 4 Try.f4 rfl rfl rfl rfl rfl rfl rfl ⟨rfl, rfl, rfl, rfl, rfl⟩ rfl rfl rfl rfl rfl (by kernel_rfl) Try.func4 (by kernel_rfl)
    (of_decide_eq_true (by kernel_rfl)) (by unfold Func.isWrapper; first | (rw [if_pos (by decide +kernel)]; kernel_rfl) | (rw [if_neg (by decide +kernel)]; exact ⟨rfl, rfl⟩))
    (fun os started H enc _ => lifted os started H enc)
theorem proved : Rows.LineAsksSaid := over
#print axioms proved
end Go.Proofs.Ytghklhdooemjdaa.lineAsks
namespace Go.Proofs.Ytghklhdooemjdaa
theorem lineAsks_holds : Rows.LineAsksSaid := lineAsks.proved
end Go.Proofs.Ytghklhdooemjdaa
end
