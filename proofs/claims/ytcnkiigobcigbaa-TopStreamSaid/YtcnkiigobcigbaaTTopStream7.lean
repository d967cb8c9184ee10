/- Events that are wrapped, and come behind whatever is no message, cut anywhere, are read as what they were, one behind the other; for every text, events and sizes. -/
import Derived.Test.YtcnkiigobcigbaaRows
import Derived.WalkKit
import Derived.ProofKit
import Derived.OpenShut
import Derived.ShutString
import Derived.ChangeOld
import Derived.Below
import Derived.SizedLaws
import Derived.JoinedCond
import Derived.Test.YtcnkiigobcigbaaTTopStream6
section
namespace Go.Proofs.Ytcnkiigobcigbaa.Msg
set_option linter.unusedVariables false
open Go.RowKit Go.Proofs.YtcnkiigobcigbaaW.PrintWords Go.Proofs.YtcnkiigobcigbaaW.PrintLast Go.Proofs.YtcnkiigobcigbaaW.PrintMore Go.Proofs.Ytcnkiigobcigbaa.Base Go.Proofs.Ytcnkiigobcigbaa.Num Go.Proofs.Ytcnkiigobcigbaa.Addr Go.Proofs.Ytcnkiigobcigbaa.Be Go.Proofs.Ytcnkiigobcigbaa.Q
def tailG (k : Nat) (s : ByteArray) (y kd ro sq ti : Int) : Option (Int × Int × Int × Int × Bool × Int × Int × Int × Int × Int × Int × Int × Int) :=
  if kd = 3 then ((api_Prefix.f k s y).bind fun bt270 => ((api_Action.f k bt270.2.2.2.2.1 bt270.2.2.2.2.2).bind fun bt276 => (msg_Get.j0 k bt276.2.2.1 bt276.2.2.2 kd ro sq ti bt270.1 bt270.2.1 bt270.2.2.1 bt270.2.2.2.1 bt276.1 bt276.2.1 0 0)))
  else (if kd = 4 then ((api_Prefix.f k s y).bind fun bt280 => (msg_Get.j0 k bt280.2.2.2.2.1 bt280.2.2.2.2.2 kd ro sq ti bt280.1 bt280.2.1 bt280.2.2.1 bt280.2.2.2.1 0 0 0 0))
  else (if kd = 5 then ((num_Reader_Many.f k s y 65536).bind fun bt286 => ((num_Reader_Many.f k bt286.2.1 bt286.2.2 1048576).bind fun bt289 => (msg_Get.j0 k bt289.2.1 bt289.2.2 kd ro sq ti false 0 0 0 0 0 bt286.1 bt289.1)))
  else (if kd = 6 then ((num_Reader_Many.f k s y 65536).bind fun bt292 => (msg_Get.j0 k bt292.2.1 bt292.2.2 kd ro sq ti false 0 0 0 0 0 bt292.1 0))
  else (msg_Get.j0 k s y kd ro sq ti false 0 0 0 0 0 0 0))))
theorem tail_bad (s : ByteArray) (hs : s.size ≤ 281474976710656) {y : Int} (hy : y ≠ 0) (kd ro sq ti : Int) : Ev (fun k => tailG k s y kd ro sq ti) (evS none) := by
  simp only [tailG]
  by_cases c3 : kd = 3
  · refine Ev.pos c3 ?_
    obtain ⟨x1, x2, x3, x4, h⟩ := pre_bad s hy hs
    obtain ⟨z1, z2, g⟩ := act_bad s hy hs
    exact Ev.bind h (Ev.bind g (gj0_bad _ hy _ _ _ _ _ _ _ _ _ _ _ _))
  refine Ev.neg c3 ?_
  by_cases c4 : kd = 4
  · refine Ev.pos c4 ?_
    obtain ⟨x1, x2, x3, x4, h⟩ := pre_bad s hy hs
    exact Ev.bind h (gj0_bad _ hy _ _ _ _ _ _ _ _ _ _ _ _)
  refine Ev.neg c4 ?_
  by_cases c5 : kd = 5
  · refine Ev.pos c5 ?_
    obtain ⟨v, s1, y1, h, hy1, hs1⟩ := many_bad hs (most := 65536) (by omega) (by omega) (.inl hy)
    obtain ⟨v2, s2, y2, g, hy2, hs2⟩ := many_bad hs1 (most := 1048576) (by omega) (by omega) (.inl hy1)
    exact Ev.bind h (Ev.bind g (gj0_bad _ hy2 _ _ _ _ _ _ _ _ _ _ _ _))
  refine Ev.neg c5 ?_
  by_cases c6 : kd = 6
  · refine Ev.pos c6 ?_
    obtain ⟨v, s1, y1, h, hy1, hs1⟩ := many_bad hs (most := 65536) (by omega) (by omega) (.inl hy)
    exact Ev.bind h (gj0_bad _ hy1 _ _ _ _ _ _ _ _ _ _ _ _)
  · exact Ev.neg c6 (gj0_bad _ hy _ _ _ _ _ _ _ _ _ _ _ _)
theorem pfx_lt {l r : List Int} (hb : Bytes l) {six : Bool} {n : Nat} {ln : Int} (h : getP l = some ((six, n, ln), r)) : n < 340282366920938463463374607431768211456 :=
  Nat.lt_of_lt_of_le (getP_back hb h).1.2.2.1 (wn_pow six)
def endS (o : Option (E11 × List Int)) : Option E11 := o.bind fun x => if x.2 = [] ∧ okE x.1 then some x.1 else none
theorem tail_ok (l : List Int) (hb : Bytes l) (hs : l.length ≤ 281474976710656) (kd ro sq ti : Int) (hq : 0 ≤ sq) : Ev (fun k => tailG k (strOfNums l) 0 kd ro sq ti) (evS (endS (getEnd kd ro sq ti l))) := by
  have hbl : bytesOf (strOfNums l) = l := bytes_str hb
  have hz : (strOfNums l).size ≤ 281474976710656 := by rw [strOfNums_size]; exact hs
  simp only [tailG]
  unfold getEnd
  by_cases c3 : kd = 3
  · refine Ev.pos c3 ?_
    rw [if_pos c3]
    rcases pre_cases (strOfNums l) hz 0 with ⟨six, n, ln, r, _, hp, h⟩ | ⟨hp, x1, x2, x3, x4, s', y', h, hy, hs'⟩
    · rw [hbl] at hp
      have hr : Bytes r := by have := (getP_back hb hp).2; rw [this] at hb; exact hb.right
      have hrl : r.length ≤ 281474976710656 := by have := (getP_back hb hp).2; rw [this, List.length_append] at hs; omega
      have hbr : bytesOf (strOfNums r) = r := bytes_str hr
      rw [hp]
      simp only [Option.bind_some]
      refine Ev.bind h ?_
      rcases act_cases (strOfNums r) (by rw [strOfNums_size]; exact hrl) 0 with ⟨k, i, q, _, ha, g⟩ | ⟨ha, z1, z2, s'', y'', g, hy, hs''⟩
      · rw [hbr] at ha
        rw [ha]
        refine Ev.bind g ?_
        have hq' : Bytes q := by have := (getA_back hr ha).2; rw [this] at hr; exact hr.right
        exact gj0_ok q hq' ⟨kd, ro, sq, ti, six, n, ln, k, i, 0, 0⟩ (pfx_lt hb hp) hq
      · rw [hbr] at ha
        rcases ha with ha | ha
        · exact absurd rfl ha
        rw [ha]
        exact Ev.bind g (gj0_bad _ hy _ _ _ _ _ _ _ _ _ _ _ _)
    · rw [hbl] at hp
      rcases hp with hp | hp
      · exact absurd rfl hp
      rw [hp]
      obtain ⟨z1, z2, g⟩ := act_bad s' hy hs'
      exact Ev.bind h (Ev.bind g (gj0_bad _ hy _ _ _ _ _ _ _ _ _ _ _ _))
  refine Ev.neg c3 ?_
  rw [if_neg c3]
  by_cases c4 : kd = 4
  · refine Ev.pos c4 ?_
    rw [if_pos c4]
    rcases pre_cases (strOfNums l) hz 0 with ⟨six, n, ln, r, _, hp, h⟩ | ⟨hp, x1, x2, x3, x4, s', y', h, hy, hs'⟩
    · rw [hbl] at hp
      have hr : Bytes r := by have := (getP_back hb hp).2; rw [this] at hb; exact hb.right
      rw [hp]
      refine Ev.bind h ?_
      exact gj0_ok r hr ⟨kd, ro, sq, ti, six, n, ln, 0, 0, 0, 0⟩ (pfx_lt hb hp) hq
    · rw [hbl] at hp
      rcases hp with hp | hp
      · exact absurd rfl hp
      rw [hp]
      exact Ev.bind h (gj0_bad _ hy _ _ _ _ _ _ _ _ _ _ _ _)
  refine Ev.neg c4 ?_
  rw [if_neg c4]
  by_cases c5 : kd = 5
  · refine Ev.pos c5 ?_
    rw [if_pos c5]
    rcases many_cases (strOfNums l) hz 0 (most := 65536) (by omega) (by omega) with ⟨v, r, _, hp, h⟩ | ⟨hp, v, s', y', h, hy, hs'⟩
    · rw [hbl] at hp
      have hr : Bytes r := by have := (rdN_back hb hp).2.2.2; rw [this] at hb; exact hb.right
      have hrl : r.length ≤ 281474976710656 := by have := (rdN_back hb hp).2.2.2; rw [this, List.length_append] at hs; omega
      have hbr : bytesOf (strOfNums r) = r := bytes_str hr
      rw [hp]
      simp only [Option.bind_some]
      refine Ev.bind h ?_
      rcases many_cases (strOfNums r) (by rw [strOfNums_size]; exact hrl) 0 (most := 1048576) (by omega) (by omega) with ⟨w, q, _, ha, g⟩ | ⟨ha, w, s'', y'', g, hy, hs''⟩
      · rw [hbr] at ha
        rw [ha]
        refine Ev.bind g ?_
        have hq' : Bytes q := by have := (rdN_back hr ha).2.2.2; rw [this] at hr; exact hr.right
        have z := gj0_ok q hq' ⟨kd, ro, sq, ti, false, 0, 0, 0, 0, v, w⟩ (show (0 : Nat) < _ by decide) hq
        simp only [show hi 0 = 0 from rfl, show lo 0 = 0 from rfl] at z
        exact z
      · rw [hbr] at ha
        rcases ha with ha | ha
        · exact absurd rfl ha
        rw [ha]
        exact Ev.bind g (gj0_bad _ hy _ _ _ _ _ _ _ _ _ _ _ _)
    · rw [hbl] at hp
      rcases hp with hp | hp
      · exact absurd rfl hp
      rw [hp]
      obtain ⟨v2, s2, y2, g, hy2, hs2⟩ := many_bad hs' (most := 1048576) (by omega) (by omega) (.inl hy)
      exact Ev.bind h (Ev.bind g (gj0_bad _ hy2 _ _ _ _ _ _ _ _ _ _ _ _))
  refine Ev.neg c5 ?_
  rw [if_neg c5]
  by_cases c6 : kd = 6
  · refine Ev.pos c6 ?_
    rw [if_pos c6]
    rcases many_cases (strOfNums l) hz 0 (most := 65536) (by omega) (by omega) with ⟨v, r, _, hp, h⟩ | ⟨hp, v, s', y', h, hy, hs'⟩
    · rw [hbl] at hp
      have hr : Bytes r := by have := (rdN_back hb hp).2.2.2; rw [this] at hb; exact hb.right
      rw [hp]
      refine Ev.bind h ?_
      have z := gj0_ok r hr ⟨kd, ro, sq, ti, false, 0, 0, 0, 0, v, 0⟩ (show (0 : Nat) < _ by decide) hq
      simp only [show hi 0 = 0 from rfl, show lo 0 = 0 from rfl] at z
      exact z
    · rw [hbl] at hp
      rcases hp with hp | hp
      · exact absurd rfl hp
      rw [hp]
      exact Ev.bind h (gj0_bad _ hy _ _ _ _ _ _ _ _ _ _ _ _)
  · refine Ev.neg c6 ?_
    rw [if_neg c6]
    have z := gj0_ok l hb (zE kd ro sq ti) (show (0 : Nat) < _ by decide) hq
    simp only [zE, show hi 0 = 0 from rfl, show lo 0 = 0 from rfl] at z
    exact z
theorem rdN_le {big m v : Int} {l r : List Int} (hm : m ≤ big) (h : rdN big l = some (v, r)) : rdN m l = if v ≤ m then some (v, r) else none := by
  unfold rdN at h ⊢
  split at h
  · rename_i c
    simp only [Option.some.injEq, Prod.mk.injEq] at h
    rw [h.1, h.2, c.1]
    by_cases g : v ≤ m
    · rw [if_pos ⟨rfl, g⟩, if_pos g]
    · rw [if_neg (fun x => g x.2), if_neg g]
  · cases h
theorem rdN_none {big m : Int} {l : List Int} (hm : m ≤ big) (h : rdN big l = none) : rdN m l = none := by
  unfold rdN at h ⊢
  split at h
  · cases h
  · rename_i c
    rw [if_neg (fun x => c ⟨x.1, by omega⟩)]
theorem end_none {kd ro sq ti : Int} {l : List Int} (hb : Bytes l) (h : ¬ (1 ≤ sq ∧ sq ≤ 1099511627776 ∧ 0 ≤ ti ∧ ti ≤ 1099511627776)) : endS (getEnd kd ro sq ti l) = none := by
  cases hx : getEnd kd ro sq ti l with
  | none => rfl
  | some x =>
    obtain ⟨e, r⟩ := x
    obtain ⟨_, _, h1, h2, _⟩ := getEnd_back hb hx
    simp only [endS, Option.bind_some]
    rw [if_neg]
    rintro ⟨_, hn, _⟩
    (try dsimp only at hn)
    rw [h1, h2] at hn
    omega
theorem get_evn (s : ByteArray) (hs : s.size ≤ 281474976710656) : Ev (fun k => msg_Get.f k s) (evS (getE (bytesOf s))) := by
  simp only [msg_Get.f]
  match hl : bytesOf s with
  | [] => exact Ev.pos ((nil_iff s).2 hl) (Ev.now _)
  | kd :: l =>
    have hz := size_of_bytes hl
    simp only [List.length_cons] at hz
    have hb : Bytes (kd :: l) := by rw [← hl]; exact bytesOf_bytes s
    have hr := rest1 hl
    have hsr : s.extract 1 s.size = strOfNums l := by rw [str_from, hl]; rfl
    rw [bt0 hl, hsr]
    refine Ev.neg (fun h => by rw [nil_iff, hl] at h; cases h) (Ev.pos (by omega) (Ev.pos (by omega) ?_))
    simp only [getE]
    have hz1 : (strOfNums l).size ≤ 281474976710656 := by rw [strOfNums_size]; omega
    have hbl : bytesOf (strOfNums l) = l := bytes_str hb.tail
    have u0 : ∀ x : Int × ByteArray × Int, ∀ a b c : Int, Ev (fun k => tailG k x.2.1 x.2.2 kd a b c) (evS none) → True := fun _ _ _ _ _ => trivial
    rcases many_cases (strOfNums l) hz1 0 (most := 1048576) (by omega) (by omega) with ⟨ro, la, _, hp, h⟩ | ⟨hp, v, s1, y1, h, hy1, hs1⟩
    · rw [hbl] at hp
      have e1 := (rdN_back hb.tail hp).2.2.2
      have hba : Bytes la := by have := hb.tail; rw [e1] at this; exact this.right
      have hla : la.length ≤ 281474976710656 := by have := congrArg List.length e1; rw [List.length_append] at this; omega
      rw [hp]
      simp only [Option.bind_some]
      refine Ev.bind h ?_
      rcases u64_cases (strOfNums la) (by rw [strOfNums_size]; exact hla) 0 with ⟨sq, lb, _, hp2, h2⟩ | ⟨hp2, v2, s2, y2, h2, hy2, hs2⟩
      · rw [bytes_str hba] at hp2
        have e2 := rdN_back hba hp2
        have hbb : Bytes lb := by have := hba; rw [e2.2.2.2] at this; exact this.right
        have hlb : lb.length ≤ 281474976710656 := by have := congrArg List.length e2.2.2.2; rw [List.length_append] at this; omega
        rw [rdN_le (by omega) hp2]
        refine Ev.bind h2 ?_
        rcases u64_cases (strOfNums lb) (by rw [strOfNums_size]; exact hlb) 0 with ⟨ti, lc, _, hp3, h3⟩ | ⟨hp3, v3, s3, y3, h3, hy3, hs3⟩
        · rw [bytes_str hbb] at hp3
          have e3 := rdN_back hbb hp3
          have hbc : Bytes lc := by have := hbb; rw [e3.2.2.2] at this; exact this.right
          have hlc : lc.length ≤ 281474976710656 := by have := congrArg List.length e3.2.2.2; rw [List.length_append] at this; omega
          refine Ev.bind h3 ?_
          refine Ev.to (tail_ok lc hbc hlc kd ro sq (wrap64 ti) e2.1) ?_
          by_cases c1 : sq ≤ 1099511627776
          · rw [if_pos c1]
            simp only [Option.bind_some]
            rw [rdN_le (by omega) hp3]
            by_cases c2 : ti ≤ 1099511627776
            · rw [if_pos c2, w64 (by omega) (by omega)]; rfl
            · rw [if_neg c2, end_none hbc]
              · rfl
              · intro g
                have : wrap64 ti = ti ∨ wrap64 ti < 0 := by unfold wrap64; omega
                omega
          · rw [if_neg c1, end_none hbc (by omega)]; rfl
        · rcases hp3 with hp3 | hp3
          · exact absurd rfl hp3
          rw [bytes_str hbb] at hp3
          refine Ev.bind h3 (Ev.to (tail_bad s3 hs3 hy3 _ _ _ _) ?_)
          by_cases c1 : sq ≤ 1099511627776
          · rw [if_pos c1]
            simp only [Option.bind_some]
            rw [rdN_none (by omega) hp3]; rfl
          · rw [if_neg c1]; rfl
      · rcases hp2 with hp2 | hp2
        · exact absurd rfl hp2
        rw [bytes_str hba] at hp2
        rw [rdN_none (by omega) hp2]
        refine Ev.bind h2 ?_
        rcases u64_cases s2 hs2 y2 with ⟨_, _, hh, _⟩ | ⟨_, v3, s3, y3, h3, hy3, hs3⟩
        · exact absurd hh hy2
        · exact Ev.bind h3 (tail_bad s3 hs3 hy3 _ _ _ _)
    · rcases hp with hp | hp
      · exact absurd rfl hp
      rw [hbl] at hp
      rw [hp]
      refine Ev.bind h ?_
      rcases u64_cases s1 hs1 y1 with ⟨_, _, hh, _⟩ | ⟨_, v2, s2, y2, h2, hy2, hs2⟩
      · exact absurd hh hy1
      refine Ev.bind h2 ?_
      rcases u64_cases s2 hs2 y2 with ⟨_, _, hh, _⟩ | ⟨_, v3, s3, y3, h3, hy3, hs3⟩
      · exact absurd hh hy2
      · exact Ev.bind h3 (tail_bad s3 hs3 hy3 _ _ _ _)
end Go.Proofs.Ytcnkiigobcigbaa.Msg
end
section
namespace Go.Proofs.Ytcnkiigobcigbaa.Cut
set_option linter.unusedVariables false
open Go.RowKit Go.Proofs.Ytcnkiigobcigbaa.Q Go.Proofs.YtcnkiigobcigbaaW.PrintWords Go.Proofs.YtcnkiigobcigbaaW.PrintLast Go.Proofs.Ytcnkiigobcigbaa.Base
def lenL (q : List Int) : Int := 256 * rd q 1 + rd q 2
def comesL (r : List Int) (b : Bool) (s x : Int) : (List Int × Bool × Int) × List S47 :=
  if 0 < s then ((r, b, s - 1), [])
  else if r = [] ∧ x ≠ 245 then ((r, true, s), if b then [] else [⟨2, ⟨#[]⟩⟩])
  else if (r ++ [x]).length < 3 then ((r ++ [x], false, s), [])
  else if lenL (r ++ [x]) < 1 ∨ 64 < lenL (r ++ [x]) then (([], false, lenL (r ++ [x])), [⟨3, ⟨#[]⟩⟩])
  else if ((r ++ [x]).length : Int) = 3 + lenL (r ++ [x]) then (([], false, 0), [⟨1, strOfNums ((r ++ [x]).drop 3)⟩])
  else ((r ++ [x], false, s), [])
def feedL : List Int → Bool → Int → List Int → (List Int × Bool × Int) × List S47
  | r, b, s, [] => ((r, b, s), [])
  | r, b, s, x :: l => ((feedL (comesL r b s x).1.1 (comesL r b s x).1.2.1 (comesL r b s x).1.2.2 l).1, (comesL r b s x).2 ++ (feedL (comesL r b s x).1.1 (comesL r b s x).1.2.1 (comesL r b s x).1.2.2 l).2)
theorem feed_app (m : List Int) : ∀ (l r : List Int) (b : Bool) (s : Int), feedL r b s (l ++ m) = ((feedL (feedL r b s l).1.1 (feedL r b s l).1.2.1 (feedL r b s l).1.2.2 m).1, (feedL r b s l).2 ++ (feedL (feedL r b s l).1.1 (feedL r b s l).1.2.1 (feedL r b s l).1.2.2 m).2)
  | [], r, b, s => by simp [feedL]
  | x :: l, r, b, s => by
    simp only [List.cons_append, feedL]
    rw [feed_app m l]
    simp [List.append_assoc]
theorem feed_skip (r : List Int) (b : Bool) : ∀ (p m : List Int) (s : Int), (p.length : Int) ≤ s → feedL r b s (p ++ m) = feedL r b (s - p.length) m
  | [], m, s, h => by simp
  | x :: p, m, s, h => by
    simp only [List.length_cons] at h
    have hc : comesL r b s x = ((r, b, s - 1), []) := by unfold comesL; rw [if_pos (by omega)]
    simp only [List.cons_append, feedL, hc]
    rw [feed_skip r b p m (s - 1) (by omega)]
    simp only [List.length_cons, List.nil_append]
    rw [show s - 1 - (p.length : Int) = s - ((p.length + 1 : Nat) : Int) by omega]
theorem feed_bad : ∀ (p m : List Int) (b : Bool), p ≠ [] → (∀ x ∈ p, x ≠ 245) → feedL [] b 0 (p ++ m) = ((feedL [] true 0 m).1, (if b then [] else [⟨2, ⟨#[]⟩⟩]) ++ (feedL [] true 0 m).2)
  | [], _, _, h, _ => absurd rfl h
  | x :: p, m, b, _, h => by
    have hx : x ≠ 245 := h x (by simp)
    have hc : comesL [] b 0 x = (([], true, 0), if b then [] else [⟨2, ⟨#[]⟩⟩]) := by unfold comesL; rw [if_neg (by omega), if_pos ⟨rfl, hx⟩]
    simp only [List.cons_append, feedL, hc]
    by_cases hp : p = []
    · subst hp
      rfl
    · rw [feed_bad p m true hp (fun y hy => h y (by simp [hy]))]
      simp
theorem comes_begin (b : Bool) : comesL [] b 0 245 = (([245], false, 0), []) := by
  unfold comesL
  rw [if_neg (by omega), if_neg (by simp), if_pos (by simp)]
  rfl
theorem feed_begin (b b' : Bool) (m : List Int) : feedL [] b 0 (245 :: m) = feedL [] b' 0 (245 :: m) := by
  simp only [feedL, comes_begin]
theorem comes_second (y : Int) : comesL [245] false 0 y = (([245, y], false, 0), []) := by
  unfold comesL
  rw [if_neg (by omega), if_neg (by simp), if_pos (by simp)]
  rfl
theorem lenL_three (x y z : Int) (m : List Int) : lenL (x :: y :: z :: m) = 256 * y + z := by
  simp [lenL, rd]
theorem comes_third_long (y z : Int) (h : 256 * y + z < 1 ∨ 64 < 256 * y + z) : comesL [245, y] false 0 z = (([], false, 256 * y + z), [⟨3, ⟨#[]⟩⟩]) := by
  unfold comesL
  have e : ([245, y] ++ [z] : List Int) = [245, y, z] := rfl
  rw [if_neg (by omega), if_neg (by simp), e, lenL_three, if_neg (by simp), if_pos h]
theorem comes_more (q : List Int) (x n : Int) (hq : q ≠ []) (h3 : 3 ≤ (q ++ [x]).length) (hn : lenL (q ++ [x]) = n) (h1 : 1 ≤ n) (h2 : n ≤ 64) (hl : ((q ++ [x]).length : Int) < 3 + n) : comesL q false 0 x = ((q ++ [x], false, 0), []) := by
  unfold comesL
  rw [if_neg (by omega), if_neg (fun h => hq h.1), if_neg (by omega), hn, if_neg (by omega), if_neg (by omega)]
theorem comes_last (q : List Int) (x n : Int) (hq : q ≠ []) (h3 : 3 ≤ (q ++ [x]).length) (hn : lenL (q ++ [x]) = n) (h1 : 1 ≤ n) (h2 : n ≤ 64) (hl : ((q ++ [x]).length : Int) = 3 + n) : comesL q false 0 x = (([], false, 0), [⟨1, strOfNums ((q ++ [x]).drop 3)⟩]) := by
  unfold comesL
  rw [if_neg (by omega), if_neg (fun h => hq h.1), if_neg (by omega), hn, if_neg (by omega), if_pos hl]
theorem feed_more (y z : Int) (h1 : 1 ≤ 256 * y + z) (h2 : 256 * y + z ≤ 64) : ∀ (m q : List Int), (((245 :: y :: z :: q) ++ m).length : Int) < 3 + (256 * y + z) → feedL (245 :: y :: z :: q) false 0 m = (((245 :: y :: z :: q) ++ m, false, 0), [])
  | [], q, _ => by simp [feedL]
  | x :: m, q, h => by
    have hc := comes_more (245 :: y :: z :: q) x (256 * y + z) (by simp) (by simp) (by simp only [List.cons_append]; exact lenL_three _ _ _ _) h1 h2 (by simp at h ⊢; omega)
    simp only [feedL, hc]
    have := feed_more y z h1 h2 m (q ++ [x]) (by simp at h ⊢; omega)
    simp only [List.cons_append, List.append_assoc, List.nil_append] at this ⊢
    rw [this]
theorem feed_body (y z : Int) (h1 : 1 ≤ 256 * y + z) (h2 : 256 * y + z ≤ 64) : ∀ (m q r : List Int), m ≠ [] → (((245 :: y :: z :: q) ++ m).length : Int) = 3 + (256 * y + z) → feedL (245 :: y :: z :: q) false 0 (m ++ r) = ((feedL [] false 0 r).1, ⟨1, strOfNums (q ++ m)⟩ :: (feedL [] false 0 r).2)
  | [], _, _, h, _ => absurd rfl h
  | x :: m, q, r, _, h => by
    by_cases hm : m = []
    · subst hm
      have hc := comes_last (245 :: y :: z :: q) x (256 * y + z) (by simp) (by simp) (by simp only [List.cons_append]; exact lenL_three _ _ _ _) h1 h2 (by simp at h ⊢; omega)
      simp only [List.cons_append, List.nil_append, feedL, hc]
      simp
    · have hl : 0 < m.length := List.length_pos_iff.mpr hm
      have hc := comes_more (245 :: y :: z :: q) x (256 * y + z) (by simp) (by simp) (by simp only [List.cons_append]; exact lenL_three _ _ _ _) h1 h2 (by simp at h ⊢; omega)
      simp only [List.cons_append, feedL, hc]
      have := feed_body y z h1 h2 m (q ++ [x]) r hm (by simp at h ⊢; omega)
      simp only [List.cons_append, List.append_assoc, List.nil_append] at this ⊢
      rw [this]
theorem feed_message (b : Bool) (y z : Int) (h1 : 1 ≤ 256 * y + z) (h2 : 256 * y + z ≤ 64) (m r : List Int) (h : (m.length : Int) = 256 * y + z) : feedL [] b 0 (245 :: y :: z :: (m ++ r)) = ((feedL [] false 0 r).1, ⟨1, strOfNums m⟩ :: (feedL [] false 0 r).2) := by
  have h3 : comesL [245, y] false 0 z = (([245, y, z], false, 0), []) := comes_more [245, y] z (256 * y + z) (by simp) (by simp) (lenL_three _ _ _ _) h1 h2 (by simp; omega)
  simp only [feedL, comes_begin, comes_second, h3, List.nil_append]
  have hm : m ≠ [] := fun e => by subst e; simp at h; omega
  have := feed_body y z h1 h2 m [] r hm (by simp; omega)
  rw [this]
  rfl
theorem feed_short (b : Bool) (y z : Int) (h1 : 1 ≤ 256 * y + z) (h2 : 256 * y + z ≤ 64) (m : List Int) (h : (m.length : Int) < 256 * y + z) : feedL [] b 0 (245 :: y :: z :: m) = ((245 :: y :: z :: m, false, 0), []) := by
  have h3 : comesL [245, y] false 0 z = (([245, y, z], false, 0), []) := comes_more [245, y] z (256 * y + z) (by simp) (by simp) (lenL_three _ _ _ _) h1 h2 (by simp; omega)
  simp only [feedL, comes_begin, comes_second, h3, List.nil_append]
  have := feed_more y z h1 h2 m [] (by simp; omega)
  rw [this]
  rfl
theorem feed_long (b : Bool) (y z : Int) (h : 256 * y + z < 1 ∨ 64 < 256 * y + z) (m : List Int) : feedL [] b 0 (245 :: y :: z :: m) = ((feedL [] false (256 * y + z) m).1, ⟨3, ⟨#[]⟩⟩ :: (feedL [] false (256 * y + z) m).2) := by
  simp only [feedL, comes_begin, comes_second, comes_third_long y z h, List.nil_append]
  rfl
end Go.Proofs.Ytcnkiigobcigbaa.Cut
end
section
namespace Go.Proofs.Ytcnkiigobcigbaa.Cut
set_option linter.unusedVariables false
open Go.RowKit Go.Proofs.Ytcnkiigobcigbaa.Q Go.Proofs.YtcnkiigobcigbaaW.PrintWords Go.Proofs.YtcnkiigobcigbaaW.PrintLast Go.Proofs.Ytcnkiigobcigbaa.Base
theorem str_nil_iff (r : List Int) : (strOfNums r).toList = [] ↔ r = [] := by rw [toList_nil_iff, strOfNums_size, List.length_eq_zero_iff]
theorem bt_str {r : List Int} (h : Bytes r) (i : Int) : bt (strOfNums r) i = rd r i := bt_of (bytes_str h) i
theorem rd_range {r : List Int} (h : Bytes r) (i : Int) : 0 ≤ rd r i ∧ rd r i < 256 := by
  rw [← bt_str h]
  have := bt_range (strOfNums r) i
  omega
def Keeps (r : List Int) (b : Bool) (s : Int) : Prop := Bytes r ∧ 0 ≤ s ∧ s ≤ 65535 ∧ (b = true → s = 0 ∧ r = []) ∧ (r ≠ [] → s = 0 ∧ rd r 0 = 245 ∧ (3 ≤ r.length → 1 ≤ lenL r ∧ lenL r ≤ 64 ∧ (r.length : Int) < 3 + lenL r))
theorem Keeps.short {r : List Int} {b : Bool} {s : Int} (h : Keeps r b s) : r.length ≤ 66 := by
  by_cases h3 : 3 ≤ r.length
  · have := h.2.2.2.2 (fun e => by subst e; simp at h3)
    have := this.2.2 h3
    omega
  · omega
theorem Keeps.none : Keeps [] false 0 := ⟨Bytes.nil, by omega, by omega, by simp, by simp⟩
theorem rd_zero_app {r : List Int} (x : Int) (h : r ≠ []) : rd (r ++ [x]) 0 = rd r 0 := by
  cases r with
  | nil => exact absurd rfl h
  | cons y t => simp [rd]
theorem Keeps.comes {r : List Int} {b : Bool} {s : Int} (h : Keeps r b s) {x : Int} (hx0 : 0 ≤ x) (hx1 : x < 256) : Keeps (comesL r b s x).1.1 (comesL r b s x).1.2.1 (comesL r b s x).1.2.2 := by
  have hq : Bytes (r ++ [x]) := h.1.append (Bytes.cons hx0 hx1 Bytes.nil)
  obtain ⟨hr, hs0, hs1, hb, hrest⟩ := h
  unfold comesL
  by_cases h0 : 0 < s
  · rw [if_pos h0]
    exact ⟨hr, by show 0 ≤ s - 1; omega, by show s - 1 ≤ 65535; omega, fun e => by have := hb e; omega, fun e => by have := hrest e; omega⟩
  · rw [if_neg h0]
    obtain rfl : s = 0 := by omega
    by_cases h1 : r = [] ∧ x ≠ 245
    · rw [if_pos h1]
      exact ⟨hr, by simp, by simp, fun _ => ⟨rfl, h1.1⟩, fun e => absurd h1.1 e⟩
    · rw [if_neg h1]
      have hb0 : rd (r ++ [x]) 0 = 245 := by
        by_cases he : r = []
        · subst he
          have : x = 245 := Classical.not_not.mp (fun e => h1 ⟨rfl, e⟩)
          subst this
          rfl
        · rw [rd_zero_app x he]
          exact (hrest he).2.1
      by_cases h3 : (r ++ [x]).length < 3
      · rw [if_pos h3]
        exact ⟨hq, by simp, by simp, by simp, fun _ => ⟨rfl, hb0, fun h => by simp only [] at h; omega⟩⟩
      · rw [if_neg h3]
        have hy := rd_range hq 1
        have hz := rd_range hq 2
        by_cases h4 : lenL (r ++ [x]) < 1 ∨ 64 < lenL (r ++ [x])
        · rw [if_pos h4]
          exact ⟨Bytes.nil, by show 0 ≤ lenL _; unfold lenL; omega, by show lenL _ ≤ 65535; unfold lenL; omega, by simp, by simp⟩
        · rw [if_neg h4]
          by_cases h5 : ((r ++ [x]).length : Int) = 3 + lenL (r ++ [x])
          · rw [if_pos h5]
            exact Keeps.none
          · rw [if_neg h5]
            refine ⟨hq, by simp, by simp, by simp, fun _ => ⟨rfl, hb0, fun h => ⟨show 1 ≤ lenL (r ++ [x]) by omega, show lenL (r ++ [x]) ≤ 64 by omega, ?_⟩⟩⟩
            show ((r ++ [x]).length : Int) < 3 + lenL (r ++ [x])
            by_cases hl : 3 ≤ r.length
            · have h6 := (hrest (fun e => by subst e; simp at hl)).2.2 hl
              have e1 : lenL (r ++ [x]) = lenL r := by
                unfold lenL rd
                simp only [List.getD_eq_getElem?_getD]
                rw [List.getElem?_append_left (by simp; omega), List.getElem?_append_left (by simp; omega)]
              rw [e1] at h5 ⊢
              simp at h5 ⊢
              omega
            · simp at h3 h5 ⊢
              omega
def Begun (r : List Int) : Prop := rd r 0 = 245 ∧ (3 ≤ r.length → 1 ≤ lenL r ∧ lenL r ≤ 64 ∧ (r.length : Int) < 3 + lenL r)
instance (r : List Int) : Decidable (Begun r) := by unfold Begun; infer_instance
def Right (r : List Int) (b : Bool) (s : Int) : Prop := 0 ≤ s ∧ s ≤ 65535 ∧ (b = true → s = 0 ∧ r = []) ∧ (r ≠ [] → s = 0 ∧ Begun r)
instance (r : List Int) (b : Bool) (s : Int) : Decidable (Right r b s) := by unfold Right; infer_instance
theorem keeps_right {r : List Int} {b : Bool} {s : Int} (k : Keeps r b s) : Right r b s := ⟨k.2.1, k.2.2.1, k.2.2.2.1, fun e => ⟨(k.2.2.2.2 e).1, (k.2.2.2.2 e).2.1, (k.2.2.2.2 e).2.2⟩⟩
def chk (r : List Int) (b : Bool) (s : Int) : Int := if Right r b s then 0 else 2
theorem wraps_i64 (n : Int) (h₀ : 0 ≤ n) (h₁ : n < 2 ^ 63) : IntKind.i64.wrap n = n := by rw [i64_w, w64 (by omega) (by omega)]
theorem or_len {y z : Int} (hy0 : 0 ≤ y) (hy1 : y < 256) (hz0 : 0 ≤ z) (hz1 : z < 256) : Go.bits .or .i64 (y * 256) z = 256 * y + z := by
  rw [bits_join .i64 63 (by decide) wraps_i64 8 (y * 256) z (by omega) (by omega) (by omega) hz0 (by omega) (by omega)]
  omega
theorem lenL_range {r : List Int} (hr : Bytes r) : 0 ≤ lenL r ∧ lenL r ≤ 65535 := by
  have hy := rd_range hr 1
  have hz := rd_range hr 2
  unfold lenL
  omega
theorem long_eq {r : List Int} (hr : Bytes r) (h3 : 3 ≤ r.length) : cutter_long.f (strOfNums r) = some (lenL r) := by
  unfold cutter_long.f
  have hy := rd_range hr 1
  have hz := rd_range hr 2
  rw [strOfNums_size, if_pos (by omega), if_pos (by omega), bt_str hr, bt_str hr]
  rw [w64 (n := rd r 1) (by omega) (by omega), w64 (n := rd r 2) (by omega) (by omega), w64 (by omega) (by omega), or_len hy.1 hy.2 hz.1 hz.2]
  rfl
theorem fit_eq (n : Int) : cutter_fit.f n = some (decide (1 ≤ n ∧ n ≤ 64)) := by
  unfold cutter_fit.f
  by_cases h : n ≥ 1
  · rw [if_pos h]
    simp [h]
  · rw [if_neg h]
    simp [h]
theorem begins_eq {r : List Int} (hr : Bytes r) (hn : r ≠ []) (hl : r.length ≤ 4194304) : cutter_begins.f (strOfNums r) = some (decide (Begun r)) := by
  have hp : 0 < r.length := List.length_pos_iff.mpr hn
  unfold cutter_begins.f
  rw [strOfNums_size, if_pos (by omega), bt_str hr]
  by_cases h0 : rd r 0 = 245
  · rw [if_pos h0]
    by_cases h3 : (r.length : Int) < 3
    · rw [if_pos h3]
      have : Begun r := ⟨h0, fun h => by omega⟩
      simp [this]
    · rw [if_neg h3, long_eq hr (by omega), Option.bind_some, fit_eq, Option.bind_some, w64 (by omega) (by omega)]
      by_cases hf : 1 ≤ lenL r ∧ lenL r ≤ 64
      · rw [if_pos (by simpa using hf)]
        congr 1
        apply decide_eq_decide.mpr
        unfold Begun
        constructor
        · intro h
          exact ⟨h0, fun _ => ⟨hf.1, hf.2, by omega⟩⟩
        · intro h
          have := (h.2 (by omega)).2.2
          omega
      · rw [if_neg (by simpa using hf)]
        have : ¬ Begun r := fun h => hf ⟨(h.2 (by omega)).1, (h.2 (by omega)).2.1⟩
        simp [this]
  · rw [if_neg h0]
    have : ¬ Begun r := fun h => h0 h.1
    simp [this]
theorem check_eq {r : List Int} (hr : Bytes r) (hl : r.length ≤ 4194304) (b : Bool) (s : Int) : cutter_Check.f (strOfNums r) b s = some (chk r b s) := by
  unfold cutter_Check.f chk
  have bad : ∀ {p : Prop} [Decidable p], ¬ p → some (2 : Int) = some (if p then 0 else 2) := fun h => by rw [if_neg h]
  have good : ∀ {p : Prop} [Decidable p], p → some (0 : Int) = some (if p then 0 else 2) := fun h => by rw [if_pos h]
  by_cases h0 : s < 0
  · rw [if_pos h0]
    exact bad (fun h => by have := h.1; omega)
  · rw [if_neg h0]
    by_cases h1 : s > 65535
    · rw [if_pos h1]
      exact bad (fun h => by have := h.2.1; omega)
    · rw [if_neg h1]
      by_cases hn : r = []
      · rw [if_pos ((str_nil_iff r).2 hn)]
        by_cases h2 : s > 0
        · rw [if_pos h2]
          cases b
          · exact good ⟨by omega, by omega, by simp, fun e => absurd hn e⟩
          · exact bad (fun h => by have := (h.2.2.1 rfl).1; omega)
        · rw [if_neg h2]
          exact good ⟨by omega, by omega, fun _ => ⟨by omega, hn⟩, fun e => absurd hn e⟩
      · rw [if_neg (fun e => hn ((str_nil_iff r).1 e))]
        by_cases h2 : s > 0
        · rw [if_pos h2]
          exact bad (fun h => by have := (h.2.2.2 hn).1; omega)
        · rw [if_neg h2]
          cases b
          · rw [if_neg (by decide), begins_eq hr hn hl, Option.bind_some]
            by_cases hb : Begun r
            · rw [if_pos (by simpa using hb)]
              exact good ⟨by omega, by omega, by simp, fun _ => ⟨by omega, hb⟩⟩
            · rw [if_neg (by simpa using hb)]
              exact bad (fun h => hb (h.2.2.2 hn).2)
          · rw [if_pos rfl]
            exact bad (fun h => hn (h.2.2.1 rfl).2)
def told5 (d : (List Int × Bool × Int) × List S47) (o : List S47) : ByteArray × Bool × Int × List S47 × Int := (strOfNums d.1.1, d.1.2.1, d.1.2.2, o ++ d.2, 0)
def fed (r : List Int) (b : Bool) (s : Int) (l : List Int) : ByteArray × Bool × Int × List S47 × Int := if Right r b s then told5 (feedL r b s l) [] else (⟨#[]⟩, false, 0, [], 2)
theorem idx_spec {l : List Int} (hl : Bytes l) : (idxByte (strOfNums l) 245 = -1 ∧ ∀ x ∈ l, x ≠ 245) ∨ ∃ p m, l = p ++ 245 :: m ∧ (∀ x ∈ p, x ≠ 245) ∧ idxByte (strOfNums l) 245 = (p.length : Int) := by
  have hp : ∀ i, i < l.length → (((strOfNums l)[i]! == (245 : Int).toNat.toUInt8) = true ↔ rd l (i : Int) = 245) := by
    intro i hi
    have hs : i < (strOfNums l).size := by rw [strOfNums_size]; exact hi
    rw [getElem!_pos (strOfNums l) i hs, ← bt_str hl]
    have h := bt_at (strOfNums l) (i : Int) (by simpa using hs)
    rw [← h]
    simp only [Int.toNat_natCast]
    constructor
    · intro e
      rw [eq_of_beq e]
      rfl
    · intro e
      apply beq_iff_eq.mpr
      apply UInt8.toNat_inj.mp
      have : ((strOfNums l)[i]'hs).toNat = 245 := by omega
      rw [this]
      rfl
  have hrd : ∀ i (hi : i < l.length), rd l (i : Int) = l[i] := fun i hi => by simp [rd, List.getD_eq_getElem?_getD, List.getElem?_eq_getElem hi]
  unfold idxByte firstIdx
  cases hf : (List.range (strOfNums l).size).find? (fun i => (strOfNums l)[i]! == (245 : Int).toNat.toUInt8) with
  | none =>
    refine Or.inl ⟨rfl, ?_⟩
    intro x hx e
    obtain ⟨i, hi, rfl⟩ := List.getElem_of_mem hx
    have := List.find?_eq_none.1 hf i (by rw [strOfNums_size]; exact List.mem_range.2 hi)
    exact this ((hp i hi).2 (by rw [hrd i hi]; exact e))
  | some i =>
    obtain ⟨h1, h2, h3⟩ := List.find?_range_eq_some.1 hf
    rw [strOfNums_size] at h2
    have hi := List.mem_range.1 h2
    refine Or.inr ⟨l.take i, l.drop (i + 1), ?_, ?_, ?_⟩
    · have e := (hp i hi).1 h1
      rw [hrd i hi] at e
      rw [← e, ← List.drop_eq_getElem_cons hi, List.take_append_drop]
    · intro x hx e
      obtain ⟨j, hj, rfl⟩ := List.getElem_of_mem hx
      have hj' : j < i := by simp at hj; omega
      have := h3 j hj'
      rw [List.getElem_take] at e
      rw [(hp j (by omega)).2 (by rw [hrd j (by omega)]; exact e)] at this
      cases this
    · show ((i : Nat) : Int) = _
      simp
      omega
theorem feed_two (b : Bool) (t : List Int) (h : t.length < 2) : feedL [] b 0 (245 :: t) = ((245 :: t, false, 0), []) := by
  match t, h with
  | [], _ => simp only [feedL, comes_begin]; rfl
  | [y], _ => simp only [feedL, comes_begin, comes_second]; rfl
theorem exit_ev (x0 : ByteArray) (b : Bool) (k : Int) (o : List S47) (h0 : 0 ≤ k) (h1 : k ≤ 65535) (ho : (o.length + 1) * 24 ≤ 140737488355328) : Ev (fun n => cutter_Feed.l0 n x0 b k ⟨#[]⟩ o) (x0, b, k, o, 0) := by
  refine Ev.succ ?_
  simp only [cutter_Feed.l0]
  have hz : (⟨#[]⟩ : ByteArray).size = 0 := rfl
  exact Ev.neg (fun h => h ⟨by omega, h0, by omega, ho⟩) (Ev.pos hz (Ev.const rfl))
theorem begun_feed {r : List Int} (hn : r ≠ []) (h : Begun r) (b : Bool) : feedL [] b 0 r = ((r, false, 0), []) := by
  obtain ⟨x, t, rfl⟩ : ∃ x t, r = x :: t := by cases r with | nil => exact absurd rfl hn | cons x t => exact ⟨x, t, rfl⟩
  obtain rfl : x = 245 := by simpa [rd] using h.1
  match t, h with
  | [], _ => exact feed_two b [] (by simp)
  | [y], _ => exact feed_two b [y] (by simp)
  | y :: z :: m, h =>
    have h3 := h.2 (by simp)
    rw [lenL_three] at h3
    exact feed_short b y z h3.1 h3.2.1 m (by have := h3.2.2; simp at this; omega)
theorem right_feed {r : List Int} {b : Bool} {s : Int} (h : Right r b s) (l : List Int) : feedL [] b s (r ++ l) = feedL r b s l := by
  by_cases hn : r = []
  · subst hn
    rfl
  · obtain ⟨rfl, hB⟩ := h.2.2.2 hn
    have hb : b = false := by
      cases b
      · rfl
      · exact absurd (h.2.2.1 rfl).2 hn
    subst hb
    rw [feed_app, begun_feed hn hB]
    simp
def wrapL (a : ByteArray) : ByteArray × Int := if 1 ≤ a.size ∧ a.size ≤ 64 then (strOfNums ([245, 0, (a.size : Int)] ++ bytesOf a), 0) else (⟨#[]⟩, 11)
theorem wrap_eq (a : ByteArray) : cutter_Wrap.f a = some (wrapL a) := by
  unfold cutter_Wrap.f wrapL
  rw [fit_eq, Option.bind_some]
  by_cases h : 1 ≤ a.size ∧ a.size ≤ 64
  · rw [if_pos (by simp; omega), if_pos h, Option.bind_some, strOfNums_size, if_pos (by simp; omega), str_append, str_bytes, show ((a.size : Int) % 256) = a.size by omega]
  · rw [if_neg (by simp; omega), if_neg h]
def Good (p : S47) : Prop := (p.f0 = 1 ∧ 1 ≤ p.f1.size ∧ p.f1.size ≤ 64) ∨ ((p.f0 = 2 ∨ p.f0 = 3) ∧ p.f1 = ⟨#[]⟩)
theorem comes_good {r : List Int} {b : Bool} {s : Int} (x : Int) : ∀ p ∈ (comesL r b s x).2, Good p := by
  intro p hp
  unfold comesL at hp
  by_cases h0 : 0 < s
  · rw [if_pos h0] at hp
    cases hp
  · rw [if_neg h0] at hp
    by_cases h1 : r = [] ∧ x ≠ 245
    · rw [if_pos h1] at hp
      cases b
      · have : p = ⟨2, ⟨#[]⟩⟩ := by simpa using hp
        subst this
        exact Or.inr ⟨Or.inl rfl, rfl⟩
      · simp at hp
    · rw [if_neg h1] at hp
      by_cases h2 : (r ++ [x]).length < 3
      · rw [if_pos h2] at hp
        cases hp
      · rw [if_neg h2] at hp
        by_cases h3 : lenL (r ++ [x]) < 1 ∨ 64 < lenL (r ++ [x])
        · rw [if_pos h3] at hp
          have : p = ⟨3, ⟨#[]⟩⟩ := by simpa using hp
          subst this
          exact Or.inr ⟨Or.inr rfl, rfl⟩
        · rw [if_neg h3] at hp
          by_cases h4 : ((r ++ [x]).length : Int) = 3 + lenL (r ++ [x])
          · rw [if_pos h4] at hp
            have : p = ⟨1, strOfNums ((r ++ [x]).drop 3)⟩ := by simpa using hp
            subst this
            refine Or.inl ⟨rfl, ?_, ?_⟩
            · show 1 ≤ (strOfNums ((r ++ [x]).drop 3)).size
              rw [strOfNums_size, List.length_drop]
              omega
            · show (strOfNums ((r ++ [x]).drop 3)).size ≤ 64
              rw [strOfNums_size, List.length_drop]
              omega
          · rw [if_neg h4] at hp
            cases hp
theorem feed_keeps : ∀ (l r : List Int) (b : Bool) (s : Int), Bytes l → Keeps r b s → Keeps (feedL r b s l).1.1 (feedL r b s l).1.2.1 (feedL r b s l).1.2.2 ∧ ∀ p ∈ (feedL r b s l).2, Good p
  | [], r, b, s, _, hk => ⟨hk, fun p hp => by simp [feedL] at hp⟩
  | x :: l, r, b, s, hl, hk => by
    have h := feed_keeps l _ _ _ hl.tail (hk.comes hl.head.1 hl.head.2)
    simp only [feedL]
    refine ⟨h.1, fun p hp => ?_⟩
    rcases List.mem_append.1 hp with hp | hp
    · exact comes_good x p hp
    · exact h.2 p hp
theorem clw_ev : ∀ (N : Nat) (l : List Int) (o : List S47) (b : Bool) (k : Int), l.length ≤ N → Bytes l → 0 ≤ k → k ≤ 65535 → o.length + (feedL [] b k l).2.length ≤ 5864062014000 → l.length ≤ 4611686018427387904 →
    Ev (fun n => cutter_Feed.l0 n ⟨#[]⟩ b k (strOfNums l) o) (told5 (feedL [] b k l) o)
  | 0, l, o, b, k, hN, hb, h0, h1, ho, hl => by
    obtain rfl : l = [] := List.length_eq_zero_iff.1 (by omega)
    refine Ev.to (exit_ev _ b k o h0 h1 (by omega)) ?_
    simp [told5, feedL, str_nil]
  | N + 1, l, o, b, k, hN, hb, h0, h1, ho, hl => by
    by_cases hn : l = []
    · subst hn
      refine Ev.to (exit_ev _ b k o h0 h1 (by omega)) ?_
      simp [told5, feedL, str_nil]
    have hp : 0 < l.length := List.length_pos_iff.mpr hn
    refine Ev.succ ?_
    simp only [cutter_Feed.l0, strOfNums_size, bt_str hb]
    refine Ev.neg (fun h => h ⟨by omega, h0, by omega, by omega⟩) (Ev.neg (by omega) ?_)
    have dr : ∀ m, (strOfNums l).extract m l.length = strOfNums (l.drop m) := fun m => by
      have := str_from (strOfNums l) m
      rw [strOfNums_size, bytes_str hb] at this
      exact this
    by_cases hk : k > 0
    · refine Ev.pos hk ?_
      simp only [dr]
      have hm : min l.length k.toNat ≤ l.length := Nat.min_le_left _ _
      have hm1 : 1 ≤ min l.length k.toNat := by omega
      have hmk : ((min l.length k.toNat : Nat) : Int) ≤ k := by omega
      generalize min l.length k.toNat = m at hm hm1 hmk
      have e := feed_skip [] b (l.take m) (l.drop m) k (by simp; omega)
      rw [List.take_append_drop, List.length_take, Nat.min_eq_left hm] at e
      rw [e] at ho
      refine Ev.to (clw_ev N (l.drop m) o b (k - m) (by simp; omega) (hb.drop m) (by omega) (by omega) ho (by simp; omega)) ?_
      rw [e]
    · obtain rfl : k = 0 := by omega
      refine Ev.neg hk ?_
      by_cases h245 : rd l 0 ≠ 245
      · refine Ev.pos h245 ?_
        rcases idx_spec hb with ⟨hi, hall⟩ | ⟨p, m, he, hall, hi⟩
        · simp only [hi, if_pos (show (-1 : Int) < 0 by decide), show decide ((-1 : Int) < 0) = true from rfl]
          refine Ev.pos ⟨by decide, by omega⟩ ?_
          have e := feed_bad l [] b hn hall
          rw [List.append_nil] at e
          rw [e] at ho
          refine Ev.to (exit_ev _ true 0 (if b = true then o else o ++ [⟨2, ⟨#[]⟩⟩]) (by decide) (by decide) (by cases b <;> simp at ho ⊢ <;> omega)) ?_
          rw [e]
          cases b <;> simp [told5, feedL, str_nil]
        · have hpn : p ≠ [] := by
            rintro rfl
            subst he
            exact h245 rfl
          have hpl : 0 < p.length := List.length_pos_iff.mpr hpn
          have hll : l.length = p.length + (m.length + 1) := by rw [he]; simp
          simp only [hi]
          refine Ev.pos ⟨by omega, by omega⟩ ?_
          have hneg : ¬ (p.length : Int) < 0 := by omega
          have hdrop : l.drop p.length = 245 :: m := by rw [he]; simp
          simp only [if_neg hneg, Int.toNat_natCast, dr, hdrop, decide_eq_false hneg]
          rw [he, feed_bad p (245 :: m) b hpn hall, feed_begin true false] at ho
          refine Ev.to (clw_ev N (245 :: m) (if b = true then o else o ++ [⟨2, ⟨#[]⟩⟩]) false 0 (by simp; omega) (by rw [← hdrop]; exact hb.drop _) (by decide) (by decide) (by cases b <;> simp [List.length_append] at ho ⊢ <;> omega) (by simp; omega)) ?_
          rw [he, feed_bad p (245 :: m) b hpn hall, feed_begin true false]
          cases b <;> simp [told5]
      · have h245' : rd l 0 = 245 := Classical.not_not.mp h245
        refine Ev.neg h245 ?_
        obtain ⟨x, t, rfl⟩ : ∃ x t, l = x :: t := by cases l with | nil => exact absurd rfl hn | cons x t => exact ⟨x, t, rfl⟩
        obtain rfl : x = 245 := by simpa [rd] using h245'
        by_cases h3 : ((245 :: t : List Int).length : Int) < 3
        · refine Ev.pos h3 ?_
          refine Ev.to (exit_ev _ false 0 o (by decide) (by decide) (by omega)) ?_
          rw [feed_two b t (by simp at h3; omega)]
          simp [told5]
        · refine Ev.neg h3 ?_
          obtain ⟨y, z, m, rfl⟩ : ∃ y z m, t = y :: z :: m := by
            match t, h3 with
            | [], h => simp at h
            | [y], h => simp at h
            | y :: z :: m, _ => exact ⟨y, z, m, rfl⟩
          have hL := lenL_range hb
          rw [long_eq hb (by simp), lenL_three] 
          rw [lenL_three] at hL
          simp only [Option.bind_some, fit_eq]
          by_cases hf : 1 ≤ 256 * y + z ∧ 256 * y + z ≤ 64
          · refine Ev.neg (by simpa using hf) ?_
            by_cases hs : ((245 :: y :: z :: m : List Int).length : Int) - 3 < 256 * y + z
            · refine Ev.pos hs ?_
              refine Ev.to (exit_ev _ false 0 o (by decide) (by decide) (by omega)) ?_
              rw [feed_short b y z hf.1 hf.2 m (by simp at hs; omega)]
              simp [told5]
            · refine Ev.neg hs (Ev.pos (by omega) ?_)
              obtain ⟨n, hn'⟩ : ∃ n : Nat, 256 * y + z = (n : Int) := ⟨(256 * y + z).toNat, by omega⟩
              have hnm : n ≤ m.length := by simp at hs; omega
              have ex : (strOfNums (245 :: y :: z :: m)).extract 3 (3 + (256 * y + z)).toNat = strOfNums (m.take n) := by
                rw [str_part, bytes_str hb, show (3 + (256 * y + z)).toNat = n + 3 by omega]
                rfl
              have dx : (245 :: y :: z :: m : List Int).drop (3 + (256 * y + z)).toNat = m.drop n := by
                rw [show (3 + (256 * y + z)).toNat = n + 3 by omega]
                rfl
              simp only [dr, ex, dx]
              have e := feed_message b y z hf.1 hf.2 (m.take n) (m.drop n) (by rw [List.length_take, Nat.min_eq_left hnm]; omega)
              rw [List.take_append_drop] at e
              rw [e] at ho
              refine Ev.to (clw_ev N (m.drop n) (o ++ [⟨1, strOfNums (m.take n)⟩]) false 0 (by simp at hN ⊢; omega) (by rw [← dx]; exact hb.drop _) (by decide) (by decide) (by simp only [List.length_append, List.length_cons, List.length_nil] at ho ⊢; omega) (by simp at hl ⊢; omega)) ?_
              rw [e]
              simp [told5]
          · refine Ev.pos (by simpa using hf) ?_
            simp only [dr]
            have d3 : (245 :: y :: z :: m : List Int).drop 3 = m := rfl
            rw [d3]
            rw [feed_long b y z (by omega) m] at ho
            refine Ev.to (clw_ev N m (o ++ [⟨3, ⟨#[]⟩⟩]) false (256 * y + z) (by simp at hN ⊢; omega) (by rw [← d3]; exact hb.drop _) (by omega) (by omega) (by simp only [List.length_append, List.length_cons, List.length_nil] at ho ⊢; omega) (by simp at hl ⊢; omega)) ?_
            rw [feed_long b y z (by omega) m]
            simp [told5]
theorem feedw_ev (r : List Int) (b : Bool) (s : Int) (c : ByteArray) (hr : Bytes r) (hl : r.length ≤ 4194304) (hc : c.size ≤ 4611686018420000000) (hp : (feedL r b s (bytesOf c)).2.length ≤ 5864062014000) : Ev (fun k => cutter_Feed.f k (strOfNums r) b s c) (fed r b s (bytesOf c)) := by
  simp only [cutter_Feed.f]
  refine Ev.bind (Ev.const (check_eq hr hl b s)) ?_
  unfold chk fed
  by_cases h : Right r b s
  · simp only [if_pos h]
    refine Ev.pos trivial ?_
    by_cases h0 : c.size = 0
    · refine Ev.pos h0 (Ev.const ?_)
      have : bytesOf c = [] := List.length_eq_zero_iff.1 (by rw [bytesOf_length]; exact h0)
      rw [this]
      simp [told5, feedL]
    · refine Ev.neg h0 ?_
      rw [strOfNums_size]
      refine Ev.pos (by omega) ?_
      have e : strOfNums r ++ c = strOfNums (r ++ bytesOf c) := by rw [str_append, str_bytes]
      rw [e]
      refine Ev.to (clw_ev (r ++ bytesOf c).length (r ++ bytesOf c) [] b s (Nat.le_refl _) (hr.append (bytesOf_bytes c)) h.1 h.2.1 (by rw [right_feed h]; simpa using hp) (by rw [List.length_append, bytesOf_length]; omega)) ?_
      rw [right_feed h]
  · simp only [if_neg h]
    first | exact Ev.neg (by decide) (Ev.const rfl) | exact Ev.const rfl
end Go.Proofs.Ytcnkiigobcigbaa.Cut
end
section
namespace Go.Proofs.Ytcnkiigobcigbaa.Stream
set_option linter.unusedVariables false
open Go.RowKit Go.Proofs.Ytcnkiigobcigbaa.Q Go.Proofs.YtcnkiigobcigbaaW.PrintWords Go.Proofs.YtcnkiigobcigbaaW.PrintLast Go.Proofs.Ytcnkiigobcigbaa.Base Go.Proofs.Ytcnkiigobcigbaa.Num Go.Proofs.Ytcnkiigobcigbaa.Addr Go.Proofs.Ytcnkiigobcigbaa.Msg Go.Proofs.Ytcnkiigobcigbaa.Cut
def msgL (e : E11) : List Int := 245 :: 0 :: ((bodyL e).length : Int) :: bodyL e
def streamL : List E11 → List Int
  | [] => []
  | e :: l => msgL e ++ streamL l
theorem streamL_append : ∀ a b, streamL (a ++ b) = streamL a ++ streamL b
  | [], b => rfl
  | e :: a, b => by rw [List.cons_append, streamL, streamL, streamL_append a b, List.append_assoc]
theorem msgL_bytes {e : E11} (h : okE e) : Bytes (msgL e) := by
  have := bodyL_len h
  exact Bytes.cons (by decide) (by decide) (Bytes.cons (by decide) (by decide) (Bytes.cons (by omega) (by omega) (bodyL_bytes h)))
theorem streamL_bytes : ∀ {l : List E11}, (∀ e ∈ l, okE e) → Bytes (streamL l)
  | [], _ => Bytes.nil
  | e :: l, h => (msgL_bytes (h e (by simp))).append (streamL_bytes fun x hx => h x (by simp [hx]))
theorem streamL_len : ∀ {l : List E11}, (∀ e ∈ l, okE e) → (streamL l).length ≤ 67 * l.length
  | [], _ => by simp [streamL]
  | e :: l, h => by
    have h1 := bodyL_len (h e (by simp))
    have h2 := streamL_len (l := l) fun x hx => h x (by simp [hx])
    simp only [streamL, msgL, List.length_append, List.length_cons]
    omega
def pieceOf (e : E11) : S47 := ⟨1, strOfNums (bodyL e)⟩
theorem feed_stream : ∀ {l : List E11} (b : Bool), (∀ e ∈ l, okE e) → ∃ b', feedL [] b 0 (streamL l) = (([], b', 0), l.map pieceOf)
  | [], b, _ => ⟨b, rfl⟩
  | e :: l, b, h => by
    obtain ⟨b', hb⟩ := feed_stream (l := l) false fun x hx => h x (by simp [hx])
    have h1 := bodyL_len (h e (by simp))
    have e1 := feed_message b 0 ((bodyL e).length : Int) (by omega) (by omega) (bodyL e) (streamL l) (by omega)
    refine ⟨b', ?_⟩
    show feedL [] b 0 (245 :: 0 :: ((bodyL e).length : Int) :: (bodyL e ++ streamL l)) = _
    rw [e1, hb]
    rfl
theorem feed_noise {l : List E11} (h : ∀ e ∈ l, okE e) {p : List Int} (hp : ∀ x ∈ p, x ≠ 245) : ∃ b', feedL [] false 0 (p ++ streamL l) = (([], b', 0), (if p = [] then [] else [⟨2, ⟨#[]⟩⟩]) ++ l.map pieceOf) := by
  by_cases hn : p = []
  · subst hn
    obtain ⟨b', hb⟩ := feed_stream false h
    exact ⟨b', by rw [List.nil_append, hb]; rfl⟩
  · obtain ⟨b', hb⟩ := feed_stream true h
    refine ⟨b', ?_⟩
    rw [feed_bad p (streamL l) false hn hp, hb, if_neg hn]
    rfl
theorem fed_right {r : List Int} {b : Bool} {s : Int} (h : Keeps r b s) (l : List Int) : fed r b s l = told5 (feedL r b s l) [] := if_pos (keeps_right h)
end Go.Proofs.Ytcnkiigobcigbaa.Stream
end
section
namespace Go.Proofs.Ytcnkiigobcigbaa.Pure
set_option linter.unusedVariables false
open Go.RowKit Go.Proofs.Ytcnkiigobcigbaa.Q Go.Proofs.YtcnkiigobcigbaaW.PrintWords Go.Proofs.YtcnkiigobcigbaaW.PrintLast Go.Proofs.Ytcnkiigobcigbaa.Base Go.Proofs.Ytcnkiigobcigbaa.Num Go.Proofs.Ytcnkiigobcigbaa.Addr Go.Proofs.Ytcnkiigobcigbaa.Msg Go.Proofs.Ytcnkiigobcigbaa.Cut Go.Proofs.Ytcnkiigobcigbaa.Stream Go.Proofs.Ytcnkiigobcigbaa.Open
theorem begins_ev : Ev spoortop_begins.f true := Ev.of spoortop_begins.mono (k := 200) (by decide +kernel)
def nOf (x : S35) : Nat := x.f4.f1.f0.toNat * 18446744073709551616 + x.f4.f1.f1.toNat
def E (x : S35) : E11 := ⟨x.f0, x.f1, x.f2, x.f3, x.f4.f0, nOf x, x.f4.f2, x.f5.f0, x.f5.f1, x.f6, x.f7⟩
theorem nOf_is {x : S35} (h : wf35 x) : hi (nOf x) = x.f4.f1.f0 ∧ lo (nOf x) = x.f4.f1.f1 ∧ nOf x < 340282366920938463463374607431768211456 ∧ 0 ≤ x.f2 := by
  obtain ⟨_, _, w2, _, ⟨_, ⟨h1, h2⟩, _⟩, _⟩ := h
  have a := wf_u64 h1
  have b := wf_u64 h2
  have c := wf_u64 w2
  unfold nOf hi lo
  omega
theorem rdE {l : List (S35)} {i : Nat} {x : S35} {r : List (S35)} (h : l.drop i = x :: r) : rd_T35 l (i : Int) = x := by
  have e : l[i]? = some x := by rw [← List.head?_drop, h]; rfl
  simp [rd_T35, List.getD_eq_getElem?_getD, e]
theorem rdP {l : List (S47)} {i : Nat} {x : S47} {r : List (S47)} (h : l.drop i = x :: r) : rd_T47 l (i : Int) = x := by
  have e : l[i]? = some x := by rw [← List.head?_drop, h]; rfl
  simp [rd_T47, List.getD_eq_getElem?_getD, e]
theorem dlt {α : Type} {l : List α} {i : Nat} {c : α} {m : List α} (h : l.drop i = c :: m) : i < l.length := by
  have := congrArg List.length h
  simp at this
  omega
theorem dnext {α : Type} {l : List α} {i : Nat} {x : α} {r : List α} (h : l.drop i = x :: r) : l.drop (i + 1) = r := by rw [← List.drop_drop, h]; rfl
theorem l3_ev (l1 : List (S35)) (hw : ∀ x ∈ l1, wf35 x) (hok : ∀ x ∈ l1, okE (E x)) (hl : l1.length ≤ 140737488351232) (b : Bool) : ∀ (r : List (S35)) (i : Nat), l1.drop i = r → i ≤ l1.length →
    Ev (fun k => spoortop_TopStream.l3 k l1 (l1.map fun x => pieceOf (E x)) ((l1.map fun x => pieceOf (E x)).length : Int) (i : Int) (strOfNums []) b 0) true
  | [], i, hd, hi => by
    have hi2 : l1.length ≤ i := List.drop_eq_nil_iff.1 hd
    refine Ev.succ ?_
    simp only [spoortop_TopStream.l3]
    refine Ev.neg (by rw [List.length_map]; omega) (Ev.pos ((str_nil_iff []).2 rfl) (Ev.const rfl))
  | x :: r, i, hd, hi => by
    have hlt := dlt hd
    have hx : x ∈ l1 := List.mem_of_mem_drop (by rw [hd]; simp : x ∈ l1.drop i)
    have ok := hok x hx
    obtain ⟨n1, n2, n3, n4⟩ := nOf_is (hw x hx)
    have hp : (l1.map fun x => pieceOf (E x)).drop i = pieceOf (E x) :: r.map fun x => pieceOf (E x) := by rw [← List.map_drop, hd]; rfl
    have hlen := bodyL_len ok
    refine Ev.succ ?_
    simp only [spoortop_TopStream.l3, rdE hd, rdP hp]
    have g := get_evn (strOfNums (bodyL (E x))) (by rw [strOfNums_size]; omega)
    rw [bytes_str (bodyL_bytes ok), getE_body ok] at g
    refine Ev.pos (by rw [List.length_map]; omega) (Ev.pos (by omega) (Ev.pos (by rw [List.length_map]; omega) (Ev.bind g ?_)))
    refine Ev.pos rfl (Ev.pos rfl (Ev.pos (by omega) (Ev.neg ?_ ?_)))
    · simp [evS, E, n1, n2]
    · rw [w64 (by omega) (by omega), show ((i : Int) + 1) = ((i + 1 : Nat) : Int) by omega]
      exact l3_ev l1 hw hok hl b r (i + 1) (dnext hd) (by omega)
theorem j3_ev (l1 : List (S35)) (hw : ∀ x ∈ l1, wf35 x) (hok : ∀ x ∈ l1, okE (E x)) (hl : l1.length ≤ 140737488351232) (b : Bool) : Ev (fun k => spoortop_TopStream.j3 k l1 (l1.map fun x => pieceOf (E x)) (strOfNums []) b 0) true := by
  refine Ev.succ ?_
  simp only [spoortop_TopStream.j3]
  refine Ev.pos (by rw [List.length_map]) ?_
  exact l3_ev l1 hw hok hl b l1 0 (by simp) (by omega)
theorem l2_ev (a0 : ByteArray) (ha : a0.size ≤ 140737488351232) (hno : ∀ x ∈ bytesOf a0, x ≠ 245) (l1 : List (S35)) (hw : ∀ x ∈ l1, wf35 x) (hok : ∀ x ∈ l1, okE (E x)) (hl : l1.length * 96 ≤ 140737488351232) (l2 : List Int) (h2 : ∀ x ∈ l2, 0 ≤ x ∧ x < 256) (hl2 : l2.length ≤ 140737488351232) :
    ∀ (N : Nat) (i : Nat) (done rest : List Int), (l2.length - i) + (if rest = [] then 0 else 1) ≤ N → i ≤ l2.length + 1 → (l2.length < i → rest = []) → done ++ rest = bytesOf a0 ++ streamL (l1.map E) →
    Ev (fun k => spoortop_TopStream.l2 k a0 l1 l2 (strOfNums rest) (feedL [] false 0 done).2 (i : Int) (strOfNums (feedL [] false 0 done).1.1) (feedL [] false 0 done).1.2.1 (feedL [] false 0 done).1.2.2) true := by
  have hokm : ∀ e ∈ l1.map E, okE e := fun e he => by obtain ⟨x, hx, rfl⟩ := List.mem_map.1 he; exact hok x hx
  have hSb : Bytes (bytesOf a0 ++ streamL (l1.map E)) := (bytesOf_bytes a0).append (streamL_bytes hokm)
  have hSl : (bytesOf a0 ++ streamL (l1.map E)).length ≤ 300000000000000 := by
    have := streamL_len hokm
    rw [List.length_map] at this
    rw [List.length_append, bytesOf_length]
    omega
  obtain ⟨b', hP⟩ := feed_noise hokm hno
  intro N
  induction N with
  | zero =>
    intro i done rest hN hi hie hS
    have hr : rest = [] := by by_cases c : rest = []; · exact c
                              · rw [if_neg c] at hN; omega
    subst hr
    rw [List.append_nil] at hS
    subst hS
    rw [hP]
    refine Ev.succ ?_
    simp only [spoortop_TopStream.l2]
    refine Ev.pos ((str_nil_iff []).2 rfl) ?_
    have hm : (l1.map E).map pieceOf = l1.map fun x => pieceOf (E x) := by rw [List.map_map]; rfl
    by_cases c : bytesOf a0 = []
    · refine Ev.pos ((nil_iff a0).2 c) ?_
      rw [if_pos c, List.nil_append, hm]
      exact j3_ev l1 hw hok (by omega) b'
    · refine Ev.neg (fun h => c ((nil_iff a0).1 h)) ?_
      rw [if_neg c, hm]
      refine Ev.neg (by simp; omega) (Ev.pos (by simp <;> omega) (Ev.pos rfl (Ev.pos (by simp <;> omega) ?_)))
      exact j3_ev l1 hw hok (by omega) b'
  | succ N ih =>
    intro i done rest hN hi hie hS
    by_cases hr : rest = []
    · subst hr
      rw [List.append_nil] at hS
      subst hS
      rw [hP]
      refine Ev.succ ?_
      simp only [spoortop_TopStream.l2]
      refine Ev.pos ((str_nil_iff []).2 rfl) ?_
      have hm : (l1.map E).map pieceOf = l1.map fun x => pieceOf (E x) := by rw [List.map_map]; rfl
      by_cases c : bytesOf a0 = []
      · refine Ev.pos ((nil_iff a0).2 c) ?_
        rw [if_pos c, List.nil_append, hm]
        exact j3_ev l1 hw hok (by omega) b'
      · refine Ev.neg (fun h => c ((nil_iff a0).1 h)) ?_
        rw [if_neg c, hm]
        refine Ev.neg (by simp; omega) (Ev.pos (by simp <;> omega) (Ev.pos rfl (Ev.pos (by simp <;> omega) ?_)))
        exact j3_ev l1 hw hok (by omega) b'
    rw [if_neg hr] at hN
    have hrl : 0 < rest.length := List.length_pos_iff.mpr hr
    have hlen : done.length + rest.length = (bytesOf a0 ++ streamL (l1.map E)).length := by rw [← hS, List.length_append]
    have hbd : Bytes done := by rw [← hS] at hSb; exact hSb.left
    have hbr : Bytes rest := by rw [← hS] at hSb; exact hSb.right
    have hk := (feed_keeps done [] false 0 hbd Keeps.none).1
    have hks := hk.short
    have step : ∀ m : Nat, m ≤ rest.length → ∃ x : ByteArray × Bool × Int × List (S47) × Int, Ev (fun k => cutter_Feed.f k (strOfNums (feedL [] false 0 done).1.1) (feedL [] false 0 done).1.2.1 (feedL [] false 0 done).1.2.2 (strOfNums (rest.take m))) x ∧ x.2.2.2.2 = 0 ∧ (feedL [] false 0 done).2.length + x.2.2.2.1.length < 5864062014805 ∧
        (feedL [] false 0 done).2 ++ x.2.2.2.1 = (feedL [] false 0 (done ++ rest.take m)).2 ∧ x.1 = strOfNums (feedL [] false 0 (done ++ rest.take m)).1.1 ∧ x.2.1 = (feedL [] false 0 (done ++ rest.take m)).1.2.1 ∧ x.2.2.1 = (feedL [] false 0 (done ++ rest.take m)).1.2.2 := by
      intro m hm
      have happ := feed_app (rest.take m) done [] false 0
      have hall : (feedL [] false 0 (done ++ rest.take m)).2.length ≤ l1.length + 1 := by
        have e : (bytesOf a0 ++ streamL (l1.map E)) = (done ++ rest.take m) ++ rest.drop m := by rw [List.append_assoc, List.take_append_drop, hS]
        have h3 := feed_app (rest.drop m) (done ++ rest.take m) [] false 0
        rw [← e, hP] at h3
        have h4 := congrArg (fun z => z.2.length) h3
        simp only [List.length_append, List.length_map] at h4
        have : (if bytesOf a0 = [] then ([] : List (S47)) else [⟨2, ⟨#[]⟩⟩]).length ≤ 1 := by split <;> simp
        omega
      rw [happ] at hall
      simp only [List.length_append] at hall
      have hb := bytes_str (hbr.take m)
      have f := feedw_ev (feedL [] false 0 done).1.1 (feedL [] false 0 done).1.2.1 (feedL [] false 0 done).1.2.2 (strOfNums (rest.take m)) hk.1 (by omega) (by rw [strOfNums_size, List.length_take]; omega) (by rw [hb]; omega)
      rw [hb, fed_right hk] at f
      refine ⟨_, f, rfl, ?_, ?_, ?_, ?_, ?_⟩
      · simp only [told5, List.nil_append]; omega
      · simp only [told5, List.nil_append, happ]
      · simp only [told5, happ]
      · simp only [told5, happ]
      · simp only [told5, happ]
    have cut : ∀ m : Nat, (strOfNums rest).extract 0 m = strOfNums (rest.take m) := fun m => by rw [str_part, bytes_str hbr, List.drop_zero]
    have tail : ∀ m : Nat, (strOfNums rest).extract m rest.length = strOfNums (rest.drop m) := fun m => by rw [← strOfNums_size rest, str_from, bytes_str hbr]
    refine Ev.succ ?_
    simp only [spoortop_TopStream.l2, cut, tail, strOfNums_size]
    refine Ev.neg (fun h => hr ((str_nil_iff rest).1 h)) ?_
    have hi' : i ≤ l2.length := by by_cases c : l2.length < i; · exact absurd (hie c) hr
                                   · omega
    by_cases c : (i : Int) < (l2.length : Int)
    · have hmem : rd l2 (i : Int) ∈ l2 := by
        have : rd l2 (i : Int) = l2[i]'(by omega) := by simp [rd, List.getD_eq_getElem?_getD, List.getElem?_eq_getElem (show i < l2.length by omega)]
        rw [this]
        exact List.getElem_mem _
      have hv := h2 _ hmem
      obtain ⟨m, hm, hml⟩ : ∃ m : Nat, mn (rest.length : Int) (wrap64 (rd l2 (i : Int))) = (m : Int) ∧ m ≤ rest.length := by
        rw [w64 (by omega) (by omega)]
        refine ⟨(mn (rest.length : Int) (rd l2 (i : Int))).toNat, ?_, ?_⟩ <;> unfold mn <;> split <;> omega
      rw [hm, Int.toNat_natCast]
      obtain ⟨x, hx, q1, q2, q3, q4, q5, q6⟩ := step m hml
      refine Ev.pos c (Ev.pos (by omega) (Ev.pos (by omega) (Ev.pos (by omega) (Ev.bind hx (Ev.pos q1 (Ev.pos q2 ?_))))))
      rw [q3, q4, q5, q6, w64 (by omega) (by omega), show ((i : Int) + 1) = ((i + 1 : Nat) : Int) by omega]
      refine ih (i + 1) (done ++ rest.take m) (rest.drop m) ?_ (by omega) (fun h => by omega) (by rw [List.append_assoc, List.take_append_drop, hS])
      split <;> omega
    · refine Ev.neg c (Ev.pos (by omega) (Ev.pos (by omega) ?_))
      rw [Int.toNat_natCast]
      obtain ⟨x, hx, q1, q2, q3, q4, q5, q6⟩ := step rest.length (Nat.le_refl _)
      refine Ev.bind hx (Ev.pos q1 (Ev.pos q2 ?_))
      rw [q3, q4, q5, q6, w64 (by omega) (by omega), show ((i : Int) + 1) = ((i + 1 : Nat) : Int) by omega]
      refine ih (i + 1) (done ++ rest.take rest.length) (rest.drop rest.length) ?_ (by omega) (fun _ => by simp) (by rw [List.append_assoc, List.take_append_drop, hS])
      simp only [List.drop_length, if_true]
      omega
theorem l1_ev (a0 : ByteArray) (ha : a0.size ≤ 140737488351232) (hno : ∀ x ∈ bytesOf a0, x ≠ 245) (l1 : List (S35)) (hw : ∀ x ∈ l1, wf35 x) (hl : l1.length * 96 ≤ 140737488351232) (l2 : List Int) (h2 : ∀ x ∈ l2, 0 ≤ x ∧ x < 256) (hl2 : l2.length ≤ 140737488351232) :
    ∀ (r : List (S35)) (i : Nat) (p : List (S35)), l1 = p ++ r → p.length = i → (∀ x ∈ p, okE (E x)) → Ev (fun k => spoortop_TopStream.l1 k a0 l1 l2 (strOfNums (streamL (p.map E))) l1 (l1.length : Int) (i : Int)) true
  | [], i, p, hp, hi, hok => by
    rw [List.append_nil] at hp
    subst hp
    have hokm : ∀ e ∈ l1.map E, okE e := fun e he => by obtain ⟨x, hx, rfl⟩ := List.mem_map.1 he; exact hok x hx
    have hsl := streamL_len hokm
    rw [List.length_map] at hsl
    refine Ev.succ ?_
    simp only [spoortop_TopStream.l1]
    refine Ev.neg (by omega) (Ev.pos (by rw [strOfNums_size]; omega) ?_)
    have e : a0 ++ strOfNums (streamL (l1.map E)) = strOfNums (bytesOf a0 ++ streamL (l1.map E)) := by rw [str_append, str_bytes]
    rw [e]
    exact l2_ev a0 ha hno l1 hw hok hl l2 h2 hl2 _ 0 [] (bytesOf a0 ++ streamL (l1.map E)) (Nat.le_refl _) (by omega) (fun h => by omega) rfl
  | x :: r, i, p, hp, hpi, hok => by
    have hd : l1.drop i = x :: r := by rw [hp, ← hpi, List.drop_left]
    have hlt := dlt hd
    have hx : x ∈ l1 := by rw [hp]; simp
    obtain ⟨n1, n2, n3, n4⟩ := nOf_is (hw x hx)
    refine Ev.succ ?_
    simp only [spoortop_TopStream.l1, rdE hd]
    refine Ev.pos (by omega) (Ev.pos (by omega) (Ev.pos (by omega) ?_))
    have hput := put_ev (E x) n3 n4
    have e5 : hi (E x).n = x.f4.f1.f0 := n1
    have e6 : lo (E x).n = x.f4.f1.f1 := n2
    rw [e5, e6] at hput
    refine Ev.bind hput (Ev.bind (Ev.const (wrap_eq _)) ?_)
    by_cases ok : okE (E x)
    · rw [if_pos ok]
      have hlen := bodyL_len ok
      have hz : (strOfNums (bodyL (E x))).size = (bodyL (E x)).length := strOfNums_size _
      have hwr : wrapL (strOfNums (bodyL (E x))) = (strOfNums (msgL (E x)), 0) := by
        unfold wrapL
        rw [if_pos (by omega), hz, bytes_str (bodyL_bytes ok)]
        rfl
      rw [hwr]
      have hokp : ∀ e ∈ p.map E, okE e := fun e he => by obtain ⟨y, hy, rfl⟩ := List.mem_map.1 he; exact hok y hy
      have hsl := streamL_len hokp
      rw [List.length_map] at hsl
      have hpl : p.length ≤ l1.length := by rw [hp, List.length_append]; omega
      have hml : (msgL (E x)).length ≤ 67 := by simp only [msgL, List.length_cons]; omega
      refine Ev.pos rfl (Ev.pos rfl (Ev.pos (by show (strOfNums _).size + (strOfNums _).size ≤ _; rw [strOfNums_size, strOfNums_size]; omega) ?_))
      show Ev (fun k => spoortop_TopStream.l1 k a0 l1 l2 (strOfNums (streamL (p.map E)) ++ strOfNums (msgL (E x))) l1 (l1.length : Int) (wrap64 ((i : Int) + 1))) true
      rw [← str_append, w64 (by omega) (by omega), show ((i : Int) + 1) = ((i + 1 : Nat) : Int) by omega]
      have e : streamL (p.map E) ++ msgL (E x) = streamL ((p ++ [x]).map E) := by rw [List.map_append, streamL_append]; simp [streamL]
      rw [e]
      exact l1_ev a0 ha hno l1 hw hl l2 h2 hl2 r (i + 1) (p ++ [x]) (by rw [hp, List.append_assoc]; rfl) (by simp; omega) (fun y hy => by
        rcases List.mem_append.1 hy with h | h
        · exact hok y h
        · rw [List.mem_singleton.1 h]; exact ok)
    · rw [if_neg ok]
      exact Ev.neg (by decide) (Ev.const rfl)
theorem l0_ev (a0 : ByteArray) (ha : a0.size ≤ 140737488351232) (l1 : List (S35)) (hw : ∀ x ∈ l1, wf35 x) (hl : l1.length * 96 ≤ 140737488351232) (l2 : List Int) (h2 : ∀ x ∈ l2, 0 ≤ x ∧ x < 256) (hl2 : l2.length ≤ 140737488351232) :
    ∀ (r : List Int) (i : Nat) (p : List Int), bytesOf a0 = p ++ r → p.length = i → (∀ x ∈ p, x ≠ 245) → Ev (fun k => spoortop_TopStream.l0 k a0 l1 l2 (⟨#[]⟩ : ByteArray) (a0.size : Int) (i : Int)) true
  | [], i, p, hp, hi, hno => by
    rw [List.append_nil] at hp
    have hz : a0.size = i := by rw [← bytesOf_length, hp, hi]
    refine Ev.succ ?_
    simp only [spoortop_TopStream.l0]
    refine Ev.neg (by omega) ?_
    exact l1_ev a0 ha (by rw [hp]; exact hno) l1 hw hl l2 h2 hl2 l1 0 [] rfl rfl (by simp)
  | x :: r, i, p, hp, hi, hno => by
    have hd : (bytesOf a0).drop i = x :: r := by rw [hp, ← hi, List.drop_left]
    have hlt := dlt hd
    rw [bytesOf_length] at hlt
    have hb : bt a0 (i : Int) = x := by rw [← rd_bytesOf]; exact rd_drop hd
    refine Ev.succ ?_
    simp only [spoortop_TopStream.l0, hb]
    refine Ev.pos (by omega) (Ev.pos (by omega) (Ev.pos (by omega) ?_))
    by_cases c : x = 245
    · exact Ev.pos c (Ev.now _)
    · refine Ev.neg c ?_
      rw [w64 (by omega) (by omega), show ((i : Int) + 1) = ((i + 1 : Nat) : Int) by omega]
      exact l0_ev a0 ha l1 hw hl l2 h2 hl2 r (i + 1) (p ++ [x]) (by rw [hp, List.append_assoc]; rfl) (by simp; omega) (fun y hy => by
        rcases List.mem_append.1 hy with h | h
        · exact hno y h
        · rw [List.mem_singleton.1 h]; exact c)
theorem TopStream : spoortop_TopStream.Pure := by
  intro a0 l1 l2 _ h1 h2 s0 s1 s2
  refine Ev.rounds (g := fun k => spoortop_TopStream.f k a0 l1 l2) (r := true) ?_
  simp only [spoortop_TopStream.f]
  refine Ev.bind begins_ev (Ev.pos rfl ?_)
  exact l0_ev a0 s0 l1 h1.1 s1 l2 (fun x hx => wf_u8 (h2.1 x hx)) (by omega) (bytesOf a0) 0 [] rfl rfl (by simp)
end Go.Proofs.Ytcnkiigobcigbaa.Pure
end
section
namespace Go.Proofs.Ytcnkiigobcigbaa.topStream
open Go.ChangeShapes Go.WideShapes Go.ChangeAt Go.RowKit Go.Proofs.Ytcnkiigobcigbaa.Open Go.Proofs.Ytcnkiigobcigbaa.Q
open Go.ChangeMaps (open_string shut_string)
set_option linter.unusedVariables false
theorem own : ownKnob Try.prog.godebug = none := by kernel_rfl
theorem laidOut : laidOutB Try.prog = true := by kernel_rfl
theorem contract (H : Type) (enc : TypeId × Value → H) (W : World) (base : Nat) (args : Array Value) (ds gs : List (DataW H)) (before : List MemPlace)
    (hval : ∀ (j : Nat) t v, Try.f3.params[j]? = some t → args[j]? = some v → Value.okWide Try.prog W .any base t v)
    (hW : DataW.Whole enc Try.prog Try.f3.params.toList Rows.topStreamSpec.vars false W args.toList ds gs before) (hsz0 : (DataW.weightsEach Try.prog (Try.f3.params.toList ++ Rows.topStreamSpec.plain.varTypes Try.prog) (ds ++ gs)).all (· ≤ reachBytes) = true) :
    Calls Try.prog 3 args W fun e W' => ∃ v, e = .returned v ∧ Rows.topStreamSpec.post enc Try.prog Try.f3 false true false false W args v W' := by
  have hW' := hW
  obtain ⟨p, q, hA0, hV, rfl, hfz, hnd⟩ := hW
  have hA : DataW.TrodAll enc Try.prog W 0 (fun _ => true) true Try.f3.params.toList args.toList ds p := hA0
  have hsz : (DataW.weightsEach Try.prog (Try.f3.params.toList ++ Rows.topStreamSpec.plain.varTypes Try.prog) (ds ++ gs)).all (· ≤ reachBytes) = true := hsz0
  rw [Try.params3] at hA hval hsz
  obtain ⟨v0, vs0, d0, ds0, p0, q0, hargs, rfl, rfl, h0, r0⟩ := trodAll_cons hA
  obtain ⟨v1, vs1, d1, ds1, p1, q1, rfl, rfl, rfl, h1, r1⟩ := trodAll_cons r0
  obtain ⟨v2, vs2, d2, ds2, p2, q2, rfl, rfl, rfl, h2, r2⟩ := trodAll_cons r1
  obtain ⟨rfl, rfl, rfl⟩ := trodAll_nil r2
  obtain rfl : args = #[v0, v1, v2] := by cases args; simp_all
  obtain ⟨rfl, rfl⟩ := trodVars_none hV
  have k0 := h0
  have lt0 : ∀ x ∈ p0, x.block < W.heap.size := by obtain ⟨m, hm⟩ := k0; exact DataW.trod_lt m _ _ _ hm
  obtain ⟨fu0, hf0⟩ := h0
  obtain ⟨b0, K0, o0, u0⟩ := (opens_string Try.underlying9) enc W _ _ _ _ _ hf0
  obtain rfl : v0 = .string b0 := by obtain ⟨x, rfl⟩ := okWide_string Try.underlying9 (hval 0 9 v0 rfl rfl); exact (List.cons.inj (show [Value.string x] = [Value.string b0] from K0)).1
  have k1 := h1
  have lt1 : ∀ x ∈ p1, x.block < W.heap.size := by obtain ⟨m, hm⟩ := k1; exact DataW.trod_lt m _ _ _ hm
  obtain ⟨fu1, hf1⟩ := h1
  obtain ⟨b1, K1, o1, u1⟩ := (opens_slice opn35 Try.underlying22 (by kernel_rfl) 35) enc W _ _ _ _ _ hf1
  obtain ⟨A1, c1, z1, lc1, C1⟩ := K1
  obtain rfl : v1 = .slice A1 b1.length c1 := by obtain ⟨x, y, z, rfl⟩ := okWide_slice Try.underlying22 (hval 1 22 v1 rfl rfl); exact (List.cons.inj (show [Value.slice x y z] = [Value.slice A1 b1.length c1] from z1)).1
  have k2 := h2
  have lt2 : ∀ x ∈ p2, x.block < W.heap.size := by obtain ⟨m, hm⟩ := k2; exact DataW.trod_lt m _ _ _ hm
  obtain ⟨fu2, hf2⟩ := h2
  obtain ⟨b2, K2, o2, u2⟩ := (opens_slice (opens_int Try.underlying5) Try.underlying23 (by kernel_rfl) 5) enc W _ _ _ _ _ hf2
  obtain ⟨A2, c2, z2, lc2, C2⟩ := K2
  obtain rfl : v2 = .slice A2 b2.length c2 := by obtain ⟨x, y, z, rfl⟩ := okWide_slice Try.underlying23 (hval 2 23 v2 rfl rfl); exact (List.cons.inj (show [Value.slice x y z] = [Value.slice A2 b2.length c2] from z2)).1
  have sz0 : b0.size ≤ 140737488351232 := sized_text hsz (j := 0) (t := 9) rfl rfl Try.underlying9 k0
  have sz1 : b1.length * 96 ≤ 140737488351232 := sized_row hsz (j := 1) (t := 22) rfl rfl Try.underlying22 (by kernel_rfl) k1
  have sz2 : b2.length * 1 ≤ 140737488351232 := sized_row hsz (j := 2) (t := 23) rfl rfl Try.underlying23 (by kernel_rfl) k2
  obtain ⟨k, h⟩ := Pure.TopStream b0 b1 b2 o0 o1 o2 sz0 sz1 sz2
  refine (spoortop_TopStream.calls k b0 A1 c1 b1 A2 c2 b2 true W C1 lc1 C2 lc2 h).mono fun e W' ⟨he, hd⟩ => ?_
  have bel := hd
  subst he
  exact ⟨_, rfl, _, _, _, [], _, [], hW', trodAll_mk1 (shut_bool Try.underlying4 _), (trodAll_cons_mk (Below.trod laidOut (by kernel_rfl) (of_decide_eq_true (by kernel_rfl)) k0 bel lt0) (trodAll_cons_mk (Below.trod laidOut (by kernel_rfl) (of_decide_eq_true (by kernel_rfl)) k1 bel lt1) (trodAll_cons_mk (Below.trod laidOut (by kernel_rfl) (of_decide_eq_true (by kernel_rfl)) k2 bel lt2) trodAll_mk0))), rfl, bel.frame _, fun h => by cases h⟩
set_option maxRecDepth 100000 in
theorem lifted (os : Os) (started : os.Started) (H : Type) (enc : TypeId × Value → H) :
    ReturnsInHanded {} Try.checked os 3 .any (Rows.topStreamSpec.pre6 enc Try.prog Try.f3 Rows.topStreamRow.domain false) (Rows.topStreamSpec.post enc Try.prog Try.f3 false true false false) := by
  refine returnsInHanded_of_change_sized (C := Try.checked) own started (by kernel_rfl) Try.func3
    (ChangeSpec.witness6 (enc := enc) (C := Try.checked) false ⟨#[], #[.string ByteArray.empty, .slice none 0 0, .slice none 0 0], []⟩ 8 (by kernel_rfl) (by kernel_rfl) (by kernel_rfl) (by kernel_rfl)) ?_
  intro W base args ds gs before hval hW _ hsz _
  exact contract H enc W base args ds gs before hval hW hsz
theorem over : Rows.topStreamRow.holds Try.pinned (OpenSpec.ofChange Rows.topStreamSpec) :=
  OpenClaim.holds_of_wide 3 Try.f3 rfl rfl rfl rfl rfl rfl rfl ⟨rfl, rfl, rfl, rfl, rfl⟩ rfl rfl rfl rfl rfl (by kernel_rfl) Try.func3 (by kernel_rfl)
    (of_decide_eq_true (by kernel_rfl)) (by unfold Func.isWrapper; first | (rw [if_pos (by decide +kernel)]; kernel_rfl) | (rw [if_neg (by decide +kernel)]; exact ⟨rfl, rfl⟩))
    (fun os started H enc _ => lifted os started H enc)
theorem proved : Rows.TopStreamSaid := over
#print axioms proved
end Go.Proofs.Ytcnkiigobcigbaa.topStream
namespace Go.Proofs.Ytcnkiigobcigbaa
theorem topStream_holds : Rows.TopStreamSaid := topStream.proved
end Go.Proofs.Ytcnkiigobcigbaa
end
