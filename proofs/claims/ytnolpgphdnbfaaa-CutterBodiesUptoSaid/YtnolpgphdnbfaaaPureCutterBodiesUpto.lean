/- The law CutterBodies, within its bound. -/
import Derived.Test.YtnolpgphdnbfaaaQpCutterBodiesUpto
import Derived.Test.YtnolpgphdnbfaaaCutS
namespace Go.Proofs.Ytnolpgphdnbfaaa.Pure
set_option linter.unusedVariables false
open Go.RowKit Go.Proofs.Ytnolpgphdnbfaaa.Q Go.Proofs.YtnolpgphdnbfaaaW.PrintWords Go.Proofs.YtnolpgphdnbfaaaW.PrintLast Go.Proofs.Ytnolpgphdnbfaaa.Base Go.Proofs.Ytnolpgphdnbfaaa.Cut

theorem rdOf_drop {l : List ByteArray} {i : Nat} {c : ByteArray} {m : List ByteArray} (h : l.drop i = c :: m) : rdOf ByteArray.empty l (i : Int) = c := by
  have e : l[i]? = some c := by rw [← List.head?_drop, h]; rfl
  simp [rdOf, List.getD_eq_getElem?_getD, e]
theorem drop_len {α : Type} {l : List α} {i : Nat} {c : α} {m : List α} (h : l.drop i = c :: m) : i < l.length := by
  have := congrArg List.length h
  simp at this
  omega
def tot : List ByteArray → Nat
  | [] => 0
  | c :: m => c.size + tot m
theorem tot_mu : ∀ l : List ByteArray, tot l + l.length ≤ Go.Proofs.Ytnolpgphdnbfaaa.Open.muAll Go.Proofs.Ytnolpgphdnbfaaa.Open.muStr l
  | [] => by simp [tot]
  | c :: m => by
    have := tot_mu m
    simp only [tot, Go.Proofs.Ytnolpgphdnbfaaa.Open.muAll, Go.Proofs.Ytnolpgphdnbfaaa.Open.muStr, List.length_cons] at this ⊢
    omega
theorem right_none (b : Bool) : Right [] b 0 := ⟨by omega, by omega, fun _ => ⟨rfl, rfl⟩, fun h => absurd rfl h⟩
theorem bodies_ev (A : ByteArray) (hA : A.size ≤ 1048576) (b : Bool) (L : List S38) (hfa : feedL [] false 0 (bytesOf A) = (([], b, 0), L)) (l1 : List ByteArray) (hn : l1.length ≤ 1048576) :
    ∀ (l : List ByteArray) (i : Nat) (S : List Int) (want : List S38) (b' : Bool), l1.drop i = l → Bytes S → S.length + tot l + 3 * l.length ≤ 4194304 - 1048576 → feedL [] b 0 S = (([], b', 0), want) → (i ≠ 0 → b' = false) → want.length ≤ i → i ≤ l1.length →
    Ev (fun k => spoorlaw12_CutterBodies.l0 k A l1 L (strOfNums S) want l1 (l1.length : Int) (i : Int) (strOfNums []) b 0) true
  | [], i, S, want, b', hd, hS, ht, hf, hb, hw, hil => by
    have hi : l1.length ≤ i := List.drop_eq_nil_iff.1 hd
    simp only [tot, List.length_nil] at ht
    have hL : L.length ≤ A.size := by
      have := feed_len (bytesOf A) [] false 0
      rw [hfa, bytesOf_length] at this
      exact this
    refine Ev.succ ?_
    simp only [spoorlaw12_CutterBodies.l0]
    refine Ev.neg (by omega) ?_
    refine Ev.bind (feed_ev [] b 0 (strOfNums S) Bytes.nil (by simp) (by rw [strOfNums_size]; omega)) ?_
    refine Ev.pos (by rw [strOfNums_size]; omega) ?_
    have hAS : (A ++ strOfNums S).size ≤ 4194304 := by rw [ByteArray.size_append, strOfNums_size]; omega
    refine Ev.bind (feed_ev [] false 0 (A ++ strOfNums S) Bytes.nil (by simp) hAS) ?_
    have e2 : feedL [] false 0 (bytesOf (A ++ strOfNums S)) = (([], b', 0), L ++ want) := by
      rw [bytes_append, bytes_str hS, feed_app, hfa]
      simp only [hf]
    rw [bytes_str hS]
    simp only [fed, if_pos (right_none _), e2, hf, told5, List.nil_append]
    have same1 := same_ev want (by omega)
    have same2 := same_ev (L ++ want) (by rw [List.length_append]; omega)
    have fin : Ev (fun k => if (strOfNums ([] : List Int)).toList == (strOfNums ([] : List Int)).toList && (b' == b' && ((0 : Int) == 0)) then (some (([] : List S38))).bind fun y => (if y.length + L.length < 5864062014805 then ((some (y ++ L : List (S38))).bind fun z => (if z.length + want.length < 5864062014805 then ((spoorref12_Same.f k (L ++ want) (z ++ want)).bind fun t => (some t)) else none)) else none) else none) true := by
      refine Ev.pos (by simp) ?_
      simp only [Option.bind_some, List.nil_append, List.length_nil, Nat.zero_add]
      exact Ev.pos (by omega) (Ev.pos (by omega) (Ev.bind same2 (Ev.const rfl)))
    refine Ev.pos trivial (Ev.bind same1 (Ev.pos rfl ?_))
    by_cases hz : (l1.length : Int) = 0
    · exact Ev.pos hz (Ev.pos trivial fin)
    · have hb' : b' = false := hb (by omega)
      subst hb'
      exact Ev.neg hz (Ev.pos (by simp [str_nil_iff]) (Ev.pos trivial fin))
  | c :: m, i, S, want, b', hd, hS, ht, hf, hb, hw, hil => by
    have hi := drop_len hd
    have hc := rdOf_drop hd
    simp only [tot, List.length_cons] at ht
    refine Ev.succ ?_
    simp only [spoorlaw12_CutterBodies.l0, hc]
    refine Ev.pos (by omega) (Ev.pos (by omega) (Ev.pos (by omega) (Ev.bind (Ev.const (wrap_eq c)) ?_)))
    unfold wrapL
    by_cases hs : 1 ≤ c.size ∧ c.size ≤ 64
    · simp only [if_pos hs]
      have hx : Bytes ([245, 0, (c.size : Int)] ++ bytesOf c) := (Bytes.cons (by decide) (by decide) (Bytes.cons (by decide) (by decide) (Bytes.cons (by omega) (by omega) Bytes.nil))).append (bytesOf_bytes c)
      refine Ev.pos trivial (Ev.pos (by rw [strOfNums_size, strOfNums_size, List.length_append, bytesOf_length]; simp; omega) (Ev.pos (by omega) ?_))
      rw [w64 (by omega) (by omega), show ((i : Int) + 1) = ((i + 1 : Nat) : Int) by omega, ← str_append]
      refine bodies_ev A hA b L hfa l1 hn m (i + 1) (S ++ ([245, 0, (c.size : Int)] ++ bytesOf c)) (want ++ [⟨1, c⟩]) false (by rw [← List.drop_drop, hd]; rfl) (hS.append hx) (by simp only [List.length_append, bytesOf_length, List.length_cons, List.length_nil]; omega) ?_ (fun _ => rfl) (by simp; omega) (by omega)
      have e := feed_message b' 0 (c.size : Int) (by omega) (by omega) (bytesOf c) [] (by rw [bytesOf_length]; omega)
      rw [List.append_nil, str_bytes] at e
      rw [feed_app, hf]
      have e' : ([245, 0, (c.size : Int)] ++ bytesOf c) = 245 :: 0 :: (c.size : Int) :: bytesOf c := rfl
      rw [e']
      simp only [e]
      rfl
    · simp only [if_neg hs]
      refine Ev.neg (by decide) ?_
      by_cases hz : (c.size : Int) = 0
      · exact Ev.pos hz (Ev.const rfl)
      · exact Ev.neg hz (Ev.const (by congr 1; exact decide_eq_true (by omega)))
theorem CutterBodiesUpto : spoorlaw12_CutterBodies.PureUpto := by
  intro A l1 h0 h1 hB
  refine Ev.rounds (g := fun k => spoorlaw12_CutterBodies.f k A l1) (r := true) ?_
  have hm := tot_mu l1
  have hB' : A.size + tot l1 + l1.length ≤ 1048576 := by
    simp only [Go.Proofs.Ytnolpgphdnbfaaa.Open.muStr] at hB hm
    omega
  simp only [spoorlaw12_CutterBodies.f]
  refine Ev.bind lives_ev (Ev.pos rfl (Ev.bind (feed_ev [] false 0 A Bytes.nil (by simp) (by omega)) ?_))
  have hk := (feed_keeps (bytesOf A) [] false 0 (bytesOf_bytes A) Keeps.none).1
  simp only [fed, if_pos (right_none false), told5, List.nil_append]
  have out : ∀ (q : List S38) (w : ByteArray) (b : Bool) (s : Int), Ev (fun k => spoorlaw12_CutterBodies.j0 k A l1 q 0 true w b s) true := by
    intro q w b s
    refine Ev.succ ?_
    simp only [spoorlaw12_CutterBodies.j0]
    first | exact Ev.pos trivial (Ev.const rfl) | exact Ev.pos rfl (Ev.const rfl) | exact Ev.const rfl
  refine Ev.pos trivial ?_
  generalize hd : feedL [] false 0 (bytesOf A) = d at hk
  obtain ⟨⟨r, b, s⟩, L⟩ := d
  by_cases hr : r = []
  · subst hr
    refine Ev.pos ((str_nil_iff []).2 rfl) ?_
    by_cases hs : s > 0
    · rw [decide_eq_true hs]
      exact out _ _ _ _
    · obtain rfl : s = 0 := by have := hk.2.1; simp only at this; omega
      refine Ev.succ ?_
      simp only [spoorlaw12_CutterBodies.j0]
      refine Ev.neg (by simp) ?_
      exact bodies_ev A (by omega) b L hd l1 (by omega) l1 0 [] [] b (by simp) Bytes.nil (by simp; omega) rfl (fun h => absurd rfl h) (by simp) (by omega)
  · exact Ev.neg (fun e => hr ((str_nil_iff r).1 e)) (out _ _ _ _)
end Go.Proofs.Ytnolpgphdnbfaaa.Pure
