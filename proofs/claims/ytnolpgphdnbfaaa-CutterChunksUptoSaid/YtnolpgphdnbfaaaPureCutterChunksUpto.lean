/- The law CutterChunks, within its bound. -/
import Derived.Test.YtnolpgphdnbfaaaQpCutterChunksUpto
import Derived.Test.YtnolpgphdnbfaaaCutS
namespace Go.Proofs.Ytnolpgphdnbfaaa.Pure
set_option linter.unusedVariables false
open Go.RowKit Go.Proofs.Ytnolpgphdnbfaaa.Q Go.Proofs.YtnolpgphdnbfaaaW.PrintWords Go.Proofs.YtnolpgphdnbfaaaW.PrintLast Go.Proofs.Ytnolpgphdnbfaaa.Base Go.Proofs.Ytnolpgphdnbfaaa.Cut

theorem rdOf_drop {l : List ByteArray} {i : Nat} {c : ByteArray} {m : List ByteArray} (h : l.drop i = c :: m) : rdOf ByteArray.empty l (i : Int) = c := by
  have e : l[i]? = some c := by rw [← List.head?_drop, h]; rfl
  simp [rdOf, List.getD_eq_getElem?_getD, e]
theorem drop_len {α : Type} {l : List α} {i : Nat} {c : α} {m : List α} (h : l.drop i = c :: m) : i < l.length := by
  have := congrArg List.length h
  simp at this
  omega
def tot : List ByteArray → Nat
  | [] => 0
  | c :: m => c.size + tot m
theorem tot_mu : ∀ l : List ByteArray, tot l + l.length ≤ Go.Proofs.Ytnolpgphdnbfaaa.Open.muAll Go.Proofs.Ytnolpgphdnbfaaa.Open.muStr l
  | [] => by simp [tot]
  | c :: m => by
    have := tot_mu m
    simp only [tot, Go.Proofs.Ytnolpgphdnbfaaa.Open.muAll, Go.Proofs.Ytnolpgphdnbfaaa.Open.muStr, List.length_cons] at this ⊢
    omega
theorem chunks_ev (r : List Int) (b : Bool) (s : Int) (hr : Bytes r) (hl : r.length ≤ 2097152) (h : Right r b s) (l1 : List ByteArray) (hn : l1.length ≤ 2097152) : ∀ (l : List ByteArray) (i : Nat) (w : List Int), l1.drop i = l → Bytes w → w.length + tot l ≤ 2097152 →
    Ev (fun k => spoorlaw12_CutterChunks.l0 k (strOfNums w) (feedL r b s w).2 l1 (l1.length : Int) (i : Int) (strOfNums r) b s (strOfNums (feedL r b s w).1.1) (feedL r b s w).1.2.1 (feedL r b s w).1.2.2) true
  | [], i, w, hd, hw, ht => by
    refine Ev.succ ?_
    simp only [spoorlaw12_CutterChunks.l0]
    have hi : l1.length ≤ i := List.drop_eq_nil_iff.1 hd
    have hlen := feed_len w r b s
    simp only [tot] at ht
    refine Ev.neg (by omega) ?_
    refine Ev.bind (feed_ev r b s (strOfNums w) hr (by omega) (by rw [strOfNums_size]; omega)) ?_
    rw [bytes_str hw]
    simp only [fed, if_pos h, told5, List.nil_append]
    refine Ev.pos trivial (Ev.pos (by simp) (Ev.bind (same_ev _ (by omega)) (Ev.const rfl)))
  | c :: m, i, w, hd, hw, ht => by
    have hi := drop_len hd
    have hc := rdOf_drop hd
    have hlen := feed_len w r b s
    simp only [tot] at ht
    have hk := feed_keeps w r b s hw (right_keeps hr h)
    have hwc : Bytes (w ++ bytesOf c) := hw.append (bytesOf_bytes c)
    have hk2 := feed_keeps (w ++ bytesOf c) r b s hwc (right_keeps hr h)
    have hlen2 := feed_len (bytesOf c) (feedL r b s w).1.1 (feedL r b s w).1.2.1 (feedL r b s w).1.2.2
    rw [bytesOf_length] at hlen2
    have ih := chunks_ev r b s hr hl h l1 hn m (i + 1) (w ++ bytesOf c) (by rw [← List.drop_drop, hd]; rfl) hwc (by rw [List.length_append, bytesOf_length]; omega)
    have hR := keeps_right hk.1
    have hsh := hk.1.short
    have hsh2 := hk2.1.short
    refine Ev.succ ?_
    simp only [spoorlaw12_CutterChunks.l0, hc]
    refine Ev.pos (by omega) (Ev.pos (by omega) (Ev.pos (by omega) (Ev.pos (by rw [strOfNums_size]; omega) ?_)))
    refine Ev.bind (feed_ev (feedL r b s w).1.1 (feedL r b s w).1.2.1 (feedL r b s w).1.2.2 c hk.1.1 (by omega) (by omega)) ?_
    refine Ev.bind (Ev.const (check_eq hr (by omega) b s)) ?_
    rw [feed_app] at ih hk2 hsh2
    simp only [fed, if_pos hR, chk, if_pos h, told5, List.nil_append]
    refine Ev.pos trivial (Ev.pos trivial ?_)
    refine Ev.bind (Ev.const (check_eq hk2.1.1 (by omega) _ _)) ?_
    simp only [chk, if_pos (keeps_right hk2.1)]
    refine Ev.succ ?_
    simp only [spoorlaw12_CutterChunks.j1]
    refine Ev.neg (by decide) (Ev.pos trivial (Ev.pos (by omega) ?_))
    rw [w64 (by omega) (by omega), show ((i : Int) + 1) = ((i + 1 : Nat) : Int) by omega]
    have e : strOfNums w ++ c = strOfNums (w ++ bytesOf c) := by rw [str_append, str_bytes]
    rw [e]
    exact ih
theorem CutterChunksUpto : spoorlaw12_CutterChunks.PureUpto := by
  intro a b s l1 h0 h1 hB
  refine Ev.rounds (g := fun k => spoorlaw12_CutterChunks.f k a b s l1) (r := true) ?_
  have hm := tot_mu l1
  have hB' : a.size + tot l1 + l1.length ≤ 1048576 := by
    simp only [mu23, Go.Proofs.Ytnolpgphdnbfaaa.Open.muStr] at hB hm
    omega
  obtain ⟨r, hr, rfl⟩ : ∃ r, Bytes r ∧ a = strOfNums r := ⟨bytesOf a, bytesOf_bytes a, (str_bytes a).symm⟩
  rw [strOfNums_size] at hB'
  simp only [spoorlaw12_CutterChunks.f]
  refine Ev.bind lives_ev (Ev.pos rfl ?_)
  by_cases h : Right r b s
  · exact chunks_ev r b s hr (by omega) h l1 (by omega) l1 0 [] (by simp) Bytes.nil (by simp; omega)
  · refine Ev.succ ?_
    simp only [spoorlaw12_CutterChunks.l0]
    match l1, hB' with
    | [], _ =>
      refine Ev.neg (by simp) (Ev.bind (feed_ev r b s _ hr (by omega) (by decide)) ?_)
      simp only [fed, if_neg h]
      exact Ev.neg (by decide) (Ev.const rfl)
    | c :: m, hB' =>
      simp only [tot] at hB'
      have hc : rdOf ByteArray.empty (c :: m) 0 = c := rfl
      simp only [hc]
      refine Ev.pos (by simp <;> omega) (Ev.pos (by omega) (Ev.pos (by simp <;> omega) (Ev.pos (by rw [show (⟨#[]⟩ : ByteArray).size = 0 from rfl]; omega) ?_)))
      refine Ev.bind (feed_ev r b s c hr (by omega) (by omega)) (Ev.bind (Ev.const (check_eq hr (by omega) b s)) ?_)
      simp only [fed, if_neg h, chk]
      refine Ev.pos trivial (Ev.neg (by decide) (Ev.succ ?_))
      simp only [spoorlaw12_CutterChunks.j1]
      exact Ev.neg (by decide) (Ev.neg (by decide) (Ev.const rfl))
end Go.Proofs.Ytnolpgphdnbfaaa.Pure
