/- Bytes of a prefix, and of an action, are read as it, whatever is behind; what is read has those bytes; for every prefix, action and text. -/
import Derived.Test.YtodgadhegcjbhaaRows
import Derived.WalkKit
import Derived.ProofKit
import Derived.OpenShut
import Derived.ShutString
import Derived.ChangeOld
import Derived.Below
import Derived.SizedLaws
import Derived.JoinedCond
import Derived.Test.YtodgadhegcjbhaaTMsgPrefixes5
section
namespace Go.Proofs.Ytodgadhegcjbhaa.Msg
set_option linter.unusedVariables false
open Go.RowKit Go.Proofs.YtodgadhegcjbhaaW.PrintWords Go.Proofs.YtodgadhegcjbhaaW.PrintLast Go.Proofs.YtodgadhegcjbhaaW.PrintMore Go.Proofs.Ytodgadhegcjbhaa.Base Go.Proofs.Ytodgadhegcjbhaa.Num Go.Proofs.Ytodgadhegcjbhaa.Addr Go.Proofs.Ytodgadhegcjbhaa.Be Go.Proofs.Ytodgadhegcjbhaa.Q
theorem bt_nat (s : ByteArray) (i : Nat) : bt s (i : Int) = rd (bytesOf s) i := (rd_bytesOf s i).symm
theorem take_rd (l : List Int) (o i : Nat) (h : o + i < l.length) : (l.drop o).take (i + 1) = (l.drop o).take i ++ [rd l ((o + i : Nat) : Int)] := by
  have hi : i < (l.drop o).length := by rw [List.length_drop]; omega
  rw [List.take_succ_eq_append_getElem hi]
  congr 2
  simp only [rd, Int.toNat_natCast]
  rw [List.getD_eq_getElem?_getD, List.getElem?_eq_getElem h, List.getElem_drop]
  rfl
theorem wd_nb (s : ByteArray) (o : Nat) : ∀ i, i ≤ 8 → o + i ≤ s.size → wd s o i = ((nb (((bytesOf s).drop o).take i) * 256 ^ (8 - i) : Nat) : Int)
  | 0, _, _ => by simp [wd, nb]
  | i + 1, h, hs => by
    have hl : (bytesOf s).length = s.size := bytesOf_length s
    have hr := bt_range s ((o + i : Nat) : Int)
    rw [wd, wd_nb s o i (by omega) (by omega), take_rd _ o i (by omega), nb_snoc, bt_nat]
    rw [bt_nat] at hr
    generalize rd (bytesOf s) ((o + i : Nat) : Int) = x at hr
    generalize nb (((bytesOf s).drop o).take i) = N
    obtain ⟨m, rfl⟩ : ∃ m : Nat, x = m := ⟨x.toNat, by omega⟩
    rw [Int.toNat_natCast]
    have e1 : (256 : Nat) ^ (8 - i) = 256 * 256 ^ (8 - (i + 1)) := by rw [show 8 - i = (8 - (i + 1)) + 1 by omega, Nat.pow_succ, Nat.mul_comm]
    have e2 : (2 : Int) ^ (56 - 8 * i) = ((256 ^ (8 - (i + 1)) : Nat) : Int) := by
      rw [p256, show 8 * (8 - (i + 1)) = 56 - 8 * i by omega]; exact (Int.natCast_pow 2 _).symm
    rw [e1, e2, Nat.add_mul]
    generalize 256 ^ (8 - (i + 1)) = E
    rw [← Int.natCast_mul, ← Int.natCast_add, ← Nat.mul_assoc, Nat.mul_comm N 256]
def preS : Option (Pfx × List Int) → Bool × Int × Int × Int × ByteArray × Int
  | some ((six, n, len), r) => (six, hi n, lo n, len, strOfNums r, 0)
  | none => (false, 0, 0, 0, (⟨#[]⟩ : ByteArray), 7)
theorem rest_bytes {s : ByteArray} {a b : Int} {l : List Int} (h : bytesOf s = a :: b :: l) : bytesOf (s.extract 2 s.size) = l := by rw [bytes_from, h]; rfl
theorem size_of_bytes {s : ByteArray} {l : List Int} (h : bytesOf s = l) : s.size = l.length := by rw [← h, bytesOf_length]
theorem bt01 {s : ByteArray} {a b : Int} {l : List Int} (h : bytesOf s = a :: b :: l) : bt s 0 = a ∧ bt s 1 = b := by
  constructor
  · rw [bt_of h]; rfl
  · rw [bt_of h]; rfl
theorem four_num {rest : ByteArray} {l : List Int} (hr : bytesOf rest = l) {len : Int} (h1 : len ≤ 32) (hk : Kn len ≤ l.length) : (0 : Int) = hi (preN false len l) ∧ wd rest 0 (Kn len) / 4294967296 = lo (preN false len l) := by
  have hk4 : Kn len ≤ 4 := by unfold Kn; omega
  have hs := size_of_bytes hr
  have hb : Bytes l := by rw [← hr]; exact bytesOf_bytes rest
  have e : preN false len l = nb (l.take (Kn len)) * 256 ^ (4 - Kn len) := by
    unfold preN
    rw [nb_append, nb_zeros, List.length_replicate]; rfl
  have hlt : preN false len l < 4294967296 := by
    have := nb_lt (l.take (Kn len) ++ List.replicate (Bn false - Kn len) 0) ((hb.take _).append (bytes_zeros _))
    rw [List.length_append, List.length_take, List.length_replicate] at this
    rw [show min (Kn len) l.length + (Bn false - Kn len) = 4 by have : Bn false = 4 := rfl; omega] at this
    exact this
  rw [wd_nb rest 0 (Kn len) (by omega) (by omega), hr, List.drop_zero]
  have e2 : nb (l.take (Kn len)) * 256 ^ (8 - Kn len) = preN false len l * 4294967296 := by
    rw [e, show 8 - Kn len = (4 - Kn len) + 4 by omega, Nat.pow_add, Nat.mul_assoc]
  rw [e2]
  unfold hi lo
  omega
theorem six_num {rest : ByteArray} {l : List Int} (hr : bytesOf rest = l) {len : Int} (h1 : len ≤ 128) (hk : Kn len ≤ l.length) : wd rest 0 (min 8 (Kn len)) = hi (preN true len l) ∧ wd rest 8 (Kn len - 8) = lo (preN true len l) := by
  have hk4 : Kn len ≤ 16 := by unfold Kn; omega
  have hs := size_of_bytes hr
  have hb : Bytes l := by rw [← hr]; exact bytesOf_bytes rest
  have e : preN true len l = nb (l.take (Kn len)) * 256 ^ (16 - Kn len) := by
    unfold preN
    rw [nb_append, nb_zeros, List.length_replicate]; rfl
  rw [wd_nb rest 0 _ (by omega) (by omega)]
  by_cases h8 : Kn len ≤ 8
  · have e2 : nb (l.take (Kn len)) * 256 ^ (16 - Kn len) = nb (l.take (Kn len)) * 256 ^ (8 - Kn len) * 18446744073709551616 := by
      rw [show 16 - Kn len = (8 - Kn len) + 8 by omega, Nat.pow_add, ← Nat.mul_assoc]
    rw [Nat.min_eq_right h8, show Kn len - 8 = 0 by omega, hr, List.drop_zero]
    unfold hi lo
    rw [e, e2]
    constructor
    · rw [Nat.mul_div_cancel _ (by decide)]
    · rw [Nat.mul_mod_left]; rfl
  · rw [Nat.min_eq_left (by omega), wd_nb rest 8 _ (by omega) (by omega), hr, List.drop_zero]
    have e3 : l.take (Kn len) = l.take 8 ++ (l.drop 8).take (Kn len - 8) := by
      rw [← List.take_append_drop 8 (l.take (Kn len)), List.take_take, List.drop_take, Nat.min_eq_left (by omega)]
    have hlen : ((l.drop 8).take (Kn len - 8)).length = Kn len - 8 := by rw [List.length_take, List.length_drop]; omega
    have hlt := nb_lt ((l.drop 8).take (Kn len - 8)) ((hb.drop 8).take _)
    rw [hlen] at hlt
    have e4 : preN true len l = nb (l.take 8) * 18446744073709551616 + nb ((l.drop 8).take (Kn len - 8)) * 256 ^ (8 - (Kn len - 8)) := by
      rw [e, e3, nb_append, hlen, Nat.add_mul, Nat.mul_assoc, ← Nat.pow_add, show Kn len - 8 + (16 - Kn len) = 8 by omega, show 16 - Kn len = 8 - (Kn len - 8) by omega]
    have hlt2 : nb ((l.drop 8).take (Kn len - 8)) * 256 ^ (8 - (Kn len - 8)) < 18446744073709551616 := by
      have h := Nat.mul_lt_mul_of_pos_right hlt (Nat.pow_pos (n := 8 - (Kn len - 8)) (show 0 < 256 by decide))
      rw [← Nat.pow_add, show Kn len - 8 + (8 - (Kn len - 8)) = 8 by omega] at h
      exact h
    unfold hi lo
    rw [e4]
    generalize nb ((l.drop 8).take (Kn len - 8)) * 256 ^ (8 - (Kn len - 8)) = B at hlt2 ⊢
    simp only [Nat.sub_self, Nat.pow_zero, Nat.mul_one]
    constructor <;> omega
theorem preN_lt {six : Bool} {len : Int} {l : List Int} (hb : Bytes l) (h1 : len ≤ Wn six) (hk : Kn len ≤ l.length) : preN six len l < 340282366920938463463374607431768211456 := by
  have := nb_lt (l.take (Kn len) ++ List.replicate (Bn six - Kn len) 0) ((hb.take _).append (bytes_zeros _))
  have hkk := kn_le h1
  rw [List.length_append, List.length_take, List.length_replicate, show min (Kn len) l.length + (Bn six - Kn len) = Bn six by omega] at this
  refine Nat.lt_of_lt_of_le this ?_
  rw [p256, ← bn_wn]
  exact wn_pow six
theorem pfxof_ev {six : Bool} {n : Nat} (hn : n < 340282366920938463463374607431768211456) (len : Int) (r : ByteArray) : Ev (fun k => pfx_of k six (hi n) (lo n) len r) (if okP six n len then (six, hi n, lo n, len, r, 0) else (false, 0, 0, 0, (⟨#[]⟩ : ByteArray), 7)) := by
  simp only [pfx_of]
  refine Ev.bind (check_ev six hn len) ?_
  by_cases h : okP six n len
  · rw [if_pos h, if_pos h]; exact Ev.pos rfl (Ev.now _)
  · rw [if_neg h, if_neg h]; exact Ev.neg (by decide) (Ev.const rfl)
theorem getprefix_ev (s : ByteArray) : Ev (fun k => msg_GetPrefix.f k s) (preS (getP (bytesOf s))) := by
  simp only [msg_GetPrefix.f]
  match hl : bytesOf s with
  | [] =>
    have := size_of_bytes hl
    simp only [List.length_nil] at this
    exact Ev.pos (by omega) (Ev.const rfl)
  | [a] =>
    have := size_of_bytes hl
    simp only [List.length_cons, List.length_nil] at this
    exact Ev.pos (by omega) (Ev.const rfl)
  | a :: b :: l =>
    have hs := size_of_bytes hl
    simp only [List.length_cons] at hs
    have hb : Bytes (a :: b :: l) := by rw [← hl]; exact bytesOf_bytes s
    have hr := rest_bytes hl
    have hrs := size_of_bytes hr
    obtain ⟨b0, b1⟩ := bt01 hl
    have hbb := hb.tail.head
    rw [b0, b1]
    refine Ev.neg (by omega) ?_
    generalize s.extract 2 s.size = rest at hr hrs
    have hkn : (b.toNat + 7) / 8 = Kn b := rfl
    have hrd : rest.extract (Kn b) rest.size = strOfNums (l.drop (Kn b)) := by rw [str_from, hr]
    rw [hkn, hrd]
    simp only [getP]
    have hkb : (Kn b : Int) = (b + 7) / 8 := by unfold Kn; omega
    by_cases c4 : a = 4
    · refine Ev.pos c4 ?_
      have e6 : (a == 6) = false := by rw [c4]; rfl
      rw [e6]
      by_cases c5 : ((rest.size : Nat) : Int) < (b + 7) / 8
      · refine Ev.pos c5 (Ev.const ?_)
        rw [if_neg (fun h => by have := h.2.2.1; omega)]; rfl
      refine Ev.neg c5 ?_
      by_cases c6 : b > 32
      · refine Ev.pos c6 (Ev.const ?_)
        rw [if_neg (fun h => by have := h.2.1; have : Wn false = 32 := rfl; omega)]; rfl
      refine Ev.neg c6 ?_
      obtain ⟨f1, f2⟩ := four_num hr (by omega) (show Kn b ≤ l.length by omega)
      rw [f2]
      have hw : b ≤ Wn false := by have : Wn false = 32 := rfl; omega
      have h := pfxof_ev (six := false) (preN_lt hb.tail.tail hw (by omega)) b (strOfNums (l.drop (Kn b)))
      rw [← f1] at h
      refine Ev.to h ?_
      by_cases ok : okP false (preN false b l) b
      · rw [if_pos ok, if_pos ⟨.inl c4, hw, by omega, ok⟩]
        simp only [preS, ← f1]
      · rw [if_neg ok, if_neg (fun h => ok h.2.2.2)]; rfl
    refine Ev.neg c4 ?_
    by_cases c7 : a = 6
    · refine Ev.pos c7 ?_
      have e6 : (a == 6) = true := by rw [c7]; rfl
      rw [e6]
      by_cases c5 : ((rest.size : Nat) : Int) < (b + 7) / 8
      · refine Ev.pos c5 (Ev.const ?_)
        rw [if_neg (fun h => by have := h.2.2.1; omega)]; rfl
      refine Ev.neg c5 ?_
      by_cases c6 : b > 128
      · refine Ev.pos c6 (Ev.const ?_)
        rw [if_neg (fun h => by have := h.2.1; have : Wn true = 128 := rfl; omega)]; rfl
      refine Ev.neg c6 ?_
      obtain ⟨f1, f2⟩ := six_num hr (by omega) (show Kn b ≤ l.length by omega)
      rw [f1, f2]
      have hw : b ≤ Wn true := by have : Wn true = 128 := rfl; omega
      refine Ev.to (pfxof_ev (six := true) (preN_lt hb.tail.tail hw (by omega)) b (strOfNums (l.drop (Kn b)))) ?_
      by_cases ok : okP true (preN true b l) b
      · rw [if_pos ok, if_pos ⟨.inr c7, hw, by omega, ok⟩]; rfl
      · rw [if_neg ok, if_neg (fun h => ok h.2.2.2)]; rfl
    · refine Ev.neg c7 (Ev.const ?_)
      rw [if_neg (fun h => by omega)]; rfl
theorem reader_bad (s : ByteArray) {y : Int} (hy : y ≠ 0) : Ev (fun k => num_Reader_Num.f k s y) (0, s, y) := by
  simp only [num_Reader_Num.f]
  exact Ev.neg hy (Ev.now _)
theorem many_ok {s : ByteArray} (hs : s.size ≤ 281474976710656) {most v : Int} {r : List Int} (h0 : 0 ≤ most) (h1 : most ≤ 9223372036854775807) (h : rdN most (bytesOf s) = some (v, r)) : Ev (fun k => num_Reader_Many.f k s 0 most) (v, strOfNums r, 0) := by
  simp only [num_Reader_Many.f]
  have hb := bytesOf_bytes s
  obtain ⟨a, b, c, d⟩ := rdN_back hb h
  unfold rdN at h
  split at h
  · rename_i g
    simp only [Option.some.injEq, Prod.mk.injEq] at h
    refine Ev.bind (reader_ev s hs) (Ev.neg ?_ (Ev.const ?_))
    · rw [u64w h0 (by omega)]
      show ¬ (getL 0 0 (bytesOf s)).1 > most
      omega
    · show some (wrap64 (getL 0 0 (bytesOf s)).1, strOfNums (getL 0 0 (bytesOf s)).2.1, (getL 0 0 (bytesOf s)).2.2) = _
      rw [h.1, h.2, g.1, w64 (by omega) (by omega)]
  · cases h
theorem many_bad {s : ByteArray} (hs : s.size ≤ 281474976710656) {y most : Int} (h0 : 0 ≤ most) (h1 : most ≤ 9223372036854775807) (h : y ≠ 0 ∨ y = 0 ∧ rdN most (bytesOf s) = none) : ∃ v s' y', Ev (fun k => num_Reader_Many.f k s y most) (v, s', y') ∧ y' ≠ 0 ∧ s'.size ≤ 281474976710656 := by
  simp only [num_Reader_Many.f]
  rcases h with h | ⟨rfl, h⟩
  · refine ⟨_, _, _, Ev.bind (reader_bad s h) (Ev.neg ?_ (Ev.now _)), h, hs⟩
    rw [u64w h0 (by omega)]; omega
  · have hlen := getL_len (bytesOf s) 0 0
    rw [bytesOf_length] at hlen
    have hz : (strOfNums (getL 0 0 (bytesOf s)).2.1).size ≤ 281474976710656 := by rw [strOfNums_size]; omega
    have hv := getL_val (bytesOf_bytes s)
    by_cases g : (getL 0 0 (bytesOf s)).1 > most
    · refine ⟨_, _, _, Ev.bind (reader_ev s hs) (Ev.pos ?_ (Ev.now _)), by decide, hz⟩
      rw [u64w h0 (by omega)]; exact g
    · refine ⟨_, _, _, Ev.bind (reader_ev s hs) (Ev.neg ?_ (Ev.now _)), ?_, hz⟩
      · rw [u64w h0 (by omega)]; exact g
      · show (getL 0 0 (bytesOf s)).2.2 ≠ 0
        intro e
        unfold rdN at h
        rw [if_pos ⟨e, by omega⟩] at h
        cases h
def actS : Option ((Int × Int) × List Int) → Int × Int × ByteArray × Int
  | some ((k, i), r) => (k, i, strOfNums r, 0)
  | none => (0, 0, (⟨#[]⟩ : ByteArray), 7)
theorem nil_iff (s : ByteArray) : s.toList = ([] : List UInt8) ↔ bytesOf s = [] := by
  rw [Go.ByteArray.toList_eq]
  constructor
  · intro h; rw [← List.length_eq_zero_iff, bytesOf_length, ByteArray.size, ← Array.length_toList, h]; rfl
  · intro h
    rw [← List.length_eq_zero_iff, Array.length_toList]
    have := bytesOf_length s
    rw [h] at this
    exact this.symm
theorem rest1 {s : ByteArray} {a : Int} {l : List Int} (h : bytesOf s = a :: l) : bytesOf (s.extract 1 s.size) = l := by rw [bytes_from, h]; rfl
theorem bt0 {s : ByteArray} {a : Int} {l : List Int} (h : bytesOf s = a :: l) : bt s 0 = a := by rw [bt_of h]; rfl
theorem getaction_ev (s : ByteArray) (hs : s.size ≤ 281474976710656) : Ev (fun k => msg_GetAction.f k s) (actS (getA (bytesOf s))) := by
  simp only [msg_GetAction.f]
  match hl : bytesOf s with
  | [] => exact Ev.pos ((nil_iff s).2 hl) (Ev.now _)
  | a :: l =>
    have hz := size_of_bytes hl
    simp only [List.length_cons] at hz
    have hr := rest1 hl
    have hrs := size_of_bytes hr
    have hsr : s.extract 1 s.size = strOfNums l := by rw [str_from, hl]; rfl
    rw [bt0 hl]
    refine Ev.neg (fun h => by rw [nil_iff, hl] at h; cases h) (Ev.pos (by omega) (Ev.pos (by omega) ?_))
    simp only [getA]
    by_cases c1 : a = 1
    · refine Ev.pos c1 ?_
      rw [if_pos c1]
      cases hx : rdN 65536 l with
      | some x =>
        obtain ⟨v, r⟩ := x
        rw [← hr] at hx
        refine Ev.bind (many_ok (by omega) (by omega) (by omega) hx) (Ev.pos rfl ?_)
        have hv := rdN_back (bytesOf_bytes _) hx
        rw [acts_is]
        simp only [Option.bind_some]
        rw [c1]
        exact Ev.pos (decide_eq_true (.inl ⟨rfl, hv.1, hv.2.1⟩)) (Ev.now _)
      | none =>
        rw [← hr] at hx
        obtain ⟨v, s', y', h, hy, _⟩ := many_bad (s := s.extract 1 s.size) (by omega) (y := 0) (most := 65536) (by omega) (by omega) (.inr ⟨rfl, hx⟩)
        exact Ev.bind h (Ev.neg hy (Ev.now _))
    · refine Ev.neg c1 ?_
      rw [if_neg c1, acts_is]
      simp only [Option.bind_some]
      by_cases c2 : a = 2 ∨ a = 3
      · rw [if_pos c2, hsr]
        exact Ev.pos (decide_eq_true (.inr ⟨c2, rfl⟩)) (Ev.now _)
      · rw [if_neg c2]
        refine Ev.neg ?_ (Ev.now _)
        simp only [decide_eq_true_eq]
        unfold okA
        omega
end Go.Proofs.Ytodgadhegcjbhaa.Msg
end
section
namespace Go.Proofs.Ytodgadhegcjbhaa.Msg
set_option linter.unusedVariables false
open Go.RowKit Go.Proofs.YtodgadhegcjbhaaW.PrintWords Go.Proofs.YtodgadhegcjbhaaW.PrintLast Go.Proofs.YtodgadhegcjbhaaW.PrintMore Go.Proofs.Ytodgadhegcjbhaa.Base Go.Proofs.Ytodgadhegcjbhaa.Num Go.Proofs.Ytodgadhegcjbhaa.Addr Go.Proofs.Ytodgadhegcjbhaa.Be Go.Proofs.Ytodgadhegcjbhaa.Q
end Go.Proofs.Ytodgadhegcjbhaa.Msg
end
section
namespace Go.Proofs.Ytodgadhegcjbhaa.Msg
set_option linter.unusedVariables false
open Go.RowKit Go.Proofs.YtodgadhegcjbhaaW.PrintWords Go.Proofs.YtodgadhegcjbhaaW.PrintLast Go.Proofs.YtodgadhegcjbhaaW.PrintMore Go.Proofs.Ytodgadhegcjbhaa.Base Go.Proofs.Ytodgadhegcjbhaa.Num Go.Proofs.Ytodgadhegcjbhaa.Addr Go.Proofs.Ytodgadhegcjbhaa.Be Go.Proofs.Ytodgadhegcjbhaa.Q
end Go.Proofs.Ytodgadhegcjbhaa.Msg
end
section
namespace Go.Proofs.Ytodgadhegcjbhaa.Msg
set_option linter.unusedVariables false
open Go.RowKit Go.Proofs.YtodgadhegcjbhaaW.PrintWords Go.Proofs.YtodgadhegcjbhaaW.PrintLast Go.Proofs.YtodgadhegcjbhaaW.PrintMore Go.Proofs.Ytodgadhegcjbhaa.Base Go.Proofs.Ytodgadhegcjbhaa.Num Go.Proofs.Ytodgadhegcjbhaa.Addr Go.Proofs.Ytodgadhegcjbhaa.Be Go.Proofs.Ytodgadhegcjbhaa.Q
end Go.Proofs.Ytodgadhegcjbhaa.Msg
end
section
namespace Go.Proofs.Ytodgadhegcjbhaa.Msg
set_option linter.unusedVariables false
open Go.RowKit Go.Proofs.YtodgadhegcjbhaaW.PrintWords Go.Proofs.YtodgadhegcjbhaaW.PrintLast Go.Proofs.YtodgadhegcjbhaaW.PrintMore Go.Proofs.Ytodgadhegcjbhaa.Base Go.Proofs.Ytodgadhegcjbhaa.Num Go.Proofs.Ytodgadhegcjbhaa.Addr Go.Proofs.Ytodgadhegcjbhaa.Be Go.Proofs.Ytodgadhegcjbhaa.Q
theorem toList_inj {a b : ByteArray} (h : a.toList = b.toList) : a = b := by
  rw [Go.ByteArray.toList_eq, Go.ByteArray.toList_eq] at h
  exact ByteArray.ext (Array.toList_inj.mp h)
end Go.Proofs.Ytodgadhegcjbhaa.Msg
end
section
namespace Go.Proofs.Ytodgadhegcjbhaa.Pure
set_option linter.unusedVariables false
open Go.RowKit Go.Proofs.Ytodgadhegcjbhaa.Q Go.Proofs.YtodgadhegcjbhaaW.PrintWords Go.Proofs.YtodgadhegcjbhaaW.PrintLast Go.Proofs.Ytodgadhegcjbhaa.Base Go.Proofs.Ytodgadhegcjbhaa.Num Go.Proofs.Ytodgadhegcjbhaa.Addr Go.Proofs.Ytodgadhegcjbhaa.Msg
theorem lives_ev : Ev spoorlaw11_lives.f true := Ev.of spoorlaw11_lives.mono (k := 300) (by decide +kernel)
theorem tail_is (s : ByteArray) (hz : s.size ≤ 140737488351232) : ∃ p : ByteArray × Int, Ev (fun k => msg_PutPrefix.f k (preS (getP (bytesOf s))).1 (preS (getP (bytesOf s))).2.1 (preS (getP (bytesOf s))).2.2.1 (preS (getP (bytesOf s))).2.2.2.1) p ∧ p.1.size ≤ 1000 ∧
    (if (preS (getP (bytesOf s))).2.2.2.2.2 = 0 then (if p.2 = 0 then (if p.1.size + (preS (getP (bytesOf s))).2.2.2.2.1.size ≤ 9223372036854775807 then (some ((p.1 ++ (preS (getP (bytesOf s))).2.2.2.2.1).toList == s.toList)) else (none)) else (none)) else (some true)) = some true := by
  cases hx : getP (bytesOf s) with
  | none =>
    have z := putprefix_ev false (n := 0) (by decide) 0
    simp only [show hi 0 = 0 from rfl, show lo 0 = 0 from rfl] at z
    exact ⟨_, z, by decide, by rw [if_neg (by decide)]⟩
  | some x =>
    obtain ⟨⟨six, n, ln⟩, r⟩ := x
    obtain ⟨ok, he⟩ := getP_back (bytesOf_bytes s) hx
    have hn := Nat.lt_of_lt_of_le ok.2.2.1 (wn_pow six)
    have z := putprefix_ev six hn ln
    rw [if_pos ok] at z
    have e : strOfNums (preL six n ln) ++ strOfNums r = s := by rw [← str_append, ← he, str_bytes]
    have hl := preL_len ok
    have hsz : (strOfNums (preL six n ln)).size + (strOfNums r).size = s.size := by rw [← ByteArray.size_append, e]
    refine ⟨_, z, by show (strOfNums (preL six n ln)).size ≤ 1000; rw [strOfNums_size]; omega, ?_⟩
    show (if (0 : Int) = 0 then (if (0 : Int) = 0 then (if (strOfNums (preL six n ln)).size + (strOfNums r).size ≤ 9223372036854775807 then some ((strOfNums (preL six n ln) ++ strOfNums r).toList == s.toList) else none) else none) else some true) = some true
    rw [if_pos rfl, if_pos rfl, if_pos (by omega), e, beq_self_eq_true]
theorem MsgPrefixes : spoorlaw11_MsgPrefixes.Pure := by
  intro six h l len ak ai s hw ha hs hz
  obtain ⟨_, ⟨h1, h2⟩, h3⟩ := hw
  obtain ⟨n, hn, rfl, rfl⟩ := of_parts (wf_u64 h1).1 (wf_u64 h1).2 (wf_u64 h2).1 (wf_u64 h2).2
  refine Ev.rounds ?_
  simp only [spoorlaw11_MsgPrefixes.f]
  obtain ⟨p, hp, hp1, ht⟩ := tail_is s hz
  have a1 := putprefix_ev six hn len
  have a2 := putaction_ev ak ai
  refine Ev.bind lives_ev (Ev.pos rfl ?_)
  have act : ∀ x : Bool × Int × Int × Int × ByteArray × Int, ∀ y : ByteArray × Int, (y.2 = 0 → x = (six, hi n, lo n, len, s, 0)) → Ev (fun k => (msg_PutAction.f k ak ai).bind fun bt554 => (if bt554.1.size + s.size ≤ 9223372036854775807 then ((msg_GetAction.f k (bt554.1 ++ s)).bind fun bt556 => ((msg_GetPrefix.f k s).bind fun bt561 => ((msg_PutPrefix.f k bt561.1 bt561.2.1 bt561.2.2.1 bt561.2.2.2.1).bind fun bt568 => (if y.2 = 0 then (if x.2.2.2.2.2 = 0 then (if (x.1 == six && ((x.2.1 == hi n && (x.2.2.1 == lo n)) && (x.2.2.2.1 == len))) = true then (if x.2.2.2.2.1.toList = s.toList then (if bt554.2 = 0 then (if bt556.2.2.2 = 0 then (if (bt556.1 == ak && (bt556.2.1 == ai)) = true then (if bt556.2.2.1.toList = s.toList then (if bt561.2.2.2.2.2 = 0 then (if bt568.2 = 0 then (if bt568.1.size + bt561.2.2.2.2.1.size ≤ 9223372036854775807 then (some ((bt568.1 ++ bt561.2.2.2.2.1).toList == s.toList)) else (none)) else (none)) else (some true)) else (none)) else (none)) else (none)) else (if bt561.2.2.2.2.2 = 0 then (if bt568.2 = 0 then (if bt568.1.size + bt561.2.2.2.2.1.size ≤ 9223372036854775807 then (some ((bt568.1 ++ bt561.2.2.2.2.1).toList == s.toList)) else (none)) else (none)) else (some true))) else (none)) else (none)) else (none)) else (if bt554.2 = 0 then (if bt556.2.2.2 = 0 then (if (bt556.1 == ak && (bt556.2.1 == ai)) = true then (if bt556.2.2.1.toList = s.toList then (if bt561.2.2.2.2.2 = 0 then (if bt568.2 = 0 then (if bt568.1.size + bt561.2.2.2.2.1.size ≤ 9223372036854775807 then (some ((bt568.1 ++ bt561.2.2.2.2.1).toList == s.toList)) else (none)) else (none)) else (some true)) else (none)) else (none)) else (none)) else (if bt561.2.2.2.2.2 = 0 then (if bt568.2 = 0 then (if bt568.1.size + bt561.2.2.2.2.1.size ≤ 9223372036854775807 then (some ((bt568.1 ++ bt561.2.2.2.2.1).toList == s.toList)) else (none)) else (none)) else (some true))))))) else (none))) true := by
    intro x y hxy
    have last : ∀ z : ByteArray × Int, ∀ v : Int × Int × ByteArray × Int, (z.2 = 0 → v = (ak, ai, s, 0)) → Ev (fun k => (msg_GetPrefix.f k s).bind fun bt561 => ((msg_PutPrefix.f k bt561.1 bt561.2.1 bt561.2.2.1 bt561.2.2.2.1).bind fun bt568 => (if y.2 = 0 then (if x.2.2.2.2.2 = 0 then (if (x.1 == six && ((x.2.1 == hi n && (x.2.2.1 == lo n)) && (x.2.2.2.1 == len))) = true then (if x.2.2.2.2.1.toList = s.toList then (if z.2 = 0 then (if v.2.2.2 = 0 then (if (v.1 == ak && (v.2.1 == ai)) = true then (if v.2.2.1.toList = s.toList then (if bt561.2.2.2.2.2 = 0 then (if bt568.2 = 0 then (if bt568.1.size + bt561.2.2.2.2.1.size ≤ 9223372036854775807 then (some ((bt568.1 ++ bt561.2.2.2.2.1).toList == s.toList)) else (none)) else (none)) else (some true)) else (none)) else (none)) else (none)) else (if bt561.2.2.2.2.2 = 0 then (if bt568.2 = 0 then (if bt568.1.size + bt561.2.2.2.2.1.size ≤ 9223372036854775807 then (some ((bt568.1 ++ bt561.2.2.2.2.1).toList == s.toList)) else (none)) else (none)) else (some true))) else (none)) else (none)) else (none)) else (if z.2 = 0 then (if v.2.2.2 = 0 then (if (v.1 == ak && (v.2.1 == ai)) = true then (if v.2.2.1.toList = s.toList then (if bt561.2.2.2.2.2 = 0 then (if bt568.2 = 0 then (if bt568.1.size + bt561.2.2.2.2.1.size ≤ 9223372036854775807 then (some ((bt568.1 ++ bt561.2.2.2.2.1).toList == s.toList)) else (none)) else (none)) else (some true)) else (none)) else (none)) else (none)) else (if bt561.2.2.2.2.2 = 0 then (if bt568.2 = 0 then (if bt568.1.size + bt561.2.2.2.2.1.size ≤ 9223372036854775807 then (some ((bt568.1 ++ bt561.2.2.2.2.1).toList == s.toList)) else (none)) else (none)) else (some true)))))) true := by
      intro z v hzv
      refine Ev.bind (getprefix_ev s) (Ev.bind hp ?_)
      by_cases c1 : y.2 = 0
      · have hx := hxy c1
        refine Ev.pos c1 (Ev.pos (by rw [hx]) (Ev.pos (by rw [hx]; simp) (Ev.pos (by rw [hx]) ?_)))
        by_cases c2 : z.2 = 0
        · have hv := hzv c2
          exact Ev.pos c2 (Ev.pos (by rw [hv]) (Ev.pos (by rw [hv]; simp) (Ev.pos (by rw [hv]) (Ev.const ht))))
        · exact Ev.neg c2 (Ev.const ht)
      · refine Ev.neg c1 ?_
        by_cases c2 : z.2 = 0
        · have hv := hzv c2
          exact Ev.pos c2 (Ev.pos (by rw [hv]) (Ev.pos (by rw [hv]; simp) (Ev.pos (by rw [hv]) (Ev.const ht))))
        · exact Ev.neg c2 (Ev.const ht)
    by_cases ok : okA ak ai
    · rw [if_pos ok] at a2
      have hal := actL_len ok
      have hsz : (strOfNums (actL ak ai)).size = (actL ak ai).length := strOfNums_size _
      refine Ev.bind a2 (Ev.pos (by show (strOfNums (actL ak ai)).size + s.size ≤ _; omega) ?_)
      have g := getaction_ev (strOfNums (actL ak ai) ++ s) (by rw [ByteArray.size_append]; omega)
      rw [bytes_append, bytes_str (actL_bytes ok), getA_put _ ok] at g
      refine Ev.bind g (last (strOfNums (actL ak ai), 0) _ (fun _ => ?_))
      simp only [actS, str_bytes]
    · rw [if_neg ok] at a2
      refine Ev.bind a2 (Ev.pos (by show 0 + s.size ≤ _; omega) ?_)
      exact Ev.bind (getaction_ev _ (by rw [ByteArray.size_append]; show 0 + s.size ≤ _; omega)) (last ((⟨#[]⟩ : ByteArray), 2) _ (fun h => absurd h (by decide)))
  by_cases ok : okP six n len
  · rw [if_pos ok] at a1
    have hl := preL_len ok
    have hsz : (strOfNums (preL six n len)).size = (preL six n len).length := strOfNums_size _
    refine Ev.bind a1 (Ev.pos (by show (strOfNums (preL six n len)).size + s.size ≤ _; omega) ?_)
    have g := getprefix_ev (strOfNums (preL six n len) ++ s)
    rw [bytes_append, bytes_str (preL_bytes ok), getP_put _ ok] at g
    refine Ev.bind g (act _ (strOfNums (preL six n len), 0) (fun _ => ?_))
    simp only [preS, str_bytes]
  · rw [if_neg ok] at a1
    refine Ev.bind a1 (Ev.pos (by show 0 + s.size ≤ _; omega) ?_)
    exact Ev.bind (getprefix_ev _) (act _ ((⟨#[]⟩ : ByteArray), 2) (fun h => absurd h (by decide)))
end Go.Proofs.Ytodgadhegcjbhaa.Pure
end
section
namespace Go.Proofs.Ytodgadhegcjbhaa.msgPrefixes
open Go.ChangeShapes Go.WideShapes Go.ChangeAt Go.RowKit Go.Proofs.Ytodgadhegcjbhaa.Open Go.Proofs.Ytodgadhegcjbhaa.Q
open Go.ChangeMaps (open_string shut_string)
set_option linter.unusedVariables false
theorem own : ownKnob Try.prog.godebug = none := by kernel_rfl
theorem laidOut : laidOutB Try.prog = true := by kernel_rfl
theorem contract (H : Type) (enc : TypeId × Value → H) (W : World) (base : Nat) (args : Array Value) (ds gs : List (DataW H)) (before : List MemPlace)
    (hval : ∀ (j : Nat) t v, Try.f7.params[j]? = some t → args[j]? = some v → Value.okWide Try.prog W .any base t v)
    (hW : DataW.Whole enc Try.prog Try.f7.params.toList Rows.msgPrefixesSpec.vars false W args.toList ds gs before) (hsz0 : (DataW.weightsEach Try.prog (Try.f7.params.toList ++ Rows.msgPrefixesSpec.plain.varTypes Try.prog) (ds ++ gs)).all (· ≤ reachBytes) = true) :
    Calls Try.prog 7 args W fun e W' => ∃ v, e = .returned v ∧ Rows.msgPrefixesSpec.post enc Try.prog Try.f7 false true false false W args v W' := by
  have hW' := hW
  obtain ⟨p, q, hA0, hV, rfl, hfz, hnd⟩ := hW
  have hA : DataW.TrodAll enc Try.prog W 0 (fun _ => true) true Try.f7.params.toList args.toList ds p := hA0
  have hsz : (DataW.weightsEach Try.prog (Try.f7.params.toList ++ Rows.msgPrefixesSpec.plain.varTypes Try.prog) (ds ++ gs)).all (· ≤ reachBytes) = true := hsz0
  rw [Try.params7] at hA hval hsz
  obtain ⟨v0, vs0, d0, ds0, p0, q0, hargs, rfl, rfl, h0, r0⟩ := trodAll_cons hA
  obtain ⟨v1, vs1, d1, ds1, p1, q1, rfl, rfl, rfl, h1, r1⟩ := trodAll_cons r0
  obtain ⟨v2, vs2, d2, ds2, p2, q2, rfl, rfl, rfl, h2, r2⟩ := trodAll_cons r1
  obtain ⟨rfl, rfl, rfl⟩ := trodAll_nil r2
  obtain rfl : args = #[v0, v1, v2] := by cases args; simp_all
  obtain ⟨rfl, rfl⟩ := trodVars_none hV
  have k0 := h0
  have lt0 : ∀ x ∈ p0, x.block < W.heap.size := by obtain ⟨m, hm⟩ := k0; exact DataW.trod_lt m _ _ _ hm
  obtain ⟨fu0, hf0⟩ := h0
  obtain ⟨b0, K0, o0, u0⟩ := opn27 enc W _ _ _ _ _ hf0
  have z0 := k27_open K0
  obtain rfl : v0 = .agg #[.bool b0.f0, .int .u64 b0.f1.f0, .int .u64 b0.f1.f1, .int .i64 b0.f2] := by obtain ⟨x, rfl, _⟩ := okWide_struct Try.underlying27 (hval 0 27 v0 rfl rfl); exact congrArg Value.agg (Array.toList_inj.mp (show x.toList = [.bool b0.f0, .int .u64 b0.f1.f0, .int .u64 b0.f1.f1, .int .i64 b0.f2] from z0))
  have k1 := h1
  have lt1 : ∀ x ∈ p1, x.block < W.heap.size := by obtain ⟨m, hm⟩ := k1; exact DataW.trod_lt m _ _ _ hm
  obtain ⟨fu1, hf1⟩ := h1
  obtain ⟨b1, K1, o1, u1⟩ := opn30 enc W _ _ _ _ _ hf1
  have z1 := k30_open K1
  obtain rfl : v1 = .agg #[.int .u8 b1.f0, .int .i64 b1.f1] := by obtain ⟨x, rfl, _⟩ := okWide_struct Try.underlying30 (hval 1 30 v1 rfl rfl); exact congrArg Value.agg (Array.toList_inj.mp (show x.toList = [.int .u8 b1.f0, .int .i64 b1.f1] from z1))
  have k2 := h2
  have lt2 : ∀ x ∈ p2, x.block < W.heap.size := by obtain ⟨m, hm⟩ := k2; exact DataW.trod_lt m _ _ _ hm
  obtain ⟨fu2, hf2⟩ := h2
  obtain ⟨b2, K2, o2, u2⟩ := (opens_string Try.underlying9) enc W _ _ _ _ _ hf2
  obtain rfl : v2 = .string b2 := by obtain ⟨x, rfl⟩ := okWide_string Try.underlying9 (hval 2 9 v2 rfl rfl); exact (List.cons.inj (show [Value.string x] = [Value.string b2] from K2)).1
  have sz2 : b2.size ≤ 140737488351232 := sized_text hsz (j := 2) (t := 9) rfl rfl Try.underlying9 k2
  obtain ⟨k, h⟩ := Pure.MsgPrefixes b0.f0 b0.f1.f0 b0.f1.f1 b0.f2 b1.f0 b1.f1 b2 o0 o1 o2 sz2
  refine (spoorlaw11_MsgPrefixes.calls k b0.f0 b0.f1.f0 b0.f1.f1 b0.f2 b1.f0 b1.f1 b2 true W  h).mono fun e W' ⟨he, hd⟩ => ?_
  have bel := hd
  subst he
  exact ⟨_, rfl, _, _, _, [], _, [], hW', trodAll_mk1 (shut_bool Try.underlying4 _), (trodAll_cons_mk (Below.trod laidOut (by kernel_rfl) (of_decide_eq_true (by kernel_rfl)) k0 bel lt0) (trodAll_cons_mk (Below.trod laidOut (by kernel_rfl) (of_decide_eq_true (by kernel_rfl)) k1 bel lt1) (trodAll_cons_mk (Below.trod laidOut (by kernel_rfl) (of_decide_eq_true (by kernel_rfl)) k2 bel lt2) trodAll_mk0))), rfl, bel.frame _, fun h => by cases h⟩
set_option maxRecDepth 100000 in
theorem lifted (os : Os) (started : os.Started) (H : Type) (enc : TypeId × Value → H) :
    ReturnsInHanded {} Try.checked os 7 .any (Rows.msgPrefixesSpec.pre6 enc Try.prog Try.f7 Rows.msgPrefixesRow.domain false) (Rows.msgPrefixesSpec.post enc Try.prog Try.f7 false true false false) := by
  refine returnsInHanded_of_change_sized (C := Try.checked) own started (by kernel_rfl) Try.func7
    (ChangeSpec.witness6 (enc := enc) (C := Try.checked) false ⟨#[], #[.agg #[.bool false, .int .u64 0, .int .u64 0, .int .i64 0], .agg #[.int .u8 0, .int .i64 0], .string ByteArray.empty], []⟩ 8 (by kernel_rfl) (by kernel_rfl) (by kernel_rfl) (by kernel_rfl)) ?_
  intro W base args ds gs before hval hW _ hsz _
  exact contract H enc W base args ds gs before hval hW hsz
theorem over : Rows.msgPrefixesRow.holds Try.pinned (OpenSpec.ofChange Rows.msgPrefixesSpec) :=
  OpenClaim.holds_of_wide 7 Try.f7 rfl rfl rfl rfl rfl rfl rfl ⟨rfl, rfl, rfl, rfl, rfl⟩ rfl rfl rfl rfl rfl (by kernel_rfl) Try.func7 (by kernel_rfl)
    (of_decide_eq_true (by kernel_rfl)) (by unfold Func.isWrapper; first | (rw [if_pos (by decide +kernel)]; kernel_rfl) | (rw [if_neg (by decide +kernel)]; exact ⟨rfl, rfl⟩))
    (fun os started H enc _ => lifted os started H enc)
theorem proved : Rows.MsgPrefixesSaid := over
#print axioms proved
end Go.Proofs.Ytodgadhegcjbhaa.msgPrefixes
namespace Go.Proofs.Ytodgadhegcjbhaa
theorem msgPrefixes_holds : Rows.MsgPrefixesSaid := msgPrefixes.proved
end Go.Proofs.Ytodgadhegcjbhaa
end
