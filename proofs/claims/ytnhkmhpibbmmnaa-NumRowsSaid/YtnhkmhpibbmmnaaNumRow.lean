/- Rows and texts of numbers: the program's, the reference's, and the plain ones. -/
import Derived.Test.YtnhkmhpibbmmnaaNumG
import Derived.Test.YtnhkmhpibbmmnaaQx7
import Derived.Test.YtnhkmhpibbmmnaaQx8
import Derived.Test.YtnhkmhpibbmmnaaQx9
import Derived.Test.YtnhkmhpibbmmnaaQx10
import Derived.Test.YtnhkmhpibbmmnaaQx12
namespace Go.Proofs.Ytnhkmhpibbmmnaa.Num
set_option linter.unusedVariables false
open Go.RowKit Go.Proofs.YtnhkmhpibbmmnaaW.PrintWords Go.Proofs.YtnhkmhpibbmmnaaW.PrintLast Go.Proofs.YtnhkmhpibbmmnaaW.PrintMore Go.Proofs.Ytnhkmhpibbmmnaa.Base Go.Proofs.Ytnhkmhpibbmmnaa.Q

def U64s (l : List Int) : Prop := ∀ x ∈ l, 0 ≤ x ∧ x < 18446744073709551616
theorem U64s.nil : U64s [] := fun _ h => by cases h
theorem U64s.head {x : Int} {l : List Int} (h : U64s (x :: l)) : 0 ≤ x ∧ x < 18446744073709551616 := h x (by simp)
theorem U64s.tail {x : Int} {l : List Int} (h : U64s (x :: l)) : U64s l := fun y hy => h y (by simp [hy])
theorem U64s.of_wf {l : List Int} (h : ∀ x ∈ l, (Lit.int .u64 x).wf = true) : U64s l := fun x hx => wf_u64 (h x hx)
/-- The bytes of numbers, one behind the other. -/
def putsL : List Int → List Int
  | [] => []
  | x :: l => putL x.toNat ++ putsL l
theorem putsL_bytes : ∀ l, Bytes (putsL l)
  | [] => Bytes.nil
  | x :: l => (putL_bytes _).append (putsL_bytes l)
theorem putsL_len : ∀ {l : List Int}, U64s l → (putsL l).length ≤ 10 * l.length
  | [], _ => by simp [putsL]
  | x :: l, h => by
    have h1 := putL_len (n := x.toNat) (by have := h.head; omega)
    have h2 := putsL_len h.tail
    simp [putsL]
    omega
theorem putsL_append : ∀ a b, putsL (a ++ b) = putsL a ++ putsL b
  | [], b => rfl
  | x :: a, b => by simp [putsL, putsL_append a b]
theorem puts_ev (l : List Int) (h : U64s l) (hl : l.length ≤ 4096) : ∀ (r : List Int) (j : Nat) (acc : List Int), l.drop j = r → acc.length + 10 * r.length ≤ 140737488355328 → Ev (fun k => num_Row.l0 k acc l (l.length : Int) (j : Int)) (strOfNums (acc ++ putsL r), 0) := by
  intro r
  induction r with
  | nil =>
    intro j acc hd _
    have := drop_nil_le hd
    refine Ev.step (f := fun _ => some (strOfNums acc, 0)) (fun k => ?_) (Ev.const (by simp [putsL]))
    simp only [num_Row.l0]
    rw [if_neg (by omega)]
  | cons x r ih =>
    intro j acc hd ha
    have hlt := drop_lt hd
    have hx := rd_drop hd
    have hu : U64s (x :: r) := fun y hy => h y (List.mem_of_mem_drop (by rw [hd]; exact hy))
    obtain ⟨x0, x1⟩ := hu.head
    have hp := putL_len (n := x.toNat) (by omega)
    simp only [List.length_cons] at ha
    have hw : wrap64 ((j : Int) + 1) = ((j + 1 : Nat) : Int) := by rw [w64 (by omega) (by omega)]; omega
    refine Ev.step (f := fun k => (num_Add.f k acc x).bind fun t => num_Row.l0 k t l (l.length : Int) ((j + 1 : Nat) : Int)) (fun k => ?_) ?_
    · simp only [num_Row.l0]
      rw [if_pos (by omega), if_pos (by omega), if_pos (by omega), hx, hw]
    · have h1 := add_ev x.toNat acc (by omega)
      rw [Int.toNat_of_nonneg x0] at h1
      refine Ev.bind (g := fun k => num_Add.f k acc x) h1 ?_
      have := ih (j + 1) (acc ++ putL x.toNat) (drop_next hd) (by simp; omega)
      simpa [putsL] using this
/-- A row's bytes. -/
def rowL (l : List Int) : List Int := putL l.length ++ putsL l
theorem rowL_bytes (l : List Int) : Bytes (rowL l) := (putL_bytes _).append (putsL_bytes l)
theorem rowL_len {l : List Int} (h : U64s l) (hl : l.length ≤ 4096) : (rowL l).length ≤ 40970 := by
  have h1 := putL_len (n := l.length) (by omega)
  have h2 := putsL_len h
  simp [rowL]
  omega
theorem row_ev {l : List Int} (h : U64s l) (hl : l.length ≤ 4096) : Ev (fun k => num_Row.f k l) (strOfNums (rowL l), 0) := by
  simp only [num_Row.f]
  refine Ev.neg (by omega) ?_
  rw [u64w (by omega) (by omega)]
  have hp := putL_len (n := l.length) (by omega)
  have h1 := add_ev l.length [] (by simp; omega)
  refine Ev.bind (g := fun k => num_Add.f k [] (l.length : Int)) h1 ?_
  exact puts_ev l h hl l 0 _ rfl (by simp; omega)
theorem row_long {l : List Int} (hl : ¬ l.length ≤ 4096) : Ev (fun k => num_Row.f k l) ((⟨#[]⟩ : ByteArray), 11) := by
  simp only [num_Row.f]
  exact Ev.pos (by omega) (Ev.now _)
theorem rputs_ev (l : List Int) (h : U64s l) (hl : l.length ≤ 4096) : ∀ (r : List Int) (j : Nat) (acc : List Int), l.drop j = r → acc.length + 10 * r.length ≤ 140737488355328 → Ev (fun k => spoorref01_Row.l0 k (strOfNums acc) l (l.length : Int) (j : Int)) (strOfNums (acc ++ putsL r), 0) := by
  intro r
  induction r with
  | nil =>
    intro j acc hd _
    have := drop_nil_le hd
    refine Ev.step (f := fun _ => some (strOfNums acc, 0)) (fun k => ?_) (Ev.const (by simp [putsL]))
    simp only [spoorref01_Row.l0]
    rw [if_neg (by omega)]
  | cons x r ih =>
    intro j acc hd ha
    have hlt := drop_lt hd
    have hx := rd_drop hd
    have hu : U64s (x :: r) := fun y hy => h y (List.mem_of_mem_drop (by rw [hd]; exact hy))
    obtain ⟨x0, x1⟩ := hu.head
    have hp := putL_len (n := x.toNat) (by omega)
    simp only [List.length_cons] at ha
    have hw : wrap64 ((j : Int) + 1) = ((j + 1 : Nat) : Int) := by rw [w64 (by omega) (by omega)]; omega
    refine Ev.step (f := fun k => (spoorref01_Put.f k x).bind fun t => if (strOfNums acc).size + t.size ≤ 9223372036854775807 then spoorref01_Row.l0 k (strOfNums acc ++ t) l (l.length : Int) ((j + 1 : Nat) : Int) else none) (fun k => ?_) ?_
    · simp only [spoorref01_Row.l0]
      rw [if_pos (by omega), if_pos (by omega), if_pos (by omega), hx, hw]
    · have h1 := rput_ev x.toNat (by omega)
      rw [Int.toNat_of_nonneg x0] at h1
      refine Ev.bind (g := fun k => spoorref01_Put.f k x) h1 (Ev.pos (by rw [strOfNums_size, strOfNums_size]; omega) ?_)
      have := ih (j + 1) (acc ++ putL x.toNat) (drop_next hd) (by simp; omega)
      rw [← str_append]
      simpa [putsL] using this
theorem rrow_ev {l : List Int} (h : U64s l) (hl : l.length ≤ 4096) : Ev (fun k => spoorref01_Row.f k l) (strOfNums (rowL l), 0) := by
  simp only [spoorref01_Row.f]
  refine Ev.neg (by omega) ?_
  rw [u64w (by omega) (by omega)]
  have hp := putL_len (n := l.length) (by omega)
  refine Ev.bind (rput_ev l.length (by omega)) ?_
  exact rputs_ev l h hl l 0 _ rfl (by omega)
theorem rrow_long {l : List Int} (hl : ¬ l.length ≤ 4096) : Ev (fun k => spoorref01_Row.f k l) ((⟨#[]⟩ : ByteArray), 11) := by
  simp only [spoorref01_Row.f]
  exact Ev.pos (by omega) (Ev.now _)

/-- n numbers that bytes begin with, behind others. -/
def getN : Nat → List Int → List Int → List Int × List Int × Int
  | 0, l, out => (out, l, 0)
  | n + 1, l, out => if (getL 0 0 l).2.2 = 0 then getN n (getL 0 0 l).2.1 (out ++ [(getL 0 0 l).1]) else ([], [], (getL 0 0 l).2.2)
theorem getN_put (more : List Int) : ∀ (l out : List Int), U64s l → getN l.length (putsL l ++ more) out = (out ++ l, more, 0)
  | [], out, _ => by simp [getN, putsL]
  | x :: l, out, h => by
    obtain ⟨x0, x1⟩ := h.head
    have e := getL_put0 (m := x.toNat) (putsL l ++ more) (by omega)
    rw [List.length_cons, putsL, List.append_assoc]
    simp only [getN]
    rw [e, if_pos rfl]
    simp only
    rw [Int.toNat_of_nonneg x0, getN_put more l _ h.tail]
    simp
theorem getN_back : ∀ (n : Nat) (l out a r : List Int), Bytes l → getN n l out = (a, r, 0) → ∃ m, a = out ++ m ∧ m.length = n ∧ U64s m ∧ l = putsL m ++ r ∧ Bytes r
  | 0, l, out, a, r, hb, h => by
    simp [getN] at h
    obtain ⟨rfl, rfl⟩ := h
    exact ⟨[], by simp, rfl, U64s.nil, by simp [putsL], hb⟩
  | n + 1, l, out, a, r, hb, h => by
    simp only [getN] at h
    generalize hx : getL 0 0 l = x at h
    obtain ⟨v, q, e⟩ := x
    by_cases he : e = 0
    · subst he
      rw [if_pos rfl] at h
      obtain ⟨m, hv, hl, hm⟩ := getL_back0 hb hx
      have hq : Bytes q := by have := getL_bytes l 0 0 hb; rw [hx] at this; exact this
      obtain ⟨ms, ha, hn, hu, hq2, hr⟩ := getN_back n q _ a r hq h
      refine ⟨v :: ms, by rw [ha]; simp, by simp [hn], ?_, ?_, hr⟩
      · intro y hy
        rcases List.mem_cons.1 hy with rfl | hy
        · omega
        · exact hu y hy
      · rw [hl, putsL, hv, Int.toNat_natCast, hq2, List.append_assoc]
    · rw [if_neg he] at h
      simp at h
      exact absurd h.2.2 he
theorem getN_err : ∀ (n : Nat) (l out : List Int), (getN n l out).2.2 = 0 ∨ ((getN n l out).2.2 ≠ 0 ∧ (getN n l out).1 = [] ∧ (getN n l out).2.1 = [])
  | 0, _, _ => .inl rfl
  | n + 1, l, out => by
    simp only [getN]
    split
    · exact getN_err n _ _
    · exact .inr ⟨by assumption, rfl, rfl⟩
/-- The row that bytes begin with. -/
def rowR (l : List Int) : List Int × List Int × Int :=
  if (getL 0 0 l).2.2 = 0 then (if (getL 0 0 l).1 > 4096 then ([], [], 7) else getN (getL 0 0 l).1.toNat (getL 0 0 l).2.1 []) else ([], [], (getL 0 0 l).2.2)
def rowS (x : List Int × List Int × Int) : List Int × ByteArray × Int := (x.1, strOfNums x.2.1, x.2.2)
theorem rowR_put {l : List Int} (more : List Int) (h : U64s l) (hl : l.length ≤ 4096) : rowR (rowL l ++ more) = (l, more, 0) := by
  unfold rowR rowL
  rw [List.append_assoc, getL_put0 _ (by omega), if_pos rfl, if_neg (by omega)]
  simp only [Int.toNat_natCast]
  rw [getN_put more l [] h]
  rfl
theorem rowR_back {l a r : List Int} (hb : Bytes l) (h : rowR l = (a, r, 0)) : l = rowL a ++ r ∧ U64s a ∧ a.length ≤ 4096 ∧ Bytes r := by
  unfold rowR at h
  generalize hx : getL 0 0 l = x at h
  obtain ⟨v, q, e⟩ := x
  by_cases he : e = 0
  · subst he
    rw [if_pos rfl] at h
    by_cases hv : v > 4096
    · rw [if_pos hv] at h; simp at h
    · rw [if_neg hv] at h
      obtain ⟨m, hm, hl, hs⟩ := getL_back0 hb hx
      have hq : Bytes q := by have := getL_bytes l 0 0 hb; rw [hx] at this; exact this
      obtain ⟨ms, ha, hn, hu, hq2, hr⟩ := getN_back _ q [] a r hq h
      rw [List.nil_append] at ha
      subst ha
      refine ⟨?_, hu, by simp at hn; omega, hr⟩
      simp only at hn
      rw [hl, rowL, hn, hm, Int.toNat_natCast, hq2, List.append_assoc]
  · rw [if_neg he] at h
    simp at h
    exact absurd h.2.2 he
theorem getL_val {l : List Int} (hb : Bytes l) : 0 ≤ (getL 0 0 l).1 ∧ (getL 0 0 l).1 < 18446744073709551616 := by
  rcases getL_err l 0 0 with h | ⟨_, h, _⟩
  · obtain ⟨m, hv, _, hm⟩ := getL_back0 (l := l) (v := (getL 0 0 l).1) (r := (getL 0 0 l).2.1) hb (Prod.ext rfl (Prod.ext rfl h))
    omega
  · rw [h]; omega
theorem reader_ev (s : ByteArray) (hs : s.size ≤ 281474976710656) : Ev (fun k => num_Reader_Num.f k s 0) (getR (getL 0 0 (bytesOf s))) := by
  simp only [num_Reader_Num.f]
  exact Ev.pos trivial (Ev.bind (get_ev0 s hs) (Ev.now _))
theorem parts_ev (n : Nat) (hn : n ≤ 4096) : ∀ (j : Nat) (s : ByteArray) (out : List Int), j ≤ n → out.length = n - j → s.size ≤ 281474976710656 →
    ∃ q : List Int × ByteArray × Int, Ev (fun k => num_Parts_uint64.l0 k s 0 (n : Int) ((n - j : Nat) : Int) out) q ∧ ((q.2.2 = 0 ∧ q = rowS (getN j (bytesOf s) out)) ∨ (q.2.2 ≠ 0 ∧ rowS (getN j (bytesOf s) out) = ([], (⟨#[]⟩ : ByteArray), q.2.2)))
  | 0, s, out, _, ho, hs => by
    refine ⟨(out, s, 0), Ev.step (f := fun _ => some (out, s, 0)) (fun k => ?_) (Ev.now _), .inl ⟨rfl, ?_⟩⟩
    · simp only [num_Parts_uint64.l0]
      rw [if_neg (by omega)]
    · simp [getN, rowS, str_bytes]
  | j + 1, s, out, hj, ho, hs => by
    have hlen := getL_len (bytesOf s) 0 0
    rw [bytesOf_length] at hlen
    by_cases he : (getL 0 0 (bytesOf s)).2.2 = 0
    · have hb := getL_bytes (bytesOf s) 0 0 (bytesOf_bytes s)
      obtain ⟨q, hq, hz⟩ := parts_ev n hn j (strOfNums (getL 0 0 (bytesOf s)).2.1) (out ++ [(getL 0 0 (bytesOf s)).1]) (by omega) (by simp; omega) (by rw [strOfNums_size]; omega)
      rw [bytes_str hb] at hz
      refine ⟨q, ?_, ?_⟩
      · refine Ev.step (fun k => by simp only [num_Parts_uint64.l0]; rw [if_pos (by omega)]) (Ev.bind (reader_ev s hs) (Ev.pos he (Ev.pos (show out.length < 17592186044416 by omega) ?_)))
        rw [w64 (by omega) (by omega), show (((n - (j + 1) : Nat) : Int) + 1) = ((n - j : Nat) : Int) by omega]
        simp only [getR, he]
        exact hq
      · simp only [getN]
        rw [if_pos he]
        exact hz
    · refine ⟨([], strOfNums (getL 0 0 (bytesOf s)).2.1, (getL 0 0 (bytesOf s)).2.2), ?_, .inr ⟨he, ?_⟩⟩
      · refine Ev.step (fun k => by simp only [num_Parts_uint64.l0]; rw [if_pos (by omega)]) (Ev.bind (reader_ev s hs) (Ev.neg he (Ev.now _)))
      · simp only [getN]
        rw [if_neg he]
        rfl
theorem getrow_ev (s : ByteArray) (hs : s.size ≤ 281474976710656) : Ev (fun k => num_GetRow.f k s) (rowS (rowR (bytesOf s))) := by
  have hlen := getL_len (bytesOf s) 0 0
  rw [bytesOf_length] at hlen
  have hb := getL_bytes (bytesOf s) 0 0 (bytesOf_bytes s)
  obtain ⟨v0, v1⟩ := getL_val (bytesOf_bytes s)
  have many : ∀ (x : Int × ByteArray × Int), (if (getL 0 0 (bytesOf s)).1 > 4096 then (0, strOfNums (getL 0 0 (bytesOf s)).2.1, 7) else ((getL 0 0 (bytesOf s)).1, strOfNums (getL 0 0 (bytesOf s)).2.1, (getL 0 0 (bytesOf s)).2.2)) = x → Ev (fun k => num_Reader_Many.f k s 0 4096) x := by
    intro x hx
    simp only [num_Reader_Many.f]
    refine Ev.bind (reader_ev s hs) ?_
    rw [u64w (by omega) (by omega)]
    by_cases h : (getL 0 0 (bytesOf s)).1 > 4096
    · rw [if_pos h] at hx
      exact Ev.pos h (Ev.const (by rw [← hx]; rfl))
    · rw [if_neg h] at hx
      exact Ev.neg h (Ev.const (by rw [← hx]; simp only [getR]; rw [w64 (by omega) (by omega)]))
  unfold rowR
  simp only [num_GetRow.f, num_Parts_uint64.f]
  have e0 : ∀ x : Int, x ≠ 0 → Ev (fun _ => num_done_uint64.f (strOfNums (getL 0 0 (bytesOf s)).2.1) x []) ([], (⟨#[]⟩ : ByteArray), x, strOfNums (getL 0 0 (bytesOf s)).2.1, x) := fun x hx => Ev.const (by simp only [num_done_uint64.f]; rw [if_neg hx])
  have z0 : ∀ (x : Int) (t : ByteArray), Ev (fun k => num_Parts_uint64.l0 k t x 0 0 []) ([], t, x) := fun x t => Ev.step (f := fun _ => some ([], t, x)) (fun k => by simp only [num_Parts_uint64.l0]; rw [if_neg (by omega)]) (Ev.now _)
  by_cases he : (getL 0 0 (bytesOf s)).2.2 = 0
  · rw [if_pos he]
    by_cases hv : (getL 0 0 (bytesOf s)).1 > 4096
    · rw [if_pos hv]
      refine Ev.bind (a := ([], strOfNums (getL 0 0 (bytesOf s)).2.1, 7)) ?_ ?_
      · refine Ev.bind (many _ (if_pos hv)) ?_
        exact z0 7 _
      · refine Ev.bind (e0 7 (by decide)) ?_
        exact Ev.now _
    · rw [if_neg hv]
      obtain ⟨q, hq, hz⟩ := parts_ev (getL 0 0 (bytesOf s)).1.toNat (by omega) (getL 0 0 (bytesOf s)).1.toNat (strOfNums (getL 0 0 (bytesOf s)).2.1) [] (Nat.le_refl _) (by simp) (by rw [strOfNums_size]; omega)
      rw [Nat.sub_self, Int.toNat_of_nonneg v0] at hq
      rw [bytes_str hb] at hz
      refine Ev.bind (a := q) ?_ ?_
      · refine Ev.bind (many _ (if_neg hv)) ?_
        simp only [he]
        exact hq
      · rcases hz with ⟨hz, e⟩ | ⟨hz, e⟩
        · rw [← e]
          refine Ev.bind (a := (q.1, q.2.1, 0, q.2.1, q.2.2)) (Ev.const (by simp only [num_done_uint64.f]; rw [if_pos hz])) (Ev.const ?_)
          simp only
          rw [← hz]
        · rw [e]
          exact Ev.bind (a := ([], (⟨#[]⟩ : ByteArray), q.2.2, q.2.1, q.2.2)) (Ev.const (by simp only [num_done_uint64.f]; rw [if_neg hz])) (Ev.now _)
  · rw [if_neg he]
    have hv : ¬ (getL 0 0 (bytesOf s)).1 > 4096 := by
      rcases getL_err (bytesOf s) 0 0 with h | ⟨_, h, _⟩
      · exact absurd h he
      · rw [h]; omega
    have hz : (getL 0 0 (bytesOf s)).1 = 0 := by
      rcases getL_err (bytesOf s) 0 0 with h | ⟨_, h, _⟩
      · exact absurd h he
      · exact h
    refine Ev.bind (a := ([], strOfNums (getL 0 0 (bytesOf s)).2.1, (getL 0 0 (bytesOf s)).2.2)) ?_ ?_
    · refine Ev.bind (many _ (if_neg hv)) ?_
      simp only [hz]
      exact z0 _ _
    · refine Ev.bind (e0 _ he) ?_
      exact Ev.now _
theorem rgetN_ev (n : Nat) (hn : n ≤ 4096) : ∀ (j : Nat) (s : ByteArray) (out : List Int), j ≤ n → out.length = n - j → s.size ≤ 281474976710656 →
    Ev (fun k => spoorref01_GetRow.l0 k (n : Int) s out ((n - j : Nat) : Int)) (rowS (getN j (bytesOf s) out))
  | 0, s, out, _, ho, hs => by
    refine Ev.step (f := fun _ => some (out, s, 0)) (fun k => ?_) (Ev.const ?_)
    · simp only [spoorref01_GetRow.l0]
      rw [if_neg (by omega)]
    · simp [getN, rowS, str_bytes]
  | j + 1, s, out, hj, ho, hs => by
    have hlen := getL_len (bytesOf s) 0 0
    rw [bytesOf_length] at hlen
    have hb := getL_bytes (bytesOf s) 0 0 (bytesOf_bytes s)
    refine Ev.step (fun k => by simp only [spoorref01_GetRow.l0]; rw [if_pos (by omega)]) (Ev.bind (rget_ev0 s hs) ?_)
    simp only [getN]
    by_cases he : (getL 0 0 (bytesOf s)).2.2 = 0
    · rw [if_pos he]
      refine Ev.pos he (Ev.pos (by omega) ?_)
      have := rgetN_ev n hn j (strOfNums (getL 0 0 (bytesOf s)).2.1) (out ++ [(getL 0 0 (bytesOf s)).1]) (by omega) (by simp; omega) (by rw [strOfNums_size]; omega)
      rw [bytes_str hb] at this
      rw [u64w (by omega) (by omega), show (((n - (j + 1) : Nat) : Int) + 1) = ((n - j : Nat) : Int) by omega]
      exact this
    · rw [if_neg he]
      exact Ev.neg he (Ev.now _)
theorem rgetrow_ev (s : ByteArray) (hs : s.size ≤ 281474976710656) : Ev (fun k => spoorref01_GetRow.f k s) (rowS (rowR (bytesOf s))) := by
  have hlen := getL_len (bytesOf s) 0 0
  rw [bytesOf_length] at hlen
  have hb := getL_bytes (bytesOf s) 0 0 (bytesOf_bytes s)
  obtain ⟨v0, v1⟩ := getL_val (bytesOf_bytes s)
  simp only [spoorref01_GetRow.f]
  refine Ev.bind (rget_ev0 s hs) ?_
  unfold rowR
  by_cases he : (getL 0 0 (bytesOf s)).2.2 = 0
  · rw [if_pos he]
    refine Ev.pos he ?_
    by_cases hv : (getL 0 0 (bytesOf s)).1 > 4096
    · rw [if_pos hv]
      exact Ev.pos hv (Ev.now _)
    · rw [if_neg hv]
      refine Ev.neg hv ?_
      have := rgetN_ev (getL 0 0 (bytesOf s)).1.toNat (by omega) (getL 0 0 (bytesOf s)).1.toNat (strOfNums (getL 0 0 (bytesOf s)).2.1) [] (Nat.le_refl _) (by simp) (by rw [strOfNums_size]; omega)
      rw [Nat.sub_self, Int.toNat_of_nonneg v0, bytes_str hb] at this
      exact this
  · rw [if_neg he]
    exact Ev.neg he (Ev.now _)
theorem same_aux (l : List Int) (hl : l.length ≤ 9223372036854775807) : ∀ (d j : Nat), j + d = l.length → Ev (fun k => spoorref01_Same.l0 k l l (l.length : Int) (j : Int)) true
  | 0, j, h => Ev.step (f := fun _ => some true) (fun k => by simp only [spoorref01_Same.l0]; rw [if_neg (by omega)]) (Ev.now _)
  | d + 1, j, h => by
    refine Ev.step (f := fun k => spoorref01_Same.l0 k l l (l.length : Int) ((j + 1 : Nat) : Int)) (fun k => ?_) (same_aux l hl d (j + 1) (by omega))
    simp only [spoorref01_Same.l0]
    rw [if_pos (by omega), if_pos (by omega), if_pos (by omega), if_pos (by omega), if_pos trivial, w64 (by omega) (by omega)]
    rfl
theorem same_ev (l : List Int) (hl : l.length ≤ 9223372036854775807) : Ev (fun k => spoorref01_Same.f k l l) true := by
  simp only [spoorref01_Same.f]
  exact Ev.pos trivial (same_aux l hl l.length 0 (by omega))

/-- A text's bytes. -/
def textL (l : List Int) : List Int := putL l.length ++ l
theorem text_ev {s : ByteArray} (h : s.size ≤ 32768) : Ev (fun k => num_Text.f k s) (strOfNums (textL (bytesOf s)), 0) := by
  simp only [num_Text.f]
  refine Ev.neg (by omega) ?_
  rw [u64w (by omega) (by omega)]
  have hp := putL_len (n := s.size) (by omega)
  refine Ev.bind (g := fun k => num_Add.f k [] (s.size : Int)) (add_ev s.size [] (by simp; omega)) ?_
  refine Ev.pos (by simp; omega) (Ev.const ?_)
  simp [textL, bytesOf_length]
theorem text_long {s : ByteArray} (h : ¬ s.size ≤ 32768) : Ev (fun k => num_Text.f k s) ((⟨#[]⟩ : ByteArray), 11) := by
  simp only [num_Text.f]
  exact Ev.pos (by omega) (Ev.now _)
theorem rtext_ev {s : ByteArray} (h : s.size ≤ 32768) : Ev (fun k => spoorref01_Text.f k s) (strOfNums (textL (bytesOf s)), 0) := by
  simp only [spoorref01_Text.f]
  refine Ev.neg (by omega) ?_
  rw [u64w (by omega) (by omega)]
  have hp := putL_len (n := s.size) (by omega)
  refine Ev.bind (rput_ev s.size (by omega)) ?_
  refine Ev.pos (by rw [strOfNums_size]; omega) (Ev.const ?_)
  rw [textL, str_append, str_bytes, bytesOf_length]
theorem rtext_long {s : ByteArray} (h : ¬ s.size ≤ 32768) : Ev (fun k => spoorref01_Text.f k s) ((⟨#[]⟩ : ByteArray), 11) := by
  simp only [spoorref01_Text.f]
  exact Ev.pos (by omega) (Ev.now _)
/-- The text that bytes begin with. -/
def textR (l : List Int) : List Int × List Int × Int :=
  if (getL 0 0 l).2.2 = 0 then (if (getL 0 0 l).1 > 32768 then ([], [], 7) else if ((getL 0 0 l).2.1.length : Int) < (getL 0 0 l).1 then ([], [], 5) else ((getL 0 0 l).2.1.take (getL 0 0 l).1.toNat, (getL 0 0 l).2.1.drop (getL 0 0 l).1.toNat, 0)) else ([], [], (getL 0 0 l).2.2)
def textS (x : List Int × List Int × Int) : ByteArray × ByteArray × Int := (strOfNums x.1, strOfNums x.2.1, x.2.2)
theorem textR_put {l : List Int} (more : List Int) (hl : l.length ≤ 32768) : textR (textL l ++ more) = (l, more, 0) := by
  unfold textR textL
  rw [List.append_assoc, getL_put0 _ (by omega), if_pos rfl, if_neg (by omega), if_neg (by simp; omega)]
  simp
theorem textR_back {l a r : List Int} (hb : Bytes l) (h : textR l = (a, r, 0)) : l = textL a ++ r ∧ a.length ≤ 32768 ∧ Bytes a ∧ Bytes r := by
  unfold textR at h
  generalize hx : getL 0 0 l = x at h
  obtain ⟨v, q, e⟩ := x
  by_cases he : e = 0
  · subst he
    rw [if_pos rfl] at h
    by_cases hv : v > 32768
    · rw [if_pos hv] at h; simp at h
    rw [if_neg hv] at h
    by_cases hv2 : (q.length : Int) < v
    · rw [if_pos hv2] at h; simp at h
    rw [if_neg hv2] at h
    simp only [Prod.mk.injEq, and_true] at h
    obtain ⟨rfl, rfl⟩ := h
    obtain ⟨m, hm, hl, hs⟩ := getL_back0 hb hx
    have hq : Bytes q := by have := getL_bytes l 0 0 hb; rw [hx] at this; exact this
    subst hm
    have hlen : (q.take m).length = m := by rw [List.length_take]; omega
    refine ⟨?_, by rw [Int.toNat_natCast, hlen]; omega, hq.take _, hq.drop _⟩
    rw [hl, textL, Int.toNat_natCast, hlen, List.append_assoc, List.take_append_drop]
  · rw [if_neg he] at h
    simp at h
    exact absurd h.2.2 he
theorem gettext_ev (s : ByteArray) (hs : s.size ≤ 281474976710656) : Ev (fun k => num_GetText.f k s) (textS (textR (bytesOf s))) := by
  have hlen := getL_len (bytesOf s) 0 0
  rw [bytesOf_length] at hlen
  have hb := getL_bytes (bytesOf s) 0 0 (bytesOf_bytes s)
  obtain ⟨v0, v1⟩ := getL_val (bytesOf_bytes s)
  have many : ∀ (x : Int × ByteArray × Int), (if (getL 0 0 (bytesOf s)).1 > 32768 then (0, strOfNums (getL 0 0 (bytesOf s)).2.1, 7) else ((getL 0 0 (bytesOf s)).1, strOfNums (getL 0 0 (bytesOf s)).2.1, (getL 0 0 (bytesOf s)).2.2)) = x → Ev (fun k => num_Reader_Many.f k s 0 32768) x := by
    intro x hx
    simp only [num_Reader_Many.f]
    refine Ev.bind (reader_ev s hs) ?_
    rw [u64w (by omega) (by omega)]
    by_cases h : (getL 0 0 (bytesOf s)).1 > 32768
    · rw [if_pos h] at hx
      exact Ev.pos h (Ev.const (by rw [← hx]; rfl))
    · rw [if_neg h] at hx
      exact Ev.neg h (Ev.const (by rw [← hx]; simp only [getR]; rw [w64 (by omega) (by omega)]))
  have bad : ∀ (n e : Int) (t : ByteArray), e ≠ 0 → Ev (fun k => (num_Reader_Text.j0 k n false t e).bind fun b => (num_done_string.f b.2.1 b.2.2 b.1).bind fun c => some (c.1, c.2.1, c.2.2.1)) ((⟨#[]⟩ : ByteArray), (⟨#[]⟩ : ByteArray), e) := by
    intro n e t he
    refine Ev.bind (a := ((⟨#[]⟩ : ByteArray), t, e)) (Ev.step (f := fun _ => some ((⟨#[]⟩ : ByteArray), t, e)) (fun k => by simp only [num_Reader_Text.j0]; rw [if_neg (by simp), if_neg he]) (Ev.now _)) ?_
    exact Ev.const (by simp only [num_done_string.f]; rw [if_neg he]; rfl)
  have asc : ∀ k, num_GetText.f k s = (num_Reader_Many.f k s 0 32768).bind fun bt => ((if bt.2.2 = 0 then (num_Reader_Text.j0 k bt.1 (decide ((bt.2.1.size : Int) < bt.1)) bt.2.1 bt.2.2) else (num_Reader_Text.j0 k bt.1 false bt.2.1 bt.2.2)).bind fun b => (num_done_string.f b.2.1 b.2.2 b.1).bind fun c => some (c.1, c.2.1, c.2.2.1)) := by
    intro k
    simp only [num_GetText.f, num_Reader_Text.f]
    rw [Option.bind_assoc]
  refine Ev.congr asc ?_
  unfold textR
  by_cases he : (getL 0 0 (bytesOf s)).2.2 = 0
  · rw [if_pos he]
    by_cases hv : (getL 0 0 (bytesOf s)).1 > 32768
    · rw [if_pos hv]
      refine Ev.bind (many _ (if_pos hv)) ?_
      simp only [if_neg (show ¬ (7 : Int) = 0 by decide)]
      exact bad 0 7 _ (by decide)
    · rw [if_neg hv]
      refine Ev.bind (many _ (if_neg hv)) ?_
      simp only [if_pos he]
      rw [strOfNums_size, he]
      by_cases hs2 : ((getL 0 0 (bytesOf s)).2.1.length : Int) < (getL 0 0 (bytesOf s)).1
      · rw [if_pos hs2, decide_eq_true hs2]
        refine Ev.bind (a := ((⟨#[]⟩ : ByteArray), strOfNums (getL 0 0 (bytesOf s)).2.1, 5)) (Ev.step (f := fun _ => some ((⟨#[]⟩ : ByteArray), strOfNums (getL 0 0 (bytesOf s)).2.1, 5)) (fun k => by simp only [num_Reader_Text.j0]; rw [if_pos trivial]) (Ev.now _)) ?_
        exact Ev.const rfl
      · rw [if_neg hs2, decide_eq_false hs2]
        refine Ev.bind (a := (strOfNums ((getL 0 0 (bytesOf s)).2.1.take (getL 0 0 (bytesOf s)).1.toNat), strOfNums ((getL 0 0 (bytesOf s)).2.1.drop (getL 0 0 (bytesOf s)).1.toNat), 0)) (Ev.step (f := fun _ => some (strOfNums ((getL 0 0 (bytesOf s)).2.1.take (getL 0 0 (bytesOf s)).1.toNat), strOfNums ((getL 0 0 (bytesOf s)).2.1.drop (getL 0 0 (bytesOf s)).1.toNat), 0)) (fun k => ?_) (Ev.now _)) (Ev.const rfl)
        simp only [num_Reader_Text.j0]
        rw [if_neg (by simp), if_pos trivial, if_pos v0, if_pos (by rw [strOfNums_size]; omega), str_part, str_from, bytes_str hb, List.drop_zero]
  · rw [if_neg he]
    have hv : ¬ (getL 0 0 (bytesOf s)).1 > 32768 := by
      rcases getL_err (bytesOf s) 0 0 with h | ⟨_, h, _⟩
      · exact absurd h he
      · rw [h]; omega
    refine Ev.bind (many _ (if_neg hv)) ?_
    simp only [if_neg he]
    exact bad _ _ _ he
theorem rgettext_ev (s : ByteArray) (hs : s.size ≤ 281474976710656) : Ev (fun k => spoorref01_GetText.f k s) (textS (textR (bytesOf s))) := by
  have hlen := getL_len (bytesOf s) 0 0
  rw [bytesOf_length] at hlen
  have hb := getL_bytes (bytesOf s) 0 0 (bytesOf_bytes s)
  obtain ⟨v0, v1⟩ := getL_val (bytesOf_bytes s)
  simp only [spoorref01_GetText.f]
  refine Ev.bind (rget_ev0 s hs) ?_
  unfold textR
  by_cases he : (getL 0 0 (bytesOf s)).2.2 = 0
  · rw [if_pos he]
    refine Ev.pos he ?_
    by_cases hv : (getL 0 0 (bytesOf s)).1 > 32768
    · rw [if_pos hv]
      exact Ev.pos hv (Ev.now _)
    · rw [if_neg hv]
      refine Ev.neg hv ?_
      simp only [getR, strOfNums_size]
      rw [u64w (by omega) (by omega)]
      by_cases hs2 : ((getL 0 0 (bytesOf s)).2.1.length : Int) < (getL 0 0 (bytesOf s)).1
      · simp only [if_pos hs2]
        exact Ev.now _
      · simp only [if_neg hs2]
        refine Ev.pos v0 (Ev.pos (by omega) (Ev.const ?_))
        rw [str_part, ← strOfNums_size, str_from, bytes_str hb, List.drop_zero]
        rfl
  · rw [if_neg he]
    exact Ev.neg he (Ev.now _)
end Go.Proofs.Ytnhkmhpibbmmnaa.Num
