-- Printed by this session's program wip/tools/mp.sh out of the translation.
import Derived.Test.YtnolpgphdnbfaaaQx0
import Derived.Test.YtnolpgphdnbfaaaQx3
import Derived.Test.YtnolpgphdnbfaaaQx4
namespace Go.Proofs.Ytnolpgphdnbfaaa.Q
open Go.RowKit Go.Proofs.YtnolpgphdnbfaaaW.PrintWords Go.Proofs.YtnolpgphdnbfaaaW.PrintLast Go.Proofs.YtnolpgphdnbfaaaW.PrintMore
attribute [local go_sem] max2_int min2_int max_two min_two max_three min_three max_four min_four   -- for this text's walks alone
set_option linter.unusedVariables false
set_option linter.unusedSimpArgs false

/-! ### cutter_Feed: function 7 -/
/-- A cutter at work at block g: its cells, and the pieces that it made. -/
def CutI (w0 W : World) (g : Nat) (cs : Array Value) (v : Value) (out : List S38) : Prop :=
  W.heap[g]? = some (.cells cs 43 (0, 0)) ∧ w0.heap.size ≤ g ∧ Kd.R k38 38 W w0.heap.size (fun k => k ≠ g) v out ∧ Below w0.heap.size w0 W
theorem CutI.set {w0 W : World} {g : Nat} {cs : Array Value} {v : Value} {out : List S38} (h : CutI w0 W g cs v out) (j : Nat) (u : Value) {cs' : Array Value} (e : cs.setIfInBounds j u = cs') : CutI w0 (W.setCell ⟨g, j, none⟩ u) g cs' v out := by
  obtain ⟨hb, hg, ho, hl⟩ := h
  refine ⟨e ▸ blk_set hb j u, hg, Kd.R_step ho (fun k hk _ => Below.heap_setCell W ⟨g, j, none⟩ u k hk), hl.setCell (p := ⟨g, j, none⟩) hg u⟩
theorem CutI.drewN {w0 W : World} {g : Nat} {cs : Array Value} {v : Value} {out : List S38} (h : CutI w0 W g cs v out) (n : Nat) : CutI w0 (W.drewN n) g cs v out :=
  ⟨h.1, h.2.1, Kd.R_drewN h.2.2.1 n, pw_below_drewN h.2.2.2 n⟩
theorem CutI.drew {w0 W : World} {g : Nat} {cs : Array Value} {v : Value} {out : List S38} (h : CutI w0 W g cs v out) : CutI w0 W.drew g cs v out := ⟨h.1, h.2.1, Kd.R_drew h.2.2.1, below_drew1 h.2.2.2⟩
theorem CutI.drawn {w0 W W' : World} {g : Nat} {cs : Array Value} {v : Value} {out : List S38} (h : CutI w0 W g cs v out) (hd : Drawn0 W W') : CutI w0 W' g cs v out := by
  obtain ⟨n, rfl⟩ := hd.out
  exact h.drewN n
/-- Another row was written, or made: the pieces'. -/
theorem CutI.app {w0 W W1 : World} {g : Nat} {cs : Array Value} {v v1 : Value} {out out1 : List S38} (h : CutI w0 W g cs v out) (hg : W.grownBy W1 v.ownBlock) (ho : Kd.R k38 38 W1 w0.heap.size (fun k => k ≠ g) v1 out1) (hb : Below w0.heap.size w0 W1) : CutI w0 W1 g cs v1 out1 := by
  obtain ⟨h1, h2, h3, h4⟩ := h
  exact ⟨blk_grown h1 hg (fun e => (h3.1 g e.symm) rfl), h2, ho, hb⟩
theorem CutI.lt {w0 W : World} {g : Nat} {cs : Array Value} {v : Value} {out : List S38} (h : CutI w0 W g cs v out) : g < W.heap.size := blk_lt h.1
set_option maxHeartbeats 1000000 in
theorem skip_is (g : Nat) (f0 : ByteArray) (f1 : Bool) (f2 : Int) (f3 : ByteArray) (v : Value) (out : List S38) (w0 w : World) (n : Nat) (hn : n ≤ f3.size) (hs : f3.size ≤ 4611686018427387904) (hf : 0 ≤ f2) (hf2 : f2 ≤ 4611686018427387904) (hm : (if (f3.size : Int) < f2 then (f3.size : Int) else f2) = (n : Int)) (hI : CutI w0 w g #[.string f0, .bool f1, .int .i64 f2, .string f3, v] v out) :
    Calls Try.prog 15 #[.pointer (some ⟨g, 0, none⟩)] w fun e w' => e = .returned (.tuple #[]) ∧ CutI w0 w' g #[.string f0, .bool f1, .int .i64 (f2 - n), .string (f3.extract n f3.size), v] v out := by
  have HI := Aside0.mk hI
  have HM := Aside0.mk hm
  have hc0 := (blk_cell hI.1 1).trans rfl
  have hc2 := (blk_cell hI.1 2).trans rfl
  have hc3 := (blk_cell hI.1 3).trans rfl
  have hf0_ := blk_frozen hI.1 2
  have hf3 := blk_frozen hI.1 3
  clear hI hm
  go_enter Try.func15, Try.ntmps15
  go_wp2
  repeat (go_quiet (fail); try go_wp2)
  · go_end0
    have e1 : f2 - (n : Int) = f2 - f3.size := by have := HM.out; rw [if_pos h] at this; omega
    have e2 : f3.extract n f3.size = ByteArray.empty := by have := HM.out; rw [if_pos h] at this; apply ByteArray.ext; simp; omega
    rw [e1, e2]
    exact ⟨rfl, ((HI.out.drewN nq).set 2 _ rfl).set 3 _ rfl⟩
  · go_end0
    have e1 : f2 - (n : Int) = 0 := by have := HM.out; rw [if_neg (by omega)] at this; omega
    have e2 : f2.toNat = n := by have := HM.out; rw [if_neg (by omega)] at this; omega
    rw [e1, ← e2]
    exact ⟨rfl, ((HI.out.drewN nq).set 2 _ rfl).set 3 _ rfl⟩
theorem CutI.cells {w0 W : World} {g : Nat} {cs : Array Value} {v : Value} {out : List S38} (h : CutI w0 W g cs v out) (j : Nat) : W.cell? ⟨g, j, none⟩ = cs[j]? := blk_cell h.1 j
set_option maxHeartbeats 1000000 in
theorem seek_is (g : Nat) (f0 : ByteArray) (f1 : Bool) (f2 : Int) (f3 : ByteArray) (v : Value) (out : List S38) (w0 w : World) (n : Int) (hn : idxByte f3 245 = n) (h0 : n ≠ 0) (hnl : n ≤ f3.size) (hs : f3.size ≤ 4611686018427387904) (hL : (out.length + 1) * 24 ≤ 140737488355328) (hI : CutI w0 w g #[.string f0, .bool f1, .int .i64 f2, .string f3, v] v out) :
    Calls Try.prog 16 #[.pointer (some ⟨g, 0, none⟩)] w fun e w' => e = .returned (.tuple #[]) ∧ ∃ v', CutI w0 w' g #[.string f0, .bool (decide (n < 0)), .int .i64 f2, .string (if n < 0 then ⟨#[]⟩ else f3.extract n.toNat f3.size), v'] v' (if f1 then out else out ++ [⟨2, ⟨#[]⟩⟩]) := by
  have HI := Aside0.mk hI
  have HN := Aside0.mk hn
  have HL := Aside0.mk hL
  have hc1 := (blk_cell hI.1 1).trans rfl
  have hc3 := (blk_cell hI.1 3).trans rfl
  have hf1 := blk_frozen hI.1 1
  have hf3 := blk_frozen hI.1 3
  clear hI hn hL
  have A3 : Aside0 (strings_IndexByte.f f3 245 = some n) := ⟨by rw [← HN.out]; rfl⟩
  have hc4 := (HI.out.cells 4).trans rfl
  have hf4 := blk_frozen HI.out.1 4
  have hf1' : w.frozen? ⟨g, 1, none⟩ = false := hf1
  cases f1
  · by_cases hneg : n < 0
    · have hd : decide (n < 0) = true := decide_eq_true hneg
      rw [if_pos hneg, hd]
      go_enter Try.func16, Try.ntmps16
      go_wp2_with (first | ((with_reducible refine gate_callee (f := 21) rfl ?_); refine goesL_ (some 7) rfl rfl Try.func21 (by kernel_rfl) rfl #[.string f3, .int .u8 245] rfl (by (try simp only [List.map_toArray, List.map_cons, List.map_nil]); first | done | rfl | (simp only [List.length_drop, List.length_take]; rfl)) ?_; (with_reducible refine (strings_IndexByte.calls f3 245 n _ A3.out).mono ?_); rintro e w' ⟨rfl, ⟨nd, rfl⟩⟩; refine ⟨_, rfl, ?_⟩) | ((with_reducible refine gate_builtin (b := .append) (xs := #[.tmp 26, .tmp 28]) rfl ?_); at_builtin; refine Kd.R_append k38 (w0 := w0) w0.heap.size rfl (.tmp 26) (.tmp 28) 24 38 (.agg #[(.int .u8 0), (.string ⟨#[]⟩)]) 24 rfl Try.underlying24 info38 rfl (by decide) (by omega) v out (⟨2, ⟨#[]⟩⟩ : S38) [.int .u8 2, .string ⟨#[]⟩] (fun k_ => k_ ≠ g) (fun _ => False) rfl ?aX ?aP (fun _ hk => hk.elim) ?aF ?aO ?aB ?aS ?aL ?_; (case aX => first | rfl | (go_simp; done) | (go_simp; rfl)); (case aP => exact k38_mkM _ _ _ _); (case aF => intro k_ hk_ he_; subst he_; exact absurd (CutI.lt ((HI.out.drewN nd).set 1 (.bool true) rfl)) (Nat.not_lt.2 hk_)); (case aO => exact ((HI.out.drewN nd).set 1 (.bool true) rfl).2.2.1); (case aB => exact ((HI.out.drewN nd).set 1 (.bool true) rfl).2.2.2); (case aS => exact ((HI.out.drewN nd).set 1 (.bool true) rfl).2.2.2.size); (case aL => exact HL.out); intro v1 w6 ho hb hg hat; obtain ⟨A1, c1, rfl⟩ := Kd.R_slice ho; rw [List.length_append, List.length_singleton] at ho hat; have HI6 := Aside0.mk (((HI.out.drewN nd).set 1 (.bool true) rfl).app hg ho hb); have hc64 := (HI6.out.cells 4).trans rfl; have hc63 := (HI6.out.cells 3).trans rfl; have hc62 := (HI6.out.cells 2).trans rfl; have hc61 := (HI6.out.cells 1).trans rfl; have hc60 := (HI6.out.cells 0).trans rfl; have hf64 := blk_frozen HI6.out.1 4; have hf63 := blk_frozen HI6.out.1 3; have hf62 := blk_frozen HI6.out.1 2; have hf61 := blk_frozen HI6.out.1 1; clear ho hb hg hat))
      first | go_end0 | ((try simp only [Exit.inBlock, Exit.then]); refine bodyPost_ret (results_none rfl _ _ _) rfl ?_)
      refine ⟨rfl, .slice A1 (out.length + 1) c1, ?_⟩
      exact (HI6.out.set 4 (.slice A1 (out.length + 1) c1) rfl).set 3 _ rfl
    · have hd : decide (n < 0) = false := decide_eq_false hneg
      have p0 : 0 ≤ n := by omega
      have pi0 := eq_true p0
      have pl0 := eq_true hnl
      rw [if_neg hneg, hd]
      go_enter Try.func16, Try.ntmps16
      go_wp2_with (first | ((with_reducible refine gate_callee (f := 21) rfl ?_); refine goesL_ (some 7) rfl rfl Try.func21 (by kernel_rfl) rfl #[.string f3, .int .u8 245] rfl (by (try simp only [List.map_toArray, List.map_cons, List.map_nil]); first | done | rfl | (simp only [List.length_drop, List.length_take]; rfl)) ?_; (with_reducible refine (strings_IndexByte.calls f3 245 n _ A3.out).mono ?_); rintro e w' ⟨rfl, ⟨nd, rfl⟩⟩; refine ⟨_, rfl, ?_⟩) | ((with_reducible refine gate_builtin (b := .append) (xs := #[.tmp 26, .tmp 28]) rfl ?_); at_builtin; refine Kd.R_append k38 (w0 := w0) w0.heap.size rfl (.tmp 26) (.tmp 28) 24 38 (.agg #[(.int .u8 0), (.string ⟨#[]⟩)]) 24 rfl Try.underlying24 info38 rfl (by decide) (by omega) v out (⟨2, ⟨#[]⟩⟩ : S38) [.int .u8 2, .string ⟨#[]⟩] (fun k_ => k_ ≠ g) (fun _ => False) rfl ?aX ?aP (fun _ hk => hk.elim) ?aF ?aO ?aB ?aS ?aL ?_; (case aX => first | rfl | (go_simp; done) | (go_simp; rfl)); (case aP => exact k38_mkM _ _ _ _); (case aF => intro k_ hk_ he_; subst he_; exact absurd (CutI.lt ((HI.out.drewN nd).set 1 (.bool true) rfl)) (Nat.not_lt.2 hk_)); (case aO => exact ((HI.out.drewN nd).set 1 (.bool true) rfl).2.2.1); (case aB => exact ((HI.out.drewN nd).set 1 (.bool true) rfl).2.2.2); (case aS => exact ((HI.out.drewN nd).set 1 (.bool true) rfl).2.2.2.size); (case aL => exact HL.out); intro v1 w6 ho hb hg hat; obtain ⟨A1, c1, rfl⟩ := Kd.R_slice ho; rw [List.length_append, List.length_singleton] at ho hat; have HI6 := Aside0.mk (((HI.out.drewN nd).set 1 (.bool true) rfl).app hg ho hb); have hc64 := (HI6.out.cells 4).trans rfl; have hc63 := (HI6.out.cells 3).trans rfl; have hc62 := (HI6.out.cells 2).trans rfl; have hc61 := (HI6.out.cells 1).trans rfl; have hc60 := (HI6.out.cells 0).trans rfl; have hf64 := blk_frozen HI6.out.1 4; have hf63 := blk_frozen HI6.out.1 3; have hf62 := blk_frozen HI6.out.1 2; have hf61 := blk_frozen HI6.out.1 1; clear ho hb hg hat))
      first | go_end0 | ((try simp only [Exit.inBlock, Exit.then]); refine bodyPost_ret (results_none rfl _ _ _) rfl ?_)
      refine ⟨rfl, .slice A1 (out.length + 1) c1, ?_⟩
      exact ((HI6.out.set 4 (.slice A1 (out.length + 1) c1) rfl).set 1 (.bool false) rfl).set 3 _ rfl
  · by_cases hneg : n < 0
    · have hd : decide (n < 0) = true := decide_eq_true hneg
      rw [if_pos hneg, hd]
      go_enter Try.func16, Try.ntmps16
      go_wp2_with (first | ((with_reducible refine gate_callee (f := 21) rfl ?_); refine goesL_ (some 7) rfl rfl Try.func21 (by kernel_rfl) rfl #[.string f3, .int .u8 245] rfl (by (try simp only [List.map_toArray, List.map_cons, List.map_nil]); first | done | rfl | (simp only [List.length_drop, List.length_take]; rfl)) ?_; (with_reducible refine (strings_IndexByte.calls f3 245 n _ A3.out).mono ?_); rintro e w' ⟨rfl, ⟨nd, rfl⟩⟩; refine ⟨_, rfl, ?_⟩))
      first | go_end0 | ((try simp only [Exit.inBlock, Exit.then]); refine bodyPost_ret (results_none rfl _ _ _) rfl ?_)
      exact ⟨rfl, v, (HI.out.drewN nd).set 3 _ rfl⟩
    · have hd : decide (n < 0) = false := decide_eq_false hneg
      have p0 : 0 ≤ n := by omega
      have pi0 := eq_true p0
      have pl0 := eq_true hnl
      rw [if_neg hneg, hd]
      go_enter Try.func16, Try.ntmps16
      go_wp2_with (first | ((with_reducible refine gate_callee (f := 21) rfl ?_); refine goesL_ (some 7) rfl rfl Try.func21 (by kernel_rfl) rfl #[.string f3, .int .u8 245] rfl (by (try simp only [List.map_toArray, List.map_cons, List.map_nil]); first | done | rfl | (simp only [List.length_drop, List.length_take]; rfl)) ?_; (with_reducible refine (strings_IndexByte.calls f3 245 n _ A3.out).mono ?_); rintro e w' ⟨rfl, ⟨nd, rfl⟩⟩; refine ⟨_, rfl, ?_⟩))
      first | go_end0 | ((try simp only [Exit.inBlock, Exit.then]); refine bodyPost_ret (results_none rfl _ _ _) rfl ?_)
      exact ⟨rfl, v, ((HI.out.drewN nd).set 1 (.bool false) rfl).set 3 _ rfl⟩
set_option maxHeartbeats 1000000 in
theorem take_few (g : Nat) (f0 : ByteArray) (f1 : Bool) (f2 : Int) (f3 : ByteArray) (v : Value) (out : List S38) (w0 w : World) (hs : (f3.size : Int) < 3) (hI : CutI w0 w g #[.string f0, .bool f1, .int .i64 f2, .string f3, v] v out) :
    Calls Try.prog 17 #[.pointer (some ⟨g, 0, none⟩)] w fun e w' => e = .returned (.tuple #[]) ∧ ∃ v', CutI w0 w' g #[.string f3, .bool f1, .int .i64 f2, .string ⟨#[]⟩, v'] v' (out) := by
  have HI := Aside0.mk hI
  have hc0 := (blk_cell hI.1 0).trans rfl
  have hf0 := blk_frozen hI.1 0
  have hc1 := (blk_cell hI.1 1).trans rfl
  have hf1 := blk_frozen hI.1 1
  have hc2 := (blk_cell hI.1 2).trans rfl
  have hf2 := blk_frozen hI.1 2
  have hc3 := (blk_cell hI.1 3).trans rfl
  have hf3 := blk_frozen hI.1 3
  have hc4 := (blk_cell hI.1 4).trans rfl
  have hf4 := blk_frozen hI.1 4
  clear hI
  have hd := decide_eq_true hs
  go_enter Try.func17, Try.ntmps17
  go_wp2
  first | go_end0 | ((try simp only [Exit.inBlock, Exit.then]); refine bodyPost_ret (results_none rfl _ _ _) rfl ?_)
  exact ⟨rfl, v, (HI.out.set 0 _ rfl).set 3 _ rfl⟩
set_option maxHeartbeats 1000000 in
theorem take_long (g : Nat) (f0 : ByteArray) (f1 : Bool) (f2 : Int) (f3 : ByteArray) (v : Value) (out : List S38) (w0 w : World) (n : Int) (hn : cutter_long.f f3 = some n) (hs : 3 ≤ (f3.size : Int)) (hf : cutter_fit.f n = some false) (hL : (out.length + 1) * 24 ≤ 140737488355328) (hI : CutI w0 w g #[.string f0, .bool f1, .int .i64 f2, .string f3, v] v out) :
    Calls Try.prog 17 #[.pointer (some ⟨g, 0, none⟩)] w fun e w' => e = .returned (.tuple #[]) ∧ ∃ v', CutI w0 w' g #[.string f0, .bool f1, .int .i64 n, .string (f3.extract 3 f3.size), v'] v' (out ++ [⟨3, ⟨#[]⟩⟩]) := by
  have HI := Aside0.mk hI
  have hc0 := (blk_cell hI.1 0).trans rfl
  have hf0 := blk_frozen hI.1 0
  have hc1 := (blk_cell hI.1 1).trans rfl
  have hf1 := blk_frozen hI.1 1
  have hc2 := (blk_cell hI.1 2).trans rfl
  have hf2 := blk_frozen hI.1 2
  have hc3 := (blk_cell hI.1 3).trans rfl
  have hf3 := blk_frozen hI.1 3
  have hc4 := (blk_cell hI.1 4).trans rfl
  have hf4 := blk_frozen hI.1 4
  clear hI
  have hd : decide ((f3.size : Int) < 3) = false := decide_eq_false (by omega)
  have HL := Aside0.mk hL
  have AL := Aside0.mk hn
  have AF := Aside0.mk hf
  have hs1 := eq_true hs
  clear hL hn hf
  go_enter Try.func17, Try.ntmps17
  go_wp2_with (first | ((with_reducible refine gate_callee (f := 22) rfl ?_); refine goesL_ (some 20) rfl rfl Try.func22 (by kernel_rfl) rfl #[.string f3] rfl (by (try simp only [List.map_toArray, List.map_cons, List.map_nil]); first | done | rfl | (simp only [List.length_drop, List.length_take]; rfl)) ?_; (with_reducible refine (cutter_long.calls f3 n _ AL.out).mono ?_); rintro e w' ⟨rfl, ⟨nd22, rfl⟩⟩; refine ⟨_, rfl, ?_⟩) | ((with_reducible refine gate_callee (f := 19) rfl ?_); refine goesL_ (some 44) rfl rfl Try.func19 (by kernel_rfl) rfl #[.int .i64 n] rfl (by (try simp only [List.map_toArray, List.map_cons, List.map_nil]); first | done | rfl | (simp only [List.length_drop, List.length_take]; rfl)) ?_; (with_reducible refine (cutter_fit.calls n false _ AF.out).mono ?_); rintro e w' ⟨rfl, ⟨nd19, rfl⟩⟩; refine ⟨_, rfl, ?_⟩) | ((with_reducible refine gate_builtin (b := .append) (xs := #[.tmp 50, .tmp 52]) rfl ?_); at_builtin; refine Kd.R_append k38 (w0 := w0) w0.heap.size rfl (.tmp 50) (.tmp 52) 24 38 (.agg #[(.int .u8 0), (.string ⟨#[]⟩)]) 24 rfl Try.underlying24 info38 rfl (by decide) (by omega) v out (⟨3, ⟨#[]⟩⟩ : S38) [.int .u8 3, .string ⟨#[]⟩] (fun k_ => k_ ≠ g) (fun _ => False) rfl ?aX ?aP (fun _ hk => hk.elim) ?aF ?aO ?aB ?aS ?aL ?_; (case aX => first | rfl | (go_simp; done) | (go_simp; rfl)); (case aP => exact k38_mkM _ _ _ _); (case aF => intro k_ hk_ he_; subst he_; exact absurd (CutI.lt ((HI.out.drewN (nd22 + nd19)))) (Nat.not_lt.2 hk_)); (case aO => exact ((HI.out.drewN (nd22 + nd19))).2.2.1); (case aB => exact ((HI.out.drewN (nd22 + nd19))).2.2.2); (case aS => exact ((HI.out.drewN (nd22 + nd19))).2.2.2.size); (case aL => exact HL.out); intro v1 w6 ho hb hg hat; obtain ⟨A1, c1, rfl⟩ := Kd.R_slice ho; rw [List.length_append, List.length_singleton] at ho hat; have HI6 := Aside0.mk (((HI.out.drewN (nd22 + nd19))).app hg ho hb); have hc64 := (HI6.out.cells 4).trans rfl; have hc63 := (HI6.out.cells 3).trans rfl; have hc62 := (HI6.out.cells 2).trans rfl; have hc61 := (HI6.out.cells 1).trans rfl; have hc60 := (HI6.out.cells 0).trans rfl; have hf64 := blk_frozen HI6.out.1 4; have hf63 := blk_frozen HI6.out.1 3; have hf62 := blk_frozen HI6.out.1 2; have hf61 := blk_frozen HI6.out.1 1; clear ho hb hg hat))
  have HI7 := Aside0.mk (HI6.out.set 4 (.slice A1 (out.length + 1) c1) rfl)
  clear hc60 hc61 hc62 hc63 hc64 hf61 hf62 hf63 hf64 HI6 HI hc0 hc1 hc2 hc3 hc4 hf0 hf1 hf2 hf3 hf4
  generalize w6.setCell ⟨g, 4, none⟩ (.slice A1 (out.length + 1) c1) = w7 at HI7 ⊢
  have hc0 := (HI7.out.cells 0).trans rfl
  have hc2 := (HI7.out.cells 2).trans rfl
  have hc3 := (HI7.out.cells 3).trans rfl
  have hf0 := blk_frozen HI7.out.1 0
  have hf2 := blk_frozen HI7.out.1 2
  have hf3 := blk_frozen HI7.out.1 3
  go_region
  first | go_end0 | ((try simp only [Exit.inBlock, Exit.then]); refine bodyPost_ret (results_none rfl _ _ _) rfl ?_)
  exact ⟨rfl, .slice A1 (out.length + 1) c1, ((HI7.out.set 2 _ rfl).set 3 _ rfl).drew⟩
set_option maxHeartbeats 1000000 in
theorem take_short (g : Nat) (f0 : ByteArray) (f1 : Bool) (f2 : Int) (f3 : ByteArray) (v : Value) (out : List S38) (w0 w : World) (n : Int) (hn : cutter_long.f f3 = some n) (hs : 3 ≤ (f3.size : Int)) (hsz : f3.size ≤ 4611686018427387904) (hf : cutter_fit.f n = some true) (hlt : (f3.size : Int) - 3 < n) (hI : CutI w0 w g #[.string f0, .bool f1, .int .i64 f2, .string f3, v] v out) :
    Calls Try.prog 17 #[.pointer (some ⟨g, 0, none⟩)] w fun e w' => e = .returned (.tuple #[]) ∧ ∃ v', CutI w0 w' g #[.string f3, .bool f1, .int .i64 f2, .string ⟨#[]⟩, v'] v' (out) := by
  have HI := Aside0.mk hI
  have hc0 := (blk_cell hI.1 0).trans rfl
  have hf0 := blk_frozen hI.1 0
  have hc1 := (blk_cell hI.1 1).trans rfl
  have hf1 := blk_frozen hI.1 1
  have hc2 := (blk_cell hI.1 2).trans rfl
  have hf2 := blk_frozen hI.1 2
  have hc3 := (blk_cell hI.1 3).trans rfl
  have hf3 := blk_frozen hI.1 3
  have hc4 := (blk_cell hI.1 4).trans rfl
  have hf4 := blk_frozen hI.1 4
  clear hI
  have hd : decide ((f3.size : Int) < 3) = false := decide_eq_false (by omega)
  have AL := Aside0.mk hn
  have AF := Aside0.mk hf
  have hd2 := decide_eq_true hlt
  clear hn hf
  go_enter Try.func17, Try.ntmps17
  go_wp2_with (first | ((with_reducible refine gate_callee (f := 22) rfl ?_); refine goesL_ (some 20) rfl rfl Try.func22 (by kernel_rfl) rfl #[.string f3] rfl (by (try simp only [List.map_toArray, List.map_cons, List.map_nil]); first | done | rfl | (simp only [List.length_drop, List.length_take]; rfl)) ?_; (with_reducible refine (cutter_long.calls f3 n _ AL.out).mono ?_); rintro e w' ⟨rfl, ⟨nd22, rfl⟩⟩; refine ⟨_, rfl, ?_⟩) | ((with_reducible refine gate_callee (f := 19) rfl ?_); refine goesL_ (some 44) rfl rfl Try.func19 (by kernel_rfl) rfl #[.int .i64 n] rfl (by (try simp only [List.map_toArray, List.map_cons, List.map_nil]); first | done | rfl | (simp only [List.length_drop, List.length_take]; rfl)) ?_; (with_reducible refine (cutter_fit.calls n true _ AF.out).mono ?_); rintro e w' ⟨rfl, ⟨nd19, rfl⟩⟩; refine ⟨_, rfl, ?_⟩))
  first | go_end0 | ((try simp only [Exit.inBlock, Exit.then]); refine bodyPost_ret (results_none rfl _ _ _) rfl ?_)
  exact ⟨rfl, v, ((HI.out.drewN _).set 0 _ rfl).set 3 _ rfl⟩
set_option maxHeartbeats 1000000 in
theorem take_body (g : Nat) (f0 : ByteArray) (f1 : Bool) (f2 : Int) (f3 : ByteArray) (v : Value) (out : List S38) (w0 w : World) (n : Int) (hn : cutter_long.f f3 = some n) (hs : 3 ≤ (f3.size : Int)) (hsz : f3.size ≤ 4611686018427387904) (hf : cutter_fit.f n = some true) (hn0 : 0 ≤ n) (hlt : 3 + n ≤ (f3.size : Int)) (hL : (out.length + 1) * 24 ≤ 140737488355328) (hI : CutI w0 w g #[.string f0, .bool f1, .int .i64 f2, .string f3, v] v out) :
    Calls Try.prog 17 #[.pointer (some ⟨g, 0, none⟩)] w fun e w' => e = .returned (.tuple #[]) ∧ ∃ v', CutI w0 w' g #[.string f0, .bool f1, .int .i64 f2, .string (f3.extract (3 + n).toNat f3.size), v'] v' (out ++ [⟨1, f3.extract 3 (3 + n).toNat⟩]) := by
  have HI := Aside0.mk hI
  have hc0 := (blk_cell hI.1 0).trans rfl
  have hf0 := blk_frozen hI.1 0
  have hc1 := (blk_cell hI.1 1).trans rfl
  have hf1 := blk_frozen hI.1 1
  have hc2 := (blk_cell hI.1 2).trans rfl
  have hf2 := blk_frozen hI.1 2
  have hc3 := (blk_cell hI.1 3).trans rfl
  have hf3 := blk_frozen hI.1 3
  have hc4 := (blk_cell hI.1 4).trans rfl
  have hf4 := blk_frozen hI.1 4
  clear hI
  have hd : decide ((f3.size : Int) < 3) = false := decide_eq_false (by omega)
  have HL := Aside0.mk hL
  have AL := Aside0.mk hn
  have AF := Aside0.mk hf
  have hd2 : decide ((f3.size : Int) - 3 < n) = false := decide_eq_false (by omega)
  clear hL hn hf
  go_enter Try.func17, Try.ntmps17
  go_wp2_with (first | ((with_reducible refine gate_callee (f := 22) rfl ?_); refine goesL_ (some 20) rfl rfl Try.func22 (by kernel_rfl) rfl #[.string f3] rfl (by (try simp only [List.map_toArray, List.map_cons, List.map_nil]); first | done | rfl | (simp only [List.length_drop, List.length_take]; rfl)) ?_; (with_reducible refine (cutter_long.calls f3 n _ AL.out).mono ?_); rintro e w' ⟨rfl, ⟨nd22, rfl⟩⟩; refine ⟨_, rfl, ?_⟩) | ((with_reducible refine gate_callee (f := 19) rfl ?_); refine goesL_ (some 44) rfl rfl Try.func19 (by kernel_rfl) rfl #[.int .i64 n] rfl (by (try simp only [List.map_toArray, List.map_cons, List.map_nil]); first | done | rfl | (simp only [List.length_drop, List.length_take]; rfl)) ?_; (with_reducible refine (cutter_fit.calls n true _ AF.out).mono ?_); rintro e w' ⟨rfl, ⟨nd19, rfl⟩⟩; refine ⟨_, rfl, ?_⟩))
  have HI7 := Aside0.mk (HI.out.drewN (nd22 + nd19))
  clear HI hc0 hc1 hc2 hc3 hc4 hf0 hf1 hf2 hf3 hf4
  generalize w.drewN (nd22 + nd19) = w7 at HI7 ⊢
  have HI8 := Aside0.mk HI7.out.drew
  have hc3 := (HI7.out.cells 3).trans rfl
  have hc4 := (HI7.out.cells 4).trans rfl
  have hf3 := blk_frozen HI7.out.1 3
  have hf4 := blk_frozen HI7.out.1 4
  have hca : (w7.alloc (.cells #[.int .u8 1, .string (f3.extract 3 (3 + n).toNat)] 38)).cell? ⟨g, 4, none⟩ = some v := (blk_cell (blk_alloc HI7.out.1 _) 4).trans rfl
  have hw3 : Go.IntKind.i64.wrap (3 + n) = 3 + n := by rw [i64_w]; unfold wrap64; omega
  have q1 : (3 : Int) ≤ 3 + n := by omega
  have q1_ := eq_true q1
  have q2_ := eq_true hlt
  go_region_law (refine Kd.R_append_step k38 (w0 := w0) w0.heap.size rfl (.tmp 25) (.tmp 31) 24 38 (.agg #[(.int .u8 0), (.string ⟨#[]⟩)]) 24 rfl Try.underlying24 info38 rfl (by decide) (by omega) v out (⟨1, f3.extract 3 (3 + n).toNat⟩ : S38) [.int .u8 1, .string (f3.extract 3 (3 + n).toNat)] (fun k_ => k_ ≠ g) (fun _ => False) rfl rfl (k38_mkM _ _ _ _) (fun _ hk => hk.elim) ?aF HI8.out.2.2.1 HI8.out.2.2.2 HI8.out.2.2.2.size HL.out ?_; (case aF => intro k_ hk_ he_; subst he_; exact absurd (CutI.lt HI8.out) (Nat.not_lt.2 hk_)); intro v1 w6 ho hb hg hat; obtain ⟨A1, c1, rfl⟩ := Kd.R_slice ho; rw [List.length_append, List.length_singleton] at ho hat; have HI6 := Aside0.mk (HI8.out.app hg ho hb); have hc64 := (HI6.out.cells 4).trans rfl; have hf64 := blk_frozen HI6.out.1 4; clear ho hb hg hat)
  all_goals
    have HI9 := Aside0.mk (HI6.out.set 4 (.slice A1 (out.length + 1) c1) rfl)
    clear hc64 hf64 HI6 HI7 HI8 hc3 hc4 hf3 hf4 hca
    generalize w6.setCell ⟨g, 4, none⟩ (.slice A1 (out.length + 1) c1) = w9 at HI9 ⊢
    have hc3 := (HI9.out.cells 3).trans rfl
    have hf3 := blk_frozen HI9.out.1 3
    have q3_ : (0 ≤ 3 + n) = True := eq_true (by omega)
    go_wp2
    first | go_end0 | ((try simp only [Exit.inBlock, Exit.then]); refine bodyPost_ret (results_none rfl _ _ _) rfl ?_)
    exact ⟨rfl, .slice A1 (out.length + 1) c1, HI9.out.set 3 _ rfl⟩

theorem cut_away {W : World} {base b : Nat} {ok : Nat → Prop} {v : Value} {out : List S38} (h : Kd.R k38 38 W base ok v out) (hok : ∀ k, ok k → k ≠ b) (j : Nat) (u : Value) : Kd.R k38 38 (W.setCell ⟨b, j, none⟩ u) base ok v out := Kd.R_step h (fun k hk _ => Below.heap_setCell W ⟨b, j, none⟩ u k (hok k hk))
theorem toList_nil_iff (s : ByteArray) : s.toList = [] ↔ s.size = 0 := by
  rw [ByteArray.toList_eq, ← List.length_eq_zero_iff, Array.length_toList]
  rfl

def cutter_Feed.l0 : Nat → ByteArray → Bool → Int → ByteArray → List S38 → Option (ByteArray × Bool × Int × List S38 × Int)
  | 0, _, _, _, _, _ => none
  | k + 1, x0, x1, x2, x3, xo =>
    if ¬ (x3.size ≤ 4611686018427387904 ∧ 0 ≤ x2 ∧ x2 ≤ 4611686018427387904 ∧ (xo.length + 1) * 24 ≤ 140737488355328) then none
    else if x3.size = 0 then some (x0, x1, x2, xo, 0)
    else if x2 > 0 then cutter_Feed.l0 k x0 x1 (x2 - (min x3.size x2.toNat : Nat)) (x3.extract (min x3.size x2.toNat) x3.size) xo
    else if bt x3 0 ≠ 245 then
      (if idxByte x3 245 ≠ 0 ∧ idxByte x3 245 ≤ x3.size then cutter_Feed.l0 k x0 (decide (idxByte x3 245 < 0)) x2 (if idxByte x3 245 < 0 then ⟨#[]⟩ else x3.extract (idxByte x3 245).toNat x3.size) (if x1 then xo else xo ++ [⟨2, ⟨#[]⟩⟩]) else none)
    else if (x3.size : Int) < 3 then cutter_Feed.l0 k x3 false x2 ⟨#[]⟩ xo
    else (cutter_long.f x3).bind fun n => (cutter_fit.f n).bind fun t =>
      if t = false then cutter_Feed.l0 k x0 false n (x3.extract 3 x3.size) (xo ++ [⟨3, ⟨#[]⟩⟩])
      else if (x3.size : Int) - 3 < n then cutter_Feed.l0 k x3 false x2 ⟨#[]⟩ xo
      else if 0 ≤ n then cutter_Feed.l0 k x0 false x2 (x3.extract (3 + n).toNat x3.size) (xo ++ [⟨1, x3.extract 3 (3 + n).toNat⟩])
      else none
theorem cutter_Feed.l0_mono : ∀ k x0 x1 x2 x3 xo, LeO (cutter_Feed.l0 k x0 x1 x2 x3 xo) (cutter_Feed.l0 (k + 1) x0 x1 x2 x3 xo)
  | 0, _, _, _, _, _ => fun r h => by simp [cutter_Feed.l0] at h
  | k + 1, x0, x1, x2, x3, xo => by
    have ih := cutter_Feed.l0_mono k
    unfold cutter_Feed.l0
    repeat' first
      | (with_reducible exact ih _ _ _ _ _)
      | (with_reducible exact LeO.refl _)
      | (with_reducible exact LeO.none _)
      | (with_reducible refine LeO.ite ?_ ?_)
      | (with_reducible refine LeO.bind ?_ (fun _ => ?_))
def cutter_Feed.f (k : Nat) (a0_0 : ByteArray) (a0_1 : Bool) (a0_2 : Int) (a1 : ByteArray) : Option (ByteArray × Bool × Int × List S38 × Int) :=
  (cutter_Check.f a0_0 a0_1 a0_2).bind fun t => if t = 0 then (if a1.size = 0 then some (a0_0, a0_1, a0_2, [], 0) else if a0_0.size + a1.size ≤ 9223372036854775807 then cutter_Feed.l0 k ⟨#[]⟩ a0_1 a0_2 (a0_0 ++ a1) [] else none) else some (⟨#[]⟩, false, 0, [], t)

theorem cutter_Feed.mono : ∀ a0 a1 a2 a3 k, LeO (cutter_Feed.f k a0 a1 a2 a3) (cutter_Feed.f (k + 1) a0 a1 a2 a3) := by
  intro a0 a1 a2 a3 k
  unfold cutter_Feed.f
  repeat' first
    | (with_reducible exact cutter_Feed.l0_mono _ _ _ _ _ _)
    | (with_reducible exact LeO.refl _)
    | (with_reducible exact LeO.none _)
    | (with_reducible refine LeO.ite ?_ ?_)
    | (with_reducible refine LeO.bind ?_ (fun _ => ?_))
set_option maxHeartbeats 8000000 in
set_option maxRecDepth 100000 in
theorem cutter_Feed.calls (k : Nat) (a0_0 : ByteArray) (a0_1 : Bool) (a0_2 : Int) (a1 : ByteArray) (r1 : ByteArray) (r2 : Bool) (r3 : Int) (r4 : List (S38)) (r5 : Int) (w : World) (h : cutter_Feed.f k a0_0 a0_1 a0_2 a1 = some (r1, r2, r3, r4, r5)) :
    Calls Try.prog 7 #[.agg #[.string a0_0, .bool a0_1, .int .i64 a0_2], .string a1] w fun e w' => ∃ v3_ : Value, e = .returned (.tuple #[.agg #[.string r1, .bool r2, .int .i64 r3], v3_, .int .i64 r5]) ∧ Kd.R k38 38 w' w.heap.size (fun _ => True) v3_ r4 ∧ Below w.heap.size w w' := by
  have hu23 := Try.underlying23
  have hu43 := Try.underlying43
  have HB := Aside0.mk (Below.refl w.heap.size w)
  obtain ⟨t, A0, H⟩ := Option.bind_eq_some_iff.mp h
  have A := Aside0.mk A0
  clear h A0
  by_cases c : t = 0
  · rw [if_pos c] at H
    subst c
    by_cases c1 : a1.size = 0
    · rw [if_pos c1] at H
      simp only [Option.some.injEq, Prod.mk.injEq] at H
      obtain ⟨rfl, rfl, rfl, rfl, rfl⟩ := H
      have c2 : (a1.toList == ([] : List UInt8)) = true := by rw [(toList_nil_iff a1).2 c1]; rfl
      go_enter Try.func7, Try.ntmps7
      go_wp2_with (first | ((with_reducible refine gate_callee (f := 12) rfl ?_); refine goesL_ (some 10) rfl rfl Try.func12 (by kernel_rfl) rfl #[.agg #[.string a0_0, .bool a0_1, .int .i64 a0_2]] rfl (by (try simp only [List.map_toArray, List.map_cons, List.map_nil]); first | done | rfl | (simp only [List.length_drop, List.length_take]; rfl)) ?_; (with_reducible refine (cutter_Check.calls a0_0 a0_1 a0_2 0 _ A.out).mono ?_); rintro e w5 ⟨rfl, hb⟩; refine ⟨_, rfl, ?_⟩; have BK2 := Aside0.mk (blk_below (g := w.heap.size) (o := .cells #[.string a0_0, .bool a0_1, .int .i64 a0_2] 23 (0, 0)) (blk_alloc (heap_alloc_new w _) _) hb); have BK4 := Aside0.mk (blk_below (g := w.heap.size + 1) (o := .cells #[.string ⟨#[]⟩, .bool false, .int .i64 0] 23 (0, 0)) (by simpa using heap_alloc_new (w.alloc (.cells #[.string a0_0, .bool a0_1, .int .i64 a0_2] 23)) (.cells #[.string ⟨#[]⟩, .bool false, .int .i64 0] 23)) hb); have HB5 := Aside0.mk (below_then (below_alloc (below_alloc (Below.refl w.heap.size w) _) _) (by simp; omega) hb); have HS5 := Aside0.mk hb.size; clear hb; have hc20 := (blk_cell BK2.out 0).trans rfl; have hc21 := (blk_cell BK2.out 1).trans rfl; have hc22 := (blk_cell BK2.out 2).trans rfl; have hc40 := (blk_cell BK4.out 0).trans rfl; have hc41 := (blk_cell BK4.out 1).trans rfl; have hc42 := (blk_cell BK4.out 2).trans rfl; have hf40 := blk_frozen BK4.out 0; have hf41 := blk_frozen BK4.out 1; have hf42 := blk_frozen BK4.out 2))
      refine bodyPost_ret (results_ctt rfl _ _ (w.heap.size + 1) 23 #[.string a0_0, .bool a0_1, .int .i64 a0_2] (0, 0) _ rfl (blk_put (blk_put (blk_put BK4.out 0 _ rfl) 1 _ rfl) 2 _ rfl) Try.underlying23 rfl (by kernel_rfl)) rfl ?_
      exact ⟨_, rfl, Kd.R_nil _ _ _ _ _, (((HB5.out).setCell (p := ⟨w.heap.size + 1, 0, none⟩) (Nat.le_succ _) _).setCell (p := ⟨w.heap.size + 1, 1, none⟩) (Nat.le_succ _) _).setCell (p := ⟨w.heap.size + 1, 2, none⟩) (Nat.le_succ _) _⟩
    · rw [if_neg c1] at H
      by_cases c3 : a0_0.size + a1.size ≤ 9223372036854775807
      · rw [if_pos c3] at H
        have H' := Aside0.mk H
        clear H
        have c4b0 := eq_true c3
        have c4b1 : decide (a0_0.size + a1.size ≤ 9223372036854775807) = true := decide_eq_true c3
        have c2 : (a1.toList == ([] : List UInt8)) = false := beq_eq_false_iff_ne.mpr (fun e => c1 ((toList_nil_iff a1).1 e))
        go_enter Try.func7, Try.ntmps7
        go_wp2_with (first | ((with_reducible refine gate_callee (f := 12) rfl ?_); refine goesL_ (some 10) rfl rfl Try.func12 (by kernel_rfl) rfl #[.agg #[.string a0_0, .bool a0_1, .int .i64 a0_2]] rfl (by (try simp only [List.map_toArray, List.map_cons, List.map_nil]); first | done | rfl | (simp only [List.length_drop, List.length_take]; rfl)) ?_; (with_reducible refine (cutter_Check.calls a0_0 a0_1 a0_2 0 _ A.out).mono ?_); rintro e w5 ⟨rfl, hb⟩; refine ⟨_, rfl, ?_⟩; have BK2 := Aside0.mk (blk_below (g := w.heap.size) (o := .cells #[.string a0_0, .bool a0_1, .int .i64 a0_2] 23 (0, 0)) (blk_alloc (heap_alloc_new w _) _) hb); have BK4 := Aside0.mk (blk_below (g := w.heap.size + 1) (o := .cells #[.string ⟨#[]⟩, .bool false, .int .i64 0] 23 (0, 0)) (by simpa using heap_alloc_new (w.alloc (.cells #[.string a0_0, .bool a0_1, .int .i64 a0_2] 23)) (.cells #[.string ⟨#[]⟩, .bool false, .int .i64 0] 23)) hb); have HB5 := Aside0.mk (below_then (below_alloc (below_alloc (Below.refl w.heap.size w) _) _) (by simp; omega) hb); have HS5 := Aside0.mk hb.size; clear hb; have hc20 := (blk_cell BK2.out 0).trans rfl; have hc21 := (blk_cell BK2.out 1).trans rfl; have hc22 := (blk_cell BK2.out 2).trans rfl; have hc40 := (blk_cell BK4.out 0).trans rfl; have hc41 := (blk_cell BK4.out 1).trans rfl; have hc42 := (blk_cell BK4.out 2).trans rfl; have hf40 := blk_frozen BK4.out 0; have hf41 := blk_frozen BK4.out 1; have hf42 := blk_frozen BK4.out 2))

        have HI0 : Aside0 (CutI w5 (w5.alloc (.cells #[.string ⟨#[]⟩, .bool a0_1, .int .i64 a0_2, .string (a0_0 ++ a1), .slice none 0 0] 43)) w5.heap.size #[.string ⟨#[]⟩, .bool a0_1, .int .i64 a0_2, .string (a0_0 ++ a1), .slice none 0 0] (.slice none 0 0) []) := ⟨heap_alloc_new _ _, Nat.le_refl _, Kd.R_nil _ _ _ _ _, below_alloc (Below.refl _ _) _⟩
        clear hc20 hc21 hc22 hc40 hc41 hc42 hf40 hf41 hf42 c2 c3 c4b0 c4b1 c1
        generalize w5.alloc (.cells #[.string ⟨#[]⟩, .bool a0_1, .int .i64 a0_2, .string (a0_0 ++ a1), .slice none 0 0] 43) = w7 at HI0 ⊢
        go_loopg [] k (fun kq w' => ∃ (x0 : ByteArray) (x1 : Bool) (x2 : Int) (x3 : ByteArray) (v : Value) (xo : List S38), Aside0 (cutter_Feed.l0 kq x0 x1 x2 x3 xo = some (r1, r2, r3, r4, r5)) ∧ Aside0 (kq ≤ k) ∧ Aside0 (CutI w5 w' w5.heap.size #[.string x0, .bool x1, .int .i64 x2, .string x3, v] v xo))
        case atStart => exact ⟨⟨#[]⟩, a0_1, a0_2, a0_0 ++ a1, .slice none 0 0, [], H', ⟨Nat.le_refl _⟩, HI0⟩
        case round =>
          clear H' HI0
          obtain ⟨x0, x1, x2, x3, v, xo, HA, HK1, HI⟩ := hrel
          cases gk with
          | zero => exact absurd HA.out (by simp [cutter_Feed.l0])
          | succ k1 =>
            have H := HA.out
            clear HA
            unfold cutter_Feed.l0 at H
            have hc0 := (HI.out.cells 0).trans rfl
            have hc1 := (HI.out.cells 1).trans rfl
            have hc2 := (HI.out.cells 2).trans rfl
            have hc3 := (HI.out.cells 3).trans rfl
            have hc4 := (HI.out.cells 4).trans rfl
            have hf1 := blk_frozen HI.out.1 1
            by_cases c5 : x3.size ≤ 4611686018427387904 ∧ 0 ≤ x2 ∧ x2 ≤ 4611686018427387904 ∧ (xo.length + 1) * 24 ≤ 140737488355328
            · rw [if_neg (not_not_intro c5)] at H
              obtain ⟨c5a, c5b, c5c, c5d⟩ := c5
              by_cases c6 : x3.size = 0
              · rw [if_pos c6] at H
                simp only [Option.some.injEq, Prod.mk.injEq] at H
                obtain ⟨rfl, rfl, rfl, rfl, rfl⟩ := H
                have c7 : (x3.toList != ([] : List UInt8)) = false := by rw [(toList_nil_iff x3).2 c6]; rfl
                have c7i : x3.toList.isEmpty = true := List.isEmpty_iff.mpr ((toList_nil_iff x3).2 c6)
                have BK6 := Aside0.mk (blk_below BK4.out HI.out.2.2.2)
                have hc40 := (blk_cell BK6.out 0).trans rfl
                have hc41 := (blk_cell BK6.out 1).trans rfl
                have hc42 := (blk_cell BK6.out 2).trans rfl
                have hf40 := blk_frozen BK6.out 0
                have hf41 := blk_frozen BK6.out 1
                have hf42 := blk_frozen BK6.out 2
                have hlt := HS5.out
                go_wp2
                have hne : w.heap.size + 1 ≠ w5.heap.size := by have := BK4.out; have := blk_lt this; omega
                go_region
                go_wp2
                refine bodyPost_ret (results_ctt rfl _ _ (w.heap.size + 1) 23 #[.string x0, .bool x1, .int .i64 x2] (0, 0) _ rfl (blk_drew (blk_put (blk_put (blk_put BK6.out 0 _ rfl) 1 _ rfl) 2 _ rfl)) Try.underlying23 rfl (by kernel_rfl)) rfl ?_
                have hR := Kd.R_bound HI.out.2.2.1
                have hsz := blk_lt BK4.out
                refine ⟨v, rfl, ?_, ?_⟩
                · exact Kd.R_mono (Kd.R_drew (cut_away (cut_away (cut_away (Kd.R_lower hR HB5.out.size) (b := w.heap.size + 1) (fun k_ hk_ => by have := hk_.2.1; omega) 0 _) (b := w.heap.size + 1) (fun k_ hk_ => by have := hk_.2.1; omega) 1 _) (b := w.heap.size + 1) (fun k_ hk_ => by have := hk_.2.1; omega) 2 _)) (fun _ _ => trivial)
                · exact below_drew1 ((((below_step HB5.out HI.out.2.2.2).setCell (p := ⟨w.heap.size + 1, 0, none⟩) (Nat.le_succ _) _).setCell (p := ⟨w.heap.size + 1, 1, none⟩) (Nat.le_succ _) _).setCell (p := ⟨w.heap.size + 1, 2, none⟩) (Nat.le_succ _) _)
              · rw [if_neg c6] at H
                have c7 : (x3.toList != ([] : List UInt8)) = true := bne_iff_ne.mpr (fun e => c6 ((toList_nil_iff x3).1 e))
                have c7i : x3.toList.isEmpty = false := Bool.eq_false_iff.mpr (fun e => c6 ((toList_nil_iff x3).1 (List.isEmpty_iff.mp e)))
                by_cases c8 : x2 > 0
                · rw [if_pos c8] at H
                  have H' := Aside0.mk H
                  clear H
                  have c8b : decide (0 < x2) = true := decide_eq_true c8
                  have hmn : (if (x3.size : Int) < x2 then (x3.size : Int) else x2) = ((min x3.size x2.toNat : Nat) : Int) := by split <;> omega
                  go_wp2_with (first | ((with_reducible refine gate_callee (f := 15) rfl ?_); refine goesL_ (some 48) rfl rfl Try.func15 (by kernel_rfl) rfl #[.pointer (some ⟨w5.heap.size, 0, none⟩)] rfl (by (try simp only [List.map_toArray, List.map_cons, List.map_nil]); first | done | rfl | (simp only [List.length_drop, List.length_take]; rfl)) ?_; (with_reducible refine (skip_is w5.heap.size x0 x1 x2 x3 v xo w5 _ (min x3.size x2.toNat) (Nat.min_le_left _ _) c5a c5b c5c hmn HI.out).mono ?_); rintro e w6 ⟨rfl, hI⟩; refine ⟨_, rfl, ?_⟩; have HI6 := Aside0.mk hI; clear hI))
                  go_roundg k1
                  case measure => have := HK1.out; omega
                  case rel => exact ⟨x0, x1, _, _, v, xo, H', ⟨by have := HK1.out; omega⟩, HI6⟩
                · rw [if_neg c8] at H
                  have c8b : decide (0 < x2) = false := decide_eq_false c8
                  have q0 : (0 < (x3.size : Int)) = True := eq_true (by omega)
                  have q1 : (0 < x3.size) = True := eq_true (by omega)
                  have hx : ∀ h : 0 < x3.size, ((x3[0]'h).toNat : Int) = bt x3 0 := bt_at x3 0
                  by_cases c9 : bt x3 0 ≠ 245
                  · rw [if_pos c9] at H
                    have c9b : (bt x3 0 != 245) = true := bne_iff_ne.mpr c9
                    by_cases c10 : idxByte x3 245 ≠ 0 ∧ idxByte x3 245 ≤ x3.size
                    · rw [if_pos c10] at H
                      have H' := Aside0.mk H
                      clear H
                      go_wp2_with (first | ((with_reducible refine gate_callee (f := 16) rfl ?_); refine goesL_ (some 57) rfl rfl Try.func16 (by kernel_rfl) rfl #[.pointer (some ⟨w5.heap.size, 0, none⟩)] rfl (by (try simp only [List.map_toArray, List.map_cons, List.map_nil]); first | done | rfl | (simp only [List.length_drop, List.length_take]; rfl)) ?_; (with_reducible refine (seek_is w5.heap.size x0 x1 x2 x3 v xo w5 _ _ rfl c10.1 c10.2 c5a c5d HI.out).mono ?_); rintro e w6 ⟨rfl, v6, hI⟩; refine ⟨_, rfl, ?_⟩; have HI6 := Aside0.mk hI; clear hI))
                      go_roundg k1
                      case measure => have := HK1.out; omega
                      case rel => exact ⟨x0, _, _, _, v6, _, H', ⟨by have := HK1.out; omega⟩, HI6⟩
                    · rw [if_neg c10] at H
                      cases H
                  · rw [if_neg c9] at H
                    have c9b : (bt x3 0 != 245) = false := bne_eq_false_iff_eq.mpr (Classical.not_not.mp c9)
                    have HI1 := Aside0.mk (HI.out.set 1 (.bool false) (cs' := #[.string x0, .bool false, .int .i64 x2, .string x3, v]) rfl)
                    by_cases c11 : (x3.size : Int) < 3
                    · rw [if_pos c11] at H
                      have H' := Aside0.mk H
                      clear H
                      go_wp2_with (first | ((with_reducible refine gate_callee (f := 17) rfl ?_); refine goesL_ (some 39) rfl rfl Try.func17 (by kernel_rfl) rfl #[.pointer (some ⟨w5.heap.size, 0, none⟩)] rfl (by (try simp only [List.map_toArray, List.map_cons, List.map_nil]); first | done | rfl | (simp only [List.length_drop, List.length_take]; rfl)) ?_; (with_reducible refine (take_few w5.heap.size x0 false x2 x3 v xo w5 _ c11 HI1.out).mono ?_); rintro e w6 ⟨rfl, v6, hI⟩; refine ⟨_, rfl, ?_⟩; have HI6 := Aside0.mk hI; clear hI))
                      go_roundg k1
                      case measure => have := HK1.out; omega
                      case rel => exact ⟨x3, false, x2, _, v6, xo, H', ⟨by have := HK1.out; omega⟩, HI6⟩
                    · rw [if_neg c11] at H
                      obtain ⟨n, hn, H⟩ := Option.bind_eq_some_iff.mp H
                      obtain ⟨t, ht, H⟩ := Option.bind_eq_some_iff.mp H
                      have AL := Aside0.mk hn
                      have AF := Aside0.mk ht
                      clear hn ht
                      have c11b : 3 ≤ (x3.size : Int) := by omega
                      by_cases c12 : t = false
                      · subst c12
                        rw [if_pos rfl] at H
                        have H' := Aside0.mk H
                        clear H
                        go_wp2_with (first | ((with_reducible refine gate_callee (f := 17) rfl ?_); refine goesL_ (some 39) rfl rfl Try.func17 (by kernel_rfl) rfl #[.pointer (some ⟨w5.heap.size, 0, none⟩)] rfl (by (try simp only [List.map_toArray, List.map_cons, List.map_nil]); first | done | rfl | (simp only [List.length_drop, List.length_take]; rfl)) ?_; (with_reducible refine (take_long w5.heap.size x0 false x2 x3 v xo w5 _ n AL.out c11b AF.out c5d HI1.out).mono ?_); rintro e w6 ⟨rfl, v6, hI⟩; refine ⟨_, rfl, ?_⟩; have HI6 := Aside0.mk hI; clear hI))
                        go_roundg k1
                        case measure => have := HK1.out; omega
                        case rel => exact ⟨x0, false, n, _, v6, _, H', ⟨by have := HK1.out; omega⟩, HI6⟩
                      · rw [if_neg c12] at H
                        have c12' : t = true := by simpa using c12
                        subst c12'
                        by_cases c13 : (x3.size : Int) - 3 < n
                        · rw [if_pos c13] at H
                          have H' := Aside0.mk H
                          clear H
                          go_wp2_with (first | ((with_reducible refine gate_callee (f := 17) rfl ?_); refine goesL_ (some 39) rfl rfl Try.func17 (by kernel_rfl) rfl #[.pointer (some ⟨w5.heap.size, 0, none⟩)] rfl (by (try simp only [List.map_toArray, List.map_cons, List.map_nil]); first | done | rfl | (simp only [List.length_drop, List.length_take]; rfl)) ?_; (with_reducible refine (take_short w5.heap.size x0 false x2 x3 v xo w5 _ n AL.out c11b c5a AF.out c13 HI1.out).mono ?_); rintro e w6 ⟨rfl, v6, hI⟩; refine ⟨_, rfl, ?_⟩; have HI6 := Aside0.mk hI; clear hI))
                          go_roundg k1
                          case measure => have := HK1.out; omega
                          case rel => exact ⟨x3, false, x2, _, v6, xo, H', ⟨by have := HK1.out; omega⟩, HI6⟩
                        · rw [if_neg c13] at H
                          by_cases c14 : 0 ≤ n
                          · rw [if_pos c14] at H
                            have H' := Aside0.mk H
                            clear H
                            go_wp2_with (first | ((with_reducible refine gate_callee (f := 17) rfl ?_); refine goesL_ (some 39) rfl rfl Try.func17 (by kernel_rfl) rfl #[.pointer (some ⟨w5.heap.size, 0, none⟩)] rfl (by (try simp only [List.map_toArray, List.map_cons, List.map_nil]); first | done | rfl | (simp only [List.length_drop, List.length_take]; rfl)) ?_; (with_reducible refine (take_body w5.heap.size x0 false x2 x3 v xo w5 _ n AL.out c11b c5a AF.out c14 (by omega) c5d HI1.out).mono ?_); rintro e w6 ⟨rfl, v6, hI⟩; refine ⟨_, rfl, ?_⟩; have HI6 := Aside0.mk hI; clear hI))
                            go_roundg k1
                            case measure => have := HK1.out; omega
                            case rel => exact ⟨x0, false, x2, _, v6, _, H', ⟨by have := HK1.out; omega⟩, HI6⟩
                          · rw [if_neg c14] at H
                            cases H
            · rw [if_pos c5] at H
              cases H

      · rw [if_neg c3] at H
        cases H
  · rw [if_neg c] at H
    simp only [Option.some.injEq, Prod.mk.injEq] at H
    obtain ⟨rfl, rfl, rfl, rfl, rfl⟩ := H
    have c2 : (t != 0) = true := by simpa using c
    go_enter Try.func7, Try.ntmps7
    go_wp2_with (first | ((with_reducible refine gate_callee (f := 12) rfl ?_); refine goesL_ (some 10) rfl rfl Try.func12 (by kernel_rfl) rfl #[.agg #[.string a0_0, .bool a0_1, .int .i64 a0_2]] rfl (by (try simp only [List.map_toArray, List.map_cons, List.map_nil]); first | done | rfl | (simp only [List.length_drop, List.length_take]; rfl)) ?_; (with_reducible refine (cutter_Check.calls a0_0 a0_1 a0_2 t _ A.out).mono ?_); rintro e w5 ⟨rfl, hb⟩; refine ⟨_, rfl, ?_⟩; have BK2 := Aside0.mk (blk_below (g := w.heap.size) (o := .cells #[.string a0_0, .bool a0_1, .int .i64 a0_2] 23 (0, 0)) (blk_alloc (heap_alloc_new w _) _) hb); have BK4 := Aside0.mk (blk_below (g := w.heap.size + 1) (o := .cells #[.string ⟨#[]⟩, .bool false, .int .i64 0] 23 (0, 0)) (by simpa using heap_alloc_new (w.alloc (.cells #[.string a0_0, .bool a0_1, .int .i64 a0_2] 23)) (.cells #[.string ⟨#[]⟩, .bool false, .int .i64 0] 23)) hb); have HB5 := Aside0.mk (below_then (below_alloc (below_alloc (Below.refl w.heap.size w) _) _) (by simp; omega) hb); have HS5 := Aside0.mk hb.size; clear hb; have hc20 := (blk_cell BK2.out 0).trans rfl; have hc21 := (blk_cell BK2.out 1).trans rfl; have hc22 := (blk_cell BK2.out 2).trans rfl; have hc40 := (blk_cell BK4.out 0).trans rfl; have hc41 := (blk_cell BK4.out 1).trans rfl; have hc42 := (blk_cell BK4.out 2).trans rfl; have hf40 := blk_frozen BK4.out 0; have hf41 := blk_frozen BK4.out 1; have hf42 := blk_frozen BK4.out 2))
    refine bodyPost_ret (results_ctt rfl _ _ (w.heap.size + 1) 23 #[.string (⟨#[]⟩ : ByteArray), .bool false, .int .i64 0] (0, 0) _ rfl (blk_put (blk_put (blk_put BK4.out 0 _ rfl) 1 _ rfl) 2 _ rfl) Try.underlying23 rfl (by kernel_rfl)) rfl ?_
    exact ⟨_, rfl, Kd.R_nil _ _ _ _ _, (((HB5.out).setCell (p := ⟨w.heap.size + 1, 0, none⟩) (Nat.le_succ _) _).setCell (p := ⟨w.heap.size + 1, 1, none⟩) (Nat.le_succ _) _).setCell (p := ⟨w.heap.size + 1, 2, none⟩) (Nat.le_succ _) _⟩


end Go.Proofs.Ytnolpgphdnbfaaa.Q
