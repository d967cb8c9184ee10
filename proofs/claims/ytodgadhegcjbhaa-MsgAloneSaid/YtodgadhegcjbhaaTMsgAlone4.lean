-- Merged and trimmed by this session's program wip/tools/trim.py.
import Derived.Test.YtodgadhegcjbhaaTMsgAlone3
section
namespace Go.Proofs.Ytodgadhegcjbhaa.Q
open Go.RowKit Go.Proofs.YtodgadhegcjbhaaW.PrintWords Go.Proofs.YtodgadhegcjbhaaW.PrintLast Go.Proofs.YtodgadhegcjbhaaW.PrintMore
attribute [local go_sem] max2_int min2_int max_two min_two max_three min_three max_four min_four   -- for this text's walks alone
set_option linter.unusedVariables false
set_option linter.unusedSimpArgs false
def IsS56 (w0 W : World) (g : Nat) (f0 : ByteArray) (f1 : Int) : Prop := W.heap[g]? = some (.cells #[.string f0, .int .i64 f1] 56 (0, 0)) ∧ w0.heap.size ≤ g
theorem IsS56.grown {w0 W : World} {g : Nat} {f0 : ByteArray} {f1 : Int} {W1 : World} {row : Option Nat} (h : IsS56 w0 W g f0 f1) (hw : W.grownBy W1 row) (hne : some g ≠ row) : IsS56 w0 W1 g f0 f1 := by
 obtain ⟨hb, hg⟩ := h
 exact ⟨blk_grown hb hw hne, hg⟩
theorem IsS56.kept {w0 W : World} {g : Nat} {f0 : ByteArray} {f1 : Int} {W1 : World} {S : Nat → Prop} (h : IsS56 w0 W g f0 f1) (hk : Kept W W1 S) (hne : ¬ S g) : IsS56 w0 W1 g f0 f1 := by
 obtain ⟨hb, hg⟩ := h
 exact ⟨blk_kept hb hk hne, hg⟩
theorem IsS56.below {w0 W : World} {g : Nat} {f0 : ByteArray} {f1 : Int} {W1 : World} (h : IsS56 w0 W g f0 f1) (hw : Below W.heap.size W W1) : IsS56 w0 W1 g f0 f1 := h.grown (grown_of_below hw none) (by simp)
theorem IsS56.alloc {w0 W : World} {g : Nat} {f0 : ByteArray} {f1 : Int} (h : IsS56 w0 W g f0 f1) (o : Obj) : IsS56 w0 (W.alloc o) g f0 f1 := h.below (below_alloc (Below.refl _ _) o)
theorem IsS56.drewN {w0 W : World} {g : Nat} {f0 : ByteArray} {f1 : Int} (h : IsS56 w0 W g f0 f1) (m : Nat) : IsS56 w0 (W.drewN m) g f0 f1 := h
theorem IsS56.drew {w0 W : World} {g : Nat} {f0 : ByteArray} {f1 : Int} (h : IsS56 w0 W g f0 f1) : IsS56 w0 W.drew g f0 f1 := h
theorem IsS56.apart {w0 W : World} {g : Nat} {f0 : ByteArray} {f1 : Int} {α : Type} {d : Kd α} {e : Nat} {base : Nat} {ok : Nat → Prop} {v : Value} {xs : List α} (h : IsS56 w0 W g f0 f1) (ho : d.R e W base ok v xs) (ht : ∀ q, q ∈ e :: d.E → q ≠ 56) : d.R e W base (fun k => ok k ∧ k ≠ g) v xs := by
 obtain ⟨hb, hg⟩ := h
 exact Kd.R_types ho hb ht
theorem IsS56.own_ne {w0 W : World} {g : Nat} {f0 : ByteArray} {f1 : Int} {α : Type} {d : Kd α} {e : Nat} {base : Nat} {ok : Nat → Prop} {v : Value} {xs : List α} (h : IsS56 w0 W g f0 f1) (ho : d.R e W base ok v xs) (ht : e ≠ 56) : some g ≠ v.ownBlock := by
 obtain ⟨hb, hg⟩ := h
 exact Kd.R_ne ho hb ht
theorem IsS56.lt {w0 W : World} {g : Nat} {f0 : ByteArray} {f1 : Int} (h : IsS56 w0 W g f0 f1) : g < W.heap.size := by
 obtain ⟨hb, hg⟩ := h
 exact blk_lt hb
theorem IsS56.ge {w0 W : World} {g : Nat} {f0 : ByteArray} {f1 : Int} (h : IsS56 w0 W g f0 f1) : w0.heap.size ≤ g := by
 obtain ⟨hb, hg⟩ := h
 exact hg
theorem IsS56.far {w0 W : World} {g : Nat} {f0 : ByteArray} {f1 : Int} {p : Addr} (h : IsS56 w0 W g f0 f1) (hne : g ≠ p.block) (u : Value) : IsS56 w0 (W.setCell p u) g f0 f1 := by
 obtain ⟨hb, hg⟩ := h
 exact ⟨blk_far hb hne u, hg⟩
theorem cellS56_0 {W : World} {g : Nat} {f0 : ByteArray} {f1 : Int} (h : W.heap[g]? = some (.cells #[.string f0, .int .i64 f1] 56 (0, 0))) : W.cell? ⟨g, 0, none⟩ = some (.string f0) := (blk_cell h 0).trans rfl
theorem IsS56.set_0 {w0 W : World} {g : Nat} {f0 : ByteArray} {f1 : Int} (h : IsS56 w0 W g f0 f1) (x : ByteArray) : IsS56 w0 (W.setCell ⟨g, 0, none⟩ (.string x)) g x f1 := by
 obtain ⟨hb, hg⟩ := h
 exact ⟨by simpa using blk_set hb 0 (.string x), hg⟩
theorem cellS56_1 {W : World} {g : Nat} {f0 : ByteArray} {f1 : Int} (h : W.heap[g]? = some (.cells #[.string f0, .int .i64 f1] 56 (0, 0))) : W.cell? ⟨g, 1, none⟩ = some (.int .i64 f1) := (blk_cell h 1).trans rfl
theorem IsS56.set_1 {w0 W : World} {g : Nat} {f0 : ByteArray} {f1 : Int} (h : IsS56 w0 W g f0 f1) (x : Int) : IsS56 w0 (W.setCell ⟨g, 1, none⟩ (.int .i64 x)) g f0 x := by
 obtain ⟨hb, hg⟩ := h
 exact ⟨by simpa using blk_set hb 1 (.int .i64 x), hg⟩
def IsS58 (w0 W : World) (g : Nat) (f0 : ByteArray) (f1 : Int) : Prop := W.heap[g]? = some (.cells #[.string f0, .int .i64 f1] 58 (0, 0)) ∧ w0.heap.size ≤ g
theorem IsS58.grown {w0 W : World} {g : Nat} {f0 : ByteArray} {f1 : Int} {W1 : World} {row : Option Nat} (h : IsS58 w0 W g f0 f1) (hw : W.grownBy W1 row) (hne : some g ≠ row) : IsS58 w0 W1 g f0 f1 := by
 obtain ⟨hb, hg⟩ := h
 exact ⟨blk_grown hb hw hne, hg⟩
theorem IsS58.kept {w0 W : World} {g : Nat} {f0 : ByteArray} {f1 : Int} {W1 : World} {S : Nat → Prop} (h : IsS58 w0 W g f0 f1) (hk : Kept W W1 S) (hne : ¬ S g) : IsS58 w0 W1 g f0 f1 := by
 obtain ⟨hb, hg⟩ := h
 exact ⟨blk_kept hb hk hne, hg⟩
theorem IsS58.below {w0 W : World} {g : Nat} {f0 : ByteArray} {f1 : Int} {W1 : World} (h : IsS58 w0 W g f0 f1) (hw : Below W.heap.size W W1) : IsS58 w0 W1 g f0 f1 := h.grown (grown_of_below hw none) (by simp)
theorem IsS58.alloc {w0 W : World} {g : Nat} {f0 : ByteArray} {f1 : Int} (h : IsS58 w0 W g f0 f1) (o : Obj) : IsS58 w0 (W.alloc o) g f0 f1 := h.below (below_alloc (Below.refl _ _) o)
theorem IsS58.drewN {w0 W : World} {g : Nat} {f0 : ByteArray} {f1 : Int} (h : IsS58 w0 W g f0 f1) (m : Nat) : IsS58 w0 (W.drewN m) g f0 f1 := h
theorem IsS58.drew {w0 W : World} {g : Nat} {f0 : ByteArray} {f1 : Int} (h : IsS58 w0 W g f0 f1) : IsS58 w0 W.drew g f0 f1 := h
theorem IsS58.apart {w0 W : World} {g : Nat} {f0 : ByteArray} {f1 : Int} {α : Type} {d : Kd α} {e : Nat} {base : Nat} {ok : Nat → Prop} {v : Value} {xs : List α} (h : IsS58 w0 W g f0 f1) (ho : d.R e W base ok v xs) (ht : ∀ q, q ∈ e :: d.E → q ≠ 58) : d.R e W base (fun k => ok k ∧ k ≠ g) v xs := by
 obtain ⟨hb, hg⟩ := h
 exact Kd.R_types ho hb ht
theorem IsS58.own_ne {w0 W : World} {g : Nat} {f0 : ByteArray} {f1 : Int} {α : Type} {d : Kd α} {e : Nat} {base : Nat} {ok : Nat → Prop} {v : Value} {xs : List α} (h : IsS58 w0 W g f0 f1) (ho : d.R e W base ok v xs) (ht : e ≠ 58) : some g ≠ v.ownBlock := by
 obtain ⟨hb, hg⟩ := h
 exact Kd.R_ne ho hb ht
theorem IsS58.lt {w0 W : World} {g : Nat} {f0 : ByteArray} {f1 : Int} (h : IsS58 w0 W g f0 f1) : g < W.heap.size := by
 obtain ⟨hb, hg⟩ := h
 exact blk_lt hb
theorem IsS58.ge {w0 W : World} {g : Nat} {f0 : ByteArray} {f1 : Int} (h : IsS58 w0 W g f0 f1) : w0.heap.size ≤ g := by
 obtain ⟨hb, hg⟩ := h
 exact hg
theorem IsS58.far {w0 W : World} {g : Nat} {f0 : ByteArray} {f1 : Int} {p : Addr} (h : IsS58 w0 W g f0 f1) (hne : g ≠ p.block) (u : Value) : IsS58 w0 (W.setCell p u) g f0 f1 := by
 obtain ⟨hb, hg⟩ := h
 exact ⟨blk_far hb hne u, hg⟩
theorem cellS58_0 {W : World} {g : Nat} {f0 : ByteArray} {f1 : Int} (h : W.heap[g]? = some (.cells #[.string f0, .int .i64 f1] 58 (0, 0))) : W.cell? ⟨g, 0, none⟩ = some (.string f0) := (blk_cell h 0).trans rfl
theorem IsS58.set_0 {w0 W : World} {g : Nat} {f0 : ByteArray} {f1 : Int} (h : IsS58 w0 W g f0 f1) (x : ByteArray) : IsS58 w0 (W.setCell ⟨g, 0, none⟩ (.string x)) g x f1 := by
 obtain ⟨hb, hg⟩ := h
 exact ⟨by simpa using blk_set hb 0 (.string x), hg⟩
theorem cellS58_1 {W : World} {g : Nat} {f0 : ByteArray} {f1 : Int} (h : W.heap[g]? = some (.cells #[.string f0, .int .i64 f1] 58 (0, 0))) : W.cell? ⟨g, 1, none⟩ = some (.int .i64 f1) := (blk_cell h 1).trans rfl
theorem IsS58.set_1 {w0 W : World} {g : Nat} {f0 : ByteArray} {f1 : Int} (h : IsS58 w0 W g f0 f1) (x : Int) : IsS58 w0 (W.setCell ⟨g, 1, none⟩ (.int .i64 x)) g f0 x := by
 obtain ⟨hb, hg⟩ := h
 exact ⟨by simpa using blk_set hb 1 (.int .i64 x), hg⟩
def num_Reader_Num.f (k : Nat) (s0_0 : ByteArray) (s0_1 : Int) : Option (Int × ByteArray × Int) := if s0_1 = 0 then ((num_Get.f k s0_0).bind fun bt244 => (some (bt244.1, bt244.2.1, bt244.2.2))) else (some (0, s0_0, s0_1))
theorem num_Reader_Num.mono : ∀ a0 a1 k, LeO (num_Reader_Num.f k a0 a1) (num_Reader_Num.f (k + 1) a0 a1) := by
 intro a0 a1 k
 unfold num_Reader_Num.f
 repeat' first
   | (with_reducible exact num_Get.mono _ _)
   | (with_reducible exact LeO.refl _)
   | (with_reducible exact LeO.none _)
   | (with_reducible refine LeO.ite ?_ ?_)
   | (with_reducible refine LeO.bind ?_ (fun _ => ?_))
   | exact num_Get.mono _ _
   | exact LeO.none _
   | refine LeO.ite ?_ ?_
   | refine LeO.bind ?_ (fun _ => ?_)
set_option maxHeartbeats 8000000 in
set_option maxRecDepth 100000 in
theorem num_Reader_Num.calls (k : Nat) (g : Nat) (s0_0 : ByteArray) (s0_1 : Int) (r1 : Int) (r2 : ByteArray) (r3 : Int) (w0 w : World) (hI : IsS56 w0 w g s0_0 s0_1) (hB : Below w0.heap.size w0 w) (h : num_Reader_Num.f k s0_0 s0_1 = some (r1, r2, r3)) :
  Calls Try.prog 28 #[.pointer (some ⟨g, 0, none⟩)] w fun e w' => e = .returned (.int .u64 r1) ∧ IsS56 w0 w' g r2 r3 ∧ Below w0.heap.size w0 w' ∧ KeepBut w w' g none := by
 have HI0 := Ax hI
 have HK := Ax (KeepBut.refl w g none)
 have HL := Ax hB.size
 clear hI
 have HW0 := Ax hB.size
 have HB := Ax hB
 clear hB
 have H : (if s0_1 = 0 then ((num_Get.f k s0_0).bind fun bt244 => (some (bt244.1, bt244.2.1, bt244.2.2))) else (some (0, s0_0, s0_1))) = some (r1, r2, r3) := h
 clear h
 by_cases c2 : s0_1 = 0
 ·rw [if_pos c2] at H
  have c2b0 : (s0_1 == 0) = true := beq_iff_eq.mpr c2
  have c2b1 : (s0_1 != 0) = false := bne_eq_false_iff_eq.mpr c2
  clear c2
  replace H := Option.bind_eq_some_iff.mp H
  obtain ⟨⟨t244, t245, t246⟩, A30, H⟩ := H
  replace H : (some (t244, t245, t246)) = some (r1, r2, r3) := H
  have A3 := Ax A30
  clear A30
  simp only [Option.some.injEq, Prod.mk.injEq] at H
  obtain ⟨rfl, rfl, rfl⟩ := H
  obtain ⟨HGz4, hgz4⟩ := HI0.out
  have hcz4_0 := cellS56_0 HGz4
  have hcz4_1 := cellS56_1 HGz4
  have hfz4_0 := blk_frozen HGz4 0
  have hfz4_1 := blk_frozen HGz4 1
  clear HGz4 hgz4
  go_enter Try.func28, Try.ntmps28
  go_wp2_with (first | ((with_reducible refine gate_callee (f := 44) rfl ?_); refine goesL_ (some 16) rfl rfl Try.func44 (by kernel_rfl) rfl #[.string s0_0] rfl gS ?_; (with_reducible refine (num_Get.calls k s0_0 t244 t245 t246 _ A3.out).mono ?_); rintro e w5 ⟨rfl, hb⟩; refine ⟨_, rfl, ?_⟩; have n0_ := Ax (IsS56.below (by repeat (first | (with_reducible first | exact HI0.out | apply IsS56.alloc | apply IsS56.drewN | apply IsS56.drew | apply IsS56.set_0 | apply IsS56.set_1) | exact HI0.out)) hb); have n1_ := Ax (KeepBut.trans (by repeat (first | (with_reducible first | exact HK.out | apply KeepBut.set_ | apply keep_drewN | apply keep_drew | apply keep_alloc) | exact HK.out)) (KeepBut.of_below hb g none) (.inl rfl)); have n2_ := Bs1 HB hb (IsS56.ge HI0.out); clear HI0; clear HK; clear HB; have HI0 := n0_; have HK := n1_; have HB := n2_; clear n0_ n1_ n2_; (try clear hb); obtain ⟨HGz6, hgz6⟩ := HI0.out; have hcz6_0 := cellS56_0 HGz6; have hcz6_1 := cellS56_1 HGz6; have hfz6_0 := blk_frozen HGz6 0; have hfz6_1 := blk_frozen HGz6 1; clear HGz6 hgz6))
  go_ret
  exact ⟨eS, by repeat (first | (with_reducible first | exact HI0.out | apply IsS56.alloc | apply IsS56.drewN | apply IsS56.drew | apply IsS56.set_0 | apply IsS56.set_1) | exact HI0.out), bw1 HB.out (IsS56.ge HI0.out), by repeat (first | (with_reducible first | exact HK.out | apply KeepBut.set_ | apply keep_drewN | apply keep_drew | apply keep_alloc) | exact HK.out)⟩
 ·rw [if_neg c2] at H
  have c2b0 : (s0_1 == 0) = false := beq_eq_false_iff_ne.mpr c2
  have c2b1 : (s0_1 != 0) = true := bne_iff_ne.mpr c2
  simp only [Option.some.injEq, Prod.mk.injEq] at H
  obtain ⟨rfl, rfl, rfl⟩ := H
  obtain ⟨HGz7, hgz7⟩ := HI0.out
  have hcz7_0 := cellS56_0 HGz7
  have hcz7_1 := cellS56_1 HGz7
  have hfz7_0 := blk_frozen HGz7 0
  have hfz7_1 := blk_frozen HGz7 1
  clear HGz7 hgz7
  go_enter Try.func28, Try.ntmps28
  go_wp2
  go_ret
  exact ⟨eS, by repeat (first | (with_reducible first | exact HI0.out | apply IsS56.alloc | apply IsS56.drewN | apply IsS56.drew | apply IsS56.set_0 | apply IsS56.set_1) | exact HI0.out), bw1 HB.out (IsS56.ge HI0.out), by repeat (first | (with_reducible first | exact HK.out | apply KeepBut.set_ | apply keep_drewN | apply keep_drew | apply keep_alloc) | exact HK.out)⟩
set_option maxHeartbeats 8000000 in
set_option maxRecDepth 100000 in
theorem num_Reader_Num.calls58 (k : Nat) (g : Nat) (s0_0 : ByteArray) (s0_1 : Int) (r1 : Int) (r2 : ByteArray) (r3 : Int) (w0 w : World) (hI : IsS58 w0 w g s0_0 s0_1) (hB : Below w0.heap.size w0 w) (h : num_Reader_Num.f k s0_0 s0_1 = some (r1, r2, r3)) :
  Calls Try.prog 28 #[.pointer (some ⟨g, 0, none⟩)] w fun e w' => e = .returned (.int .u64 r1) ∧ IsS58 w0 w' g r2 r3 ∧ Below w0.heap.size w0 w' ∧ KeepBut w w' g none := by
 have HI0 := Ax hI
 have HK := Ax (KeepBut.refl w g none)
 have HL := Ax hB.size
 clear hI
 have HW0 := Ax hB.size
 have HB := Ax hB
 clear hB
 have H : (if s0_1 = 0 then ((num_Get.f k s0_0).bind fun bt244 => (some (bt244.1, bt244.2.1, bt244.2.2))) else (some (0, s0_0, s0_1))) = some (r1, r2, r3) := h
 clear h
 by_cases c2 : s0_1 = 0
 ·rw [if_pos c2] at H
  have c2b0 : (s0_1 == 0) = true := beq_iff_eq.mpr c2
  have c2b1 : (s0_1 != 0) = false := bne_eq_false_iff_eq.mpr c2
  clear c2
  replace H := Option.bind_eq_some_iff.mp H
  obtain ⟨⟨t244, t245, t246⟩, A30, H⟩ := H
  replace H : (some (t244, t245, t246)) = some (r1, r2, r3) := H
  have A3 := Ax A30
  clear A30
  simp only [Option.some.injEq, Prod.mk.injEq] at H
  obtain ⟨rfl, rfl, rfl⟩ := H
  obtain ⟨HGz4, hgz4⟩ := HI0.out
  have hcz4_0 := cellS58_0 HGz4
  have hcz4_1 := cellS58_1 HGz4
  have hfz4_0 := blk_frozen HGz4 0
  have hfz4_1 := blk_frozen HGz4 1
  clear HGz4 hgz4
  go_enter Try.func28, Try.ntmps28
  go_wp2_with (first | ((with_reducible refine gate_callee (f := 44) rfl ?_); refine goesL_ (some 16) rfl rfl Try.func44 (by kernel_rfl) rfl #[.string s0_0] rfl gS ?_; (with_reducible refine (num_Get.calls k s0_0 t244 t245 t246 _ A3.out).mono ?_); rintro e w5 ⟨rfl, hb⟩; refine ⟨_, rfl, ?_⟩; have n0_ := Ax (IsS58.below (by repeat (first | (with_reducible first | exact HI0.out | apply IsS58.alloc | apply IsS58.drewN | apply IsS58.drew | apply IsS58.set_0 | apply IsS58.set_1) | exact HI0.out)) hb); have n1_ := Ax (KeepBut.trans (by repeat (first | (with_reducible first | exact HK.out | apply KeepBut.set_ | apply keep_drewN | apply keep_drew | apply keep_alloc) | exact HK.out)) (KeepBut.of_below hb g none) (.inl rfl)); have n2_ := Bs1 HB hb (IsS58.ge HI0.out); clear HI0; clear HK; clear HB; have HI0 := n0_; have HK := n1_; have HB := n2_; clear n0_ n1_ n2_; (try clear hb); obtain ⟨HGz6, hgz6⟩ := HI0.out; have hcz6_0 := cellS58_0 HGz6; have hcz6_1 := cellS58_1 HGz6; have hfz6_0 := blk_frozen HGz6 0; have hfz6_1 := blk_frozen HGz6 1; clear HGz6 hgz6))
  go_ret
  exact ⟨eS, by repeat (first | (with_reducible first | exact HI0.out | apply IsS58.alloc | apply IsS58.drewN | apply IsS58.drew | apply IsS58.set_0 | apply IsS58.set_1) | exact HI0.out), bw1 HB.out (IsS58.ge HI0.out), by repeat (first | (with_reducible first | exact HK.out | apply KeepBut.set_ | apply keep_drewN | apply keep_drew | apply keep_alloc) | exact HK.out)⟩
 ·rw [if_neg c2] at H
  have c2b0 : (s0_1 == 0) = false := beq_eq_false_iff_ne.mpr c2
  have c2b1 : (s0_1 != 0) = true := bne_iff_ne.mpr c2
  simp only [Option.some.injEq, Prod.mk.injEq] at H
  obtain ⟨rfl, rfl, rfl⟩ := H
  obtain ⟨HGz7, hgz7⟩ := HI0.out
  have hcz7_0 := cellS58_0 HGz7
  have hcz7_1 := cellS58_1 HGz7
  have hfz7_0 := blk_frozen HGz7 0
  have hfz7_1 := blk_frozen HGz7 1
  clear HGz7 hgz7
  go_enter Try.func28, Try.ntmps28
  go_wp2
  go_ret
  exact ⟨eS, by repeat (first | (with_reducible first | exact HI0.out | apply IsS58.alloc | apply IsS58.drewN | apply IsS58.drew | apply IsS58.set_0 | apply IsS58.set_1) | exact HI0.out), bw1 HB.out (IsS58.ge HI0.out), by repeat (first | (with_reducible first | exact HK.out | apply KeepBut.set_ | apply keep_drewN | apply keep_drew | apply keep_alloc) | exact HK.out)⟩
def num_Reader_Many.f (k : Nat) (s0_0 : ByteArray) (s0_1 : Int) (a1 : Int) : Option (Int × ByteArray × Int) := (num_Reader_Num.f k s0_0 s0_1).bind fun bt247 => (if bt247.1 > (IntKind.u64.wrap (a1)) then (some (0, bt247.2.1, 7)) else (some (wrap64 (bt247.1), bt247.2.1, bt247.2.2)))
theorem num_Reader_Many.mono : ∀ a0 a1 a2 k, LeO (num_Reader_Many.f k a0 a1 a2) (num_Reader_Many.f (k + 1) a0 a1 a2) := by
 intro a0 a1 a2 k
 unfold num_Reader_Many.f
 repeat' first
   | (with_reducible exact num_Reader_Num.mono _ _ _)
   | (with_reducible exact LeO.refl _)
   | (with_reducible exact LeO.none _)
   | (with_reducible refine LeO.ite ?_ ?_)
   | (with_reducible refine LeO.bind ?_ (fun _ => ?_))
   | exact num_Reader_Num.mono _ _ _
   | exact LeO.none _
   | refine LeO.ite ?_ ?_
   | refine LeO.bind ?_ (fun _ => ?_)
set_option maxHeartbeats 8000000 in
set_option maxRecDepth 100000 in
theorem num_Reader_Many.calls (k : Nat) (g : Nat) (s0_0 : ByteArray) (s0_1 : Int) (a1 : Int) (r1 : Int) (r2 : ByteArray) (r3 : Int) (w0 w : World) (hI : IsS56 w0 w g s0_0 s0_1) (hB : Below w0.heap.size w0 w) (h : num_Reader_Many.f k s0_0 s0_1 a1 = some (r1, r2, r3)) :
  Calls Try.prog 27 #[.pointer (some ⟨g, 0, none⟩), .int .i64 a1] w fun e w' => e = .returned (.int .i64 r1) ∧ IsS56 w0 w' g r2 r3 ∧ Below w0.heap.size w0 w' ∧ KeepBut w w' g none := by
 have HI0 := Ax hI
 have HK := Ax (KeepBut.refl w g none)
 have HL := Ax hB.size
 clear hI
 have HW0 := Ax hB.size
 have HB := Ax hB
 clear hB
 have H : ((num_Reader_Num.f k s0_0 s0_1).bind fun bt247 => (if bt247.1 > (IntKind.u64.wrap (a1)) then (some (0, bt247.2.1, 7)) else (some (wrap64 (bt247.1), bt247.2.1, bt247.2.2)))) = some (r1, r2, r3) := h
 clear h
 replace H := Option.bind_eq_some_iff.mp H
 obtain ⟨⟨t247, t248, t249⟩, A30, H⟩ := H
 replace H : (if t247 > (IntKind.u64.wrap (a1)) then (some (0, t248, 7)) else (some (wrap64 (t247), t248, t249))) = some (r1, r2, r3) := H
 have A3 := Ax A30
 clear A30
 by_cases c4 : t247 > (IntKind.u64.wrap (a1))
 ·rw [if_pos c4] at H
  have c4b0 : decide ((IntKind.u64.wrap (a1)) < t247) = true := decide_eq_true c4
  clear c4
  simp only [Option.some.injEq, Prod.mk.injEq] at H
  obtain ⟨rfl, rfl, rfl⟩ := H
  go_enter Try.func27, Try.ntmps27
  go_wp2_with (first | ((with_reducible refine gate_callee (f := 28) rfl ?_); refine goesL_ (some 7) rfl rfl Try.func28 (by kernel_rfl) rfl #[.pointer (some ⟨g, 0, none⟩)] rfl gS ?_; (with_reducible refine (num_Reader_Num.calls k g s0_0 s0_1 t247 t248 t249 w0 _ ?side1 ?side2 A3.out).mono ?_); (case side1 => repeat (first | (with_reducible first | exact HI0.out | apply IsS56.alloc | apply IsS56.drewN | apply IsS56.drew | apply IsS56.set_0 | apply IsS56.set_1) | exact HI0.out)); (case side2 => repeat (first | (with_reducible first | exact HB.out | apply below_alloc | apply pw_below_drewN | apply below_drew1 | refine below_set ?_ (IsS56.ge HI0.out)) | exact HB.out)); rintro e w5 ⟨rfl, hi, hb, hk⟩; refine ⟨_, rfl, ?_⟩; replace HK := Ax (KeepBut.trans (by repeat (first | (with_reducible first | exact HK.out | apply KeepBut.set_ | apply keep_drewN | apply keep_drew | apply keep_alloc) | exact HK.out)) hk (.inl rfl)); replace HB := Ax (hb); replace HI0 := Ax (hi); (try clear hb); (try clear hb2); (try clear hk); (try clear hi); obtain ⟨HGz6, hgz6⟩ := HI0.out; have hcz6_0 := cellS56_0 HGz6; have hcz6_1 := cellS56_1 HGz6; have hfz6_0 := blk_frozen HGz6 0; have hfz6_1 := blk_frozen HGz6 1; clear HGz6 hgz6))
  go_ret
  exact ⟨eS, by repeat (first | (with_reducible first | exact HI0.out | apply IsS56.alloc | apply IsS56.drewN | apply IsS56.drew | apply IsS56.set_0 | apply IsS56.set_1) | exact HI0.out), bw1 HB.out (IsS56.ge HI0.out), by repeat (first | (with_reducible first | exact HK.out | apply KeepBut.set_ | apply keep_drewN | apply keep_drew | apply keep_alloc) | exact HK.out)⟩
 ·rw [if_neg c4] at H
  have c4b0 : decide ((IntKind.u64.wrap (a1)) < t247) = false := decide_eq_false c4
  clear c4
  simp only [Option.some.injEq, Prod.mk.injEq] at H
  obtain ⟨rfl, rfl, rfl⟩ := H
  go_enter Try.func27, Try.ntmps27
  go_wp2_with (first | ((with_reducible refine gate_callee (f := 28) rfl ?_); refine goesL_ (some 7) rfl rfl Try.func28 (by kernel_rfl) rfl #[.pointer (some ⟨g, 0, none⟩)] rfl gS ?_; (with_reducible refine (num_Reader_Num.calls k g s0_0 s0_1 t247 t248 t249 w0 _ ?side1 ?side2 A3.out).mono ?_); (case side1 => repeat (first | (with_reducible first | exact HI0.out | apply IsS56.alloc | apply IsS56.drewN | apply IsS56.drew | apply IsS56.set_0 | apply IsS56.set_1) | exact HI0.out)); (case side2 => repeat (first | (with_reducible first | exact HB.out | apply below_alloc | apply pw_below_drewN | apply below_drew1 | refine below_set ?_ (IsS56.ge HI0.out)) | exact HB.out)); rintro e w7 ⟨rfl, hi, hb, hk⟩; refine ⟨_, rfl, ?_⟩; replace HK := Ax (KeepBut.trans (by repeat (first | (with_reducible first | exact HK.out | apply KeepBut.set_ | apply keep_drewN | apply keep_drew | apply keep_alloc) | exact HK.out)) hk (.inl rfl)); replace HB := Ax (hb); replace HI0 := Ax (hi); (try clear hb); (try clear hb2); (try clear hk); (try clear hi)))
  go_ret
  exact ⟨eS, by repeat (first | (with_reducible first | exact HI0.out | apply IsS56.alloc | apply IsS56.drewN | apply IsS56.drew | apply IsS56.set_0 | apply IsS56.set_1) | exact HI0.out), bw1 HB.out (IsS56.ge HI0.out), by repeat (first | (with_reducible first | exact HK.out | apply KeepBut.set_ | apply keep_drewN | apply keep_drew | apply keep_alloc) | exact HK.out)⟩
set_option maxHeartbeats 8000000 in
set_option maxRecDepth 100000 in
theorem num_Reader_Many.calls58 (k : Nat) (g : Nat) (s0_0 : ByteArray) (s0_1 : Int) (a1 : Int) (r1 : Int) (r2 : ByteArray) (r3 : Int) (w0 w : World) (hI : IsS58 w0 w g s0_0 s0_1) (hB : Below w0.heap.size w0 w) (h : num_Reader_Many.f k s0_0 s0_1 a1 = some (r1, r2, r3)) :
  Calls Try.prog 27 #[.pointer (some ⟨g, 0, none⟩), .int .i64 a1] w fun e w' => e = .returned (.int .i64 r1) ∧ IsS58 w0 w' g r2 r3 ∧ Below w0.heap.size w0 w' ∧ KeepBut w w' g none := by
 have HI0 := Ax hI
 have HK := Ax (KeepBut.refl w g none)
 have HL := Ax hB.size
 clear hI
 have HW0 := Ax hB.size
 have HB := Ax hB
 clear hB
 have H : ((num_Reader_Num.f k s0_0 s0_1).bind fun bt247 => (if bt247.1 > (IntKind.u64.wrap (a1)) then (some (0, bt247.2.1, 7)) else (some (wrap64 (bt247.1), bt247.2.1, bt247.2.2)))) = some (r1, r2, r3) := h
 clear h
 replace H := Option.bind_eq_some_iff.mp H
 obtain ⟨⟨t247, t248, t249⟩, A30, H⟩ := H
 replace H : (if t247 > (IntKind.u64.wrap (a1)) then (some (0, t248, 7)) else (some (wrap64 (t247), t248, t249))) = some (r1, r2, r3) := H
 have A3 := Ax A30
 clear A30
 by_cases c4 : t247 > (IntKind.u64.wrap (a1))
 ·rw [if_pos c4] at H
  have c4b0 : decide ((IntKind.u64.wrap (a1)) < t247) = true := decide_eq_true c4
  clear c4
  simp only [Option.some.injEq, Prod.mk.injEq] at H
  obtain ⟨rfl, rfl, rfl⟩ := H
  go_enter Try.func27, Try.ntmps27
  go_wp2_with (first | ((with_reducible refine gate_callee (f := 28) rfl ?_); refine goesL_ (some 7) rfl rfl Try.func28 (by kernel_rfl) rfl #[.pointer (some ⟨g, 0, none⟩)] rfl gS ?_; (with_reducible refine (num_Reader_Num.calls58 k g s0_0 s0_1 t247 t248 t249 w0 _ ?side1 ?side2 A3.out).mono ?_); (case side1 => repeat (first | (with_reducible first | exact HI0.out | apply IsS58.alloc | apply IsS58.drewN | apply IsS58.drew | apply IsS58.set_0 | apply IsS58.set_1) | exact HI0.out)); (case side2 => repeat (first | (with_reducible first | exact HB.out | apply below_alloc | apply pw_below_drewN | apply below_drew1 | refine below_set ?_ (IsS58.ge HI0.out)) | exact HB.out)); rintro e w5 ⟨rfl, hi, hb, hk⟩; refine ⟨_, rfl, ?_⟩; replace HK := Ax (KeepBut.trans (by repeat (first | (with_reducible first | exact HK.out | apply KeepBut.set_ | apply keep_drewN | apply keep_drew | apply keep_alloc) | exact HK.out)) hk (.inl rfl)); replace HB := Ax (hb); replace HI0 := Ax (hi); (try clear hb); (try clear hb2); (try clear hk); (try clear hi); obtain ⟨HGz6, hgz6⟩ := HI0.out; have hcz6_0 := cellS58_0 HGz6; have hcz6_1 := cellS58_1 HGz6; have hfz6_0 := blk_frozen HGz6 0; have hfz6_1 := blk_frozen HGz6 1; clear HGz6 hgz6))
  go_ret
  exact ⟨eS, by repeat (first | (with_reducible first | exact HI0.out | apply IsS58.alloc | apply IsS58.drewN | apply IsS58.drew | apply IsS58.set_0 | apply IsS58.set_1) | exact HI0.out), bw1 HB.out (IsS58.ge HI0.out), by repeat (first | (with_reducible first | exact HK.out | apply KeepBut.set_ | apply keep_drewN | apply keep_drew | apply keep_alloc) | exact HK.out)⟩
 ·rw [if_neg c4] at H
  have c4b0 : decide ((IntKind.u64.wrap (a1)) < t247) = false := decide_eq_false c4
  clear c4
  simp only [Option.some.injEq, Prod.mk.injEq] at H
  obtain ⟨rfl, rfl, rfl⟩ := H
  go_enter Try.func27, Try.ntmps27
  go_wp2_with (first | ((with_reducible refine gate_callee (f := 28) rfl ?_); refine goesL_ (some 7) rfl rfl Try.func28 (by kernel_rfl) rfl #[.pointer (some ⟨g, 0, none⟩)] rfl gS ?_; (with_reducible refine (num_Reader_Num.calls58 k g s0_0 s0_1 t247 t248 t249 w0 _ ?side1 ?side2 A3.out).mono ?_); (case side1 => repeat (first | (with_reducible first | exact HI0.out | apply IsS58.alloc | apply IsS58.drewN | apply IsS58.drew | apply IsS58.set_0 | apply IsS58.set_1) | exact HI0.out)); (case side2 => repeat (first | (with_reducible first | exact HB.out | apply below_alloc | apply pw_below_drewN | apply below_drew1 | refine below_set ?_ (IsS58.ge HI0.out)) | exact HB.out)); rintro e w7 ⟨rfl, hi, hb, hk⟩; refine ⟨_, rfl, ?_⟩; replace HK := Ax (KeepBut.trans (by repeat (first | (with_reducible first | exact HK.out | apply KeepBut.set_ | apply keep_drewN | apply keep_drew | apply keep_alloc) | exact HK.out)) hk (.inl rfl)); replace HB := Ax (hb); replace HI0 := Ax (hi); (try clear hb); (try clear hb2); (try clear hk); (try clear hi)))
  go_ret
  exact ⟨eS, by repeat (first | (with_reducible first | exact HI0.out | apply IsS58.alloc | apply IsS58.drewN | apply IsS58.drew | apply IsS58.set_0 | apply IsS58.set_1) | exact HI0.out), bw1 HB.out (IsS58.ge HI0.out), by repeat (first | (with_reducible first | exact HK.out | apply KeepBut.set_ | apply keep_drewN | apply keep_drew | apply keep_alloc) | exact HK.out)⟩
def msg_GetAction.f (k : Nat) (a0 : ByteArray) : Option (Int × Int × ByteArray × Int) := if a0.toList = ([] : List UInt8) then (some (0, 0, (⟨#[]⟩ : ByteArray), 7)) else (if 1 ≤ (a0.size : Int) then (if 0 < (a0.size : Int) then (if (bt a0 0) = 1 then ((num_Reader_Many.f k (a0.extract 1 a0.size) 0 65536).bind fun bt253 => (if bt253.2.2 = 0 then ((msg_acts.f (bt a0 0) bt253.1).bind fun t256 => (if t256 = true then (some (bt a0 0, bt253.1, bt253.2.1, 0)) else (some (0, 0, (⟨#[]⟩ : ByteArray), 7)))) else (some (0, 0, (⟨#[]⟩ : ByteArray), 7)))) else ((msg_acts.f (bt a0 0) 0).bind fun t257 => (if t257 = true then (some (bt a0 0, 0, a0.extract 1 a0.size, 0)) else (some (0, 0, (⟨#[]⟩ : ByteArray), 7))))) else (none)) else (none))
theorem msg_GetAction.mono : ∀ a0 k, LeO (msg_GetAction.f k a0) (msg_GetAction.f (k + 1) a0) := by
 intro a0 k
 unfold msg_GetAction.f
 repeat' first
   | (with_reducible exact num_Reader_Many.mono _ _ _ _)
   | (with_reducible exact LeO.refl _)
   | (with_reducible exact LeO.none _)
   | (with_reducible refine LeO.ite ?_ ?_)
   | (with_reducible refine LeO.bind ?_ (fun _ => ?_))
   | exact num_Reader_Many.mono _ _ _ _
   | exact LeO.none _
   | refine LeO.ite ?_ ?_
   | refine LeO.bind ?_ (fun _ => ?_)
def msg_GetAction.T9 : Bool × List (List Nat × List Nat) := (true, [([], []), ([], []), ([1], [1]), ([2], [2]), ([3], [3]), ([0, 0], [0]), ([4, 5, 0, 1, 2, 3, 4, 5], [4]), ([6, 0, 1, 2, 3, 4, 5, 6], [])])
def msg_GetAction.B9 : List Nat := [0, 0, 2, 6, 14, 1, 63, 127]
theorem msg_GetAction.tab9 : rtab .any (opsOf Try.f21 9) = msg_GetAction.T9 := by kernel_rfl
theorem msg_GetAction.bits9 : waitsOk msg_GetAction.T9.2 msg_GetAction.B9 = true := by kernel_rfl
set_option maxHeartbeats 8000000 in
set_option maxRecDepth 100000 in
theorem msg_GetAction.calls (k : Nat) (a0 : ByteArray) (r1 : Int) (r2 : Int) (r3 : ByteArray) (r4 : Int) (w : World) (h : msg_GetAction.f k a0 = some (r1, r2, r3, r4)) :
  Calls Try.prog 21 #[.string a0] w fun e w' => e = .returned (.tuple #[.agg #[.int .u8 r1, .int .i64 r2], .string r3, .int .i64 r4]) ∧ Below w.heap.size w w' := by
 have hu30 := Try.underlying30
 have hu56 := Try.underlying56
 have HB := Ax (Below.refl w.heap.size w)
 have H : (if a0.toList = ([] : List UInt8) then (some (0, 0, (⟨#[]⟩ : ByteArray), 7)) else (if 1 ≤ (a0.size : Int) then (if 0 < (a0.size : Int) then (if (bt a0 0) = 1 then ((num_Reader_Many.f k (a0.extract 1 a0.size) 0 65536).bind fun bt253 => (if bt253.2.2 = 0 then ((msg_acts.f (bt a0 0) bt253.1).bind fun t256 => (if t256 = true then (some (bt a0 0, bt253.1, bt253.2.1, 0)) else (some (0, 0, (⟨#[]⟩ : ByteArray), 7)))) else (some (0, 0, (⟨#[]⟩ : ByteArray), 7)))) else ((msg_acts.f (bt a0 0) 0).bind fun t257 => (if t257 = true then (some (bt a0 0, 0, a0.extract 1 a0.size, 0)) else (some (0, 0, (⟨#[]⟩ : ByteArray), 7))))) else (none)) else (none))) = some (r1, r2, r3, r4) := h
 clear h
 by_cases c2 : a0.toList = ([] : List UInt8)
 ·rw [if_pos c2] at H
  have c2b0 : (a0.toList == ([] : List UInt8)) = true := beq_iff_eq.mpr c2
  have c2b1 : (a0.toList != ([] : List UInt8)) = false := bne_eq_false_iff_eq.mpr c2
  clear c2
  simp only [Option.some.injEq, Prod.mk.injEq] at H
  obtain ⟨rfl, rfl, rfl, rfl⟩ := H
  go_enter Try.func21, Try.ntmps21
  go_wp2_with (first | ((with_reducible refine gate_dst (N := 2) rfl ?_); refine box_event ?hg (N := 2) ?hd (cs := #[.int .u8 0, .int .i64 0]) (t := 30) ?hr ?_; (case hd => rfl); (case hg => rfl); (case hr => first | (go_simp; done) | (go_simp; rfl)); intro gb250 hg w3 hbox hb; have n0_ := Bs0 HB hb; have n1_ := Ax (hbox); have n2_ := Gw0 HB hg; have n3_ := Gw0 HB hg; clear HB; have HB := n0_; have BK250 := n1_; have GW250 := n2_; have GE250 := n3_; clear n0_ n1_ n2_ n3_; clear hb hbox hg; obtain ⟨hcz4_0, hcz4_1, hfz4_0, hfz4_1⟩ := cl2 BK250))
  refine bodyPost_ret (results_ctt rfl _ _ gb250 30 #[.int .u8 0, .int .i64 0] (0, 0) _ rfl (by (with_reducible repeat (first | refine blk_drewN ?_ _ | refine blk_drew ?_ | refine blk_alloc ?_ _)); refine blk_put (cs := #[.int .u8 0, .int .i64 0]) ?_ 1 _ rfl; (with_reducible repeat (first | refine blk_drewN ?_ _ | refine blk_drew ?_ | refine blk_alloc ?_ _)); refine blk_put (cs := #[.int .u8 0, .int .i64 0]) ?_ 0 _ rfl; (with_reducible repeat (first | refine blk_drewN ?_ _ | refine blk_drew ?_ | refine blk_alloc ?_ _)); exact BK250.out) Try.underlying30 rfl (by kernel_rfl)) rfl ?_
  exact ⟨eS, bw1 HB.out GE250.out⟩
 ·rw [if_neg c2] at H
  have c2b0 : (a0.toList == ([] : List UInt8)) = false := beq_eq_false_iff_ne.mpr c2
  have c2b1 : (a0.toList != ([] : List UInt8)) = true := bne_iff_ne.mpr c2
  by_cases c5 : 1 ≤ (a0.size : Int)
  ·rw [if_pos c5] at H
   have c5b0 := eq_true c5
   have c5b1 : decide (1 ≤ (a0.size : Int)) = true := decide_eq_true c5
   clear c5
   by_cases c6 : 0 < (a0.size : Int)
   ·rw [if_pos c6] at H
    have c6b0 : decide (0 < (a0.size : Int)) = true := decide_eq_true c6
    have c6b1 : decide (0 < a0.size) = true := decide_eq_true (by omega)
    clear c6
    by_cases c8 : (bt a0 0) = 1
    ·rw [if_pos c8] at H
     have c8b0 : ((bt a0 0) == 1) = true := beq_iff_eq.mpr c8
     have c8b1 : ((bt a0 0) != 1) = false := bne_eq_false_iff_eq.mpr c8
     clear c8
     replace H := Option.bind_eq_some_iff.mp H
     obtain ⟨⟨t253, t254, t255⟩, A90, H⟩ := H
     replace H : (if t255 = 0 then ((msg_acts.f (bt a0 0) t253).bind fun t256 => (if t256 = true then (some (bt a0 0, t253, t254, 0)) else (some (0, 0, (⟨#[]⟩ : ByteArray), 7)))) else (some (0, 0, (⟨#[]⟩ : ByteArray), 7))) = some (r1, r2, r3, r4) := H
     have A9 := Ax A90
     clear A90
     by_cases c10 : t255 = 0
     ·rw [if_pos c10] at H
      have c10b0 : (t255 == 0) = true := beq_iff_eq.mpr c10
      have c10b1 : (t255 != 0) = false := bne_eq_false_iff_eq.mpr c10
      clear c10
      replace H := Option.bind_eq_some_iff.mp H
      obtain ⟨t256, A110, H⟩ := H
      replace H : (if t256 = true then (some (bt a0 0, t253, t254, 0)) else (some (0, 0, (⟨#[]⟩ : ByteArray), 7))) = some (r1, r2, r3, r4) := H
      have A11 := Ax A110
      clear A110
      by_cases c12 : t256 = true
      ·subst c12
       have H1 : (some (bt a0 0, t253, t254, 0)) = some (r1, r2, r3, r4) := by rw [if_pos rfl] at H; exact H
       clear H
       have H := H1
       clear H1
       simp only [Option.some.injEq, Prod.mk.injEq] at H
       obtain ⟨rfl, rfl, rfl, rfl⟩ := H
       go_enter Try.func21, Try.ntmps21
       try go_wp2_with (first | ((with_reducible refine gate_dst (N := 2) rfl ?_); refine box_event ?hg (N := 2) ?hd (cs := #[.int .u8 0, .int .i64 0]) (t := 30) ?hr ?_; (case hd => rfl); (case hg => rfl); (case hr => first | (go_simp; done) | (go_simp; rfl)); intro gb250 hg w13 hbox hb; have n0_ := Bs0 HB hb; have n1_ := Ax (hbox); have n2_ := Gw0 HB hg; have n3_ := Gw0 HB hg; clear HB; have HB := n0_; have BK250 := n1_; have GW250 := n2_; have GE250 := n3_; clear n0_ n1_ n2_ n3_; clear hb hbox hg) | ((with_reducible refine gate_dst (N := 13) rfl ?_); refine box_event ?hg (N := 13) ?hd (cs := #[.string (a0.extract 1 a0.size), .int .i64 0]) (t := 56) ?hr ?_; (case hd => rfl); (case hg => rfl); (case hr => first | (go_simp; done) | (go_simp; rfl)); intro gb251 hg w14 hbox hb; have n0_ := Bx0 BK250 hb; have n1_ := Bs1 HB hb GE250.out; have n2_ := Ax (hbox); have n3_ := Gw1 HB hg GE250.out; have n4_ := Gw1 HB hg GE250.out; have n5_ := Nl0 BK250 hg; have n6_ := Nr0 BK250 hg; clear BK250; clear HB; have BK250 := n0_; have HB := n1_; have BK251 := n2_; have GW251 := n3_; have GE251 := n4_; have NB250_251 := n5_; have NB251_250 := n6_; clear n0_ n1_ n2_ n3_ n4_ n5_ n6_; clear hb hbox hg; have p7 : 0 ≤ (0 : Int) := (by omega); have q7 : 0 < a0.size := (by have : (0 : Int) < (a0.size : Int) := of_decide_eq_true (by first | (with_reducible assumption) | assumption); first | omega | (simp only [ByteArray.size_append]; omega)); have hx7 : ∀ h : 0 < a0.size, ((a0[0]'h).toNat : Int) = bt a0 0 := bt_at a0 0; clear p7; have qi7 : (0 < (a0.size : Int)) = True := eq_true (of_decide_eq_true (by first | (with_reducible assumption) | assumption)); replace q7 := eq_true q7) | ((with_reducible refine gate_dst (N := 6) rfl ?_); refine box_event ?hg (N := 6) ?hd (cs := #[.int .u8 0, .int .i64 0]) (t := 30) ?hr ?_; (case hd => rfl); (case hg => rfl); (case hr => first | (go_simp; done) | (go_simp; rfl)); intro gb252 hg w15 hbox hb; have n0_ := Bx0 BK250 hb; have n1_ := Bx0 BK251 hb; have n2_ := Bs2 HB hb GE250.out GE251.out; have n3_ := Ax (hbox); have n4_ := Gw2 HB hg GE250.out GE251.out; have n5_ := Gw2 HB hg GE250.out GE251.out; have n6_ := Nl0 BK250 hg; have n7_ := Nr0 BK250 hg; have n8_ := Nl0 BK251 hg; have n9_ := Nr0 BK251 hg; clear BK250; clear BK251; clear HB; have BK250 := n0_; have BK251 := n1_; have HB := n2_; have BK252 := n3_; have GW252 := n4_; have GE252 := n5_; have NB250_252 := n6_; have NB252_250 := n7_; have NB251_252 := n8_; have NB252_251 := n9_; clear n0_ n1_ n2_ n3_ n4_ n5_ n6_ n7_ n8_ n9_; clear hb hbox hg; have hnb16 := NB252_250.out; have hnc16 := NB250_252.out; have hnb17 := NB252_251.out; have hnc17 := NB251_252.out; obtain ⟨hcz18_0, hcz18_1, hfz18_0, hfz18_1⟩ := cl2 BK252; have HIB251 := Ax (show IsS56 w w15 gb251 (a0.extract 1 a0.size) 0 from ⟨by first | exact BK251.out | simpa using BK251.out, GE251.out⟩); clear BK251) | ((with_reducible refine gate_callee (f := 27) rfl ?_); refine goesL_ (some 21) rfl rfl Try.func27 (by kernel_rfl) rfl #[.pointer (some ⟨gb251, 0, none⟩), .int .i64 65536] rfl gS ?_; (with_reducible refine (num_Reader_Many.calls k gb251 (a0.extract 1 a0.size) 0 65536 t253 t254 t255 w _ ?side1 ?side2 A9.out).mono ?_); (case side1 => repeat (first | (with_reducible first | exact HIB251.out | apply IsS56.alloc | apply IsS56.drewN | apply IsS56.drew | apply IsS56.set_0 | apply IsS56.set_1 | refine IsS56.far ?_ NB251_250.out _ | refine IsS56.far ?_ NB251_252.out _) | exact HIB251.out)); (case side2 => repeat (first | (with_reducible first | exact HB.out | apply below_alloc | apply pw_below_drewN | apply below_drew1 | refine below_set ?_ (IsS56.ge HIB251.out) | refine below_set ?_ GE250.out | refine below_set ?_ GE252.out) | exact HB.out)); rintro e w19 ⟨rfl, hi, hb, hk⟩; refine ⟨_, rfl, ?_⟩; have n0_ := Ax (KeepBut.blk hk (g' := gb250) (o := .cells #[.int .u8 0, .int .i64 0] 30 (0, 0)) (bf2 BK250.out NB250_252.out NB250_252.out) NB250_251.out (by simp)); have n1_ := Ax (KeepBut.blk hk (g' := gb252) (o := .cells #[.int .u8 (bt a0 0), .int .i64 0] 30 (0, 0)) (by (with_reducible repeat (first | refine blk_drewN ?_ _ | refine blk_drew ?_ | refine blk_alloc ?_ _)); refine blk_put (cs := #[.int .u8 (bt a0 0), .int .i64 0]) ?_ 1 _ rfl; (with_reducible repeat (first | refine blk_drewN ?_ _ | refine blk_drew ?_ | refine blk_alloc ?_ _)); refine blk_put (cs := #[.int .u8 0, .int .i64 0]) ?_ 0 _ rfl; (with_reducible repeat (first | refine blk_drewN ?_ _ | refine blk_drew ?_ | refine blk_alloc ?_ _)); exact BK252.out) NB252_251.out (by simp)); have n2_ := Ax (hb); have n3_ := Ax (hi.1); clear BK250; clear BK252; clear HB; have BK250 := n0_; have BK252 := n1_; have HB := n2_; have BK251 := n3_; clear n0_ n1_ n2_ n3_; (try clear hb); (try clear hb2); (try clear hk); (try clear hi); obtain ⟨hcz20_0, hcz20_1, hfz20_0, hfz20_1⟩ := cl2 BK252; have hnb21 := NB251_250.out; have hnc21 := NB250_251.out; obtain ⟨hcz22_0, hcz22_1, hfz22_0, hfz22_1⟩ := cl2 BK251) | (go_at_call 33; (with_reducible refine (msg_acts.calls (bt a0 0) t253 true _ A11.out).mono ?_); rintro e w23 ⟨rfl, hb⟩; have n0_ := Bx1 BK250 hb NB250_252.out; have n1_ := Bx1 BK251 hb NB251_252.out; have n2_ := Ax (blk_below (g := gb252) (o := .cells #[.int .u8 (bt a0 0), .int .i64 t253] 30 (0, 0)) (by (with_reducible repeat (first | refine blk_drewN ?_ _ | refine blk_drew ?_ | refine blk_alloc ?_ _)); refine blk_put (cs := #[.int .u8 (bt a0 0), .int .i64 0]) ?_ 1 _ rfl; (with_reducible repeat (first | refine blk_drewN ?_ _ | refine blk_drew ?_ | refine blk_alloc ?_ _)); exact BK252.out) hb); have n3_ := Bs3 HB hb GE250.out GE251.out GE252.out; clear BK250; clear BK251; clear BK252; clear HB; have BK250 := n0_; have BK251 := n1_; have BK252 := n2_; have HB := n3_; clear n0_ n1_ n2_ n3_; (try clear hb); (try clear hb2); (try clear hk); (try clear hi)))
       replace BK250 := Ax (blk_drew BK250.out)
       replace BK251 := Ax (blk_drew BK251.out)
       replace BK252 := Ax (blk_drew BK252.out)
       replace HB := Ax (below_drew1 HB.out)
       refine start_ (n := 8) (S := fun w' => w'.cell? ⟨gb252, 0, none⟩ = some (.int .u8 (bt a0 0)) ∧ w'.cell? ⟨gb252, 1, none⟩ = some (.int .i64 t253) ∧ w'.cell? ⟨gb251, 0, none⟩ = some (.string t254) ∧ w'.cell? ⟨gb251, 1, none⟩ = some (.int .i64 t255)) (ds := []) #[fa,fa,fa,fa,fa,fa,fa,fa] (by kernel_rfl) rfl rfl ⟨(blk_cell BK252.out 0).trans rfl, (blk_cell BK252.out 1).trans rfl, (blk_cell BK251.out 0).trans rfl, (blk_cell BK251.out 1).trans rfl⟩ (fun hHeld => ?_); refine with_tabW msg_GetAction.tab9 msg_GetAction.bits9 (fun HT_ HW_ => ?_)
       generalize w23.drew = w24 at BK250 BK251 BK252 HB hHeld ⊢
       refine pure_ (i := 1) (N := some 35) (v := ?_) (a' := ?_) #[fa,tr,fa,fa,fa,fa,fa,fa] rfl rfl (any_of HT_.out (by kernel_rfl)) (fun _ _ _ h => h) (Or.inl ⟨by rfl, ?_⟩) ?_ ?_
       rotate_left
       ·intro w'
        go_simp
        with_reducible rfl
       rotate_left
       ·simp only [sP]
        rfl
       refine pure_ (i := 2) (N := some 36) (v := ?_) (a' := ?_) #[fa,tr,tr,fa,fa,fa,fa,fa] rfl rfl (any_of HT_.out (by kernel_rfl)) (fun _ _ _ h => h) (Or.inl ⟨by rfl, ?_⟩) ?_ ?_
       rotate_left
       ·intro w'
        go_simp
        with_reducible rfl
       rotate_left
       ·simp only [sP]
        rfl
       refine pure_ (i := 3) (N := some 37) (v := ?_) (a' := ?_) #[fa,tr,tr,tr,fa,fa,fa,fa] rfl rfl (any_of HT_.out (by kernel_rfl)) (fun _ _ _ h => h) (Or.inl ⟨by rfl, ?_⟩) ?_ ?_
       rotate_left
       ·intro w'
        go_simp
        with_reducible rfl
       rotate_left
       ·simp only [sP]
        rfl
       refine take_ (i := 0) (N := some 34) (v := ?_) (a' := ?_) #[tr,tr,tr,tr,fa,fa,fa,fa] rfl rfl (take_ofW HT_.out HW_.out (by kernel_rfl)) (fun _ _ _ h => h) (Or.inl ⟨by rfl, ?_⟩) hHeld ?_ ?_
       rotate_left
       ·rintro w' ⟨s0, s1, s2, s3⟩
        go_simp
        with_reducible rfl
       rotate_left
       ·simp only [sP]
        rfl
       refine take_ (i := 4) (N := some 38) (v := ?_) (a' := ?_) #[tr,tr,tr,tr,tr,fa,fa,fa] rfl rfl (take_ofW HT_.out HW_.out (by kernel_rfl)) (fun _ _ _ h => h) (Or.inl ⟨by rfl, ?_⟩) hHeld ?_ ?_
       rotate_left
       ·rintro w' ⟨s0, s1, s2, s3⟩
        go_simp
        with_reducible rfl
       rotate_left
       ·simp only [sP]
        rfl
       refine one_ (i := 5) (N := none) #[tr,tr,tr,tr,tr,tr,fa,fa] rfl rfl (one_of HT_.out (by kernel_rfl)) (by decide) (fun K hK => ?_)
       have hs25 : w24.cell? ⟨gb250, 0, none⟩ = some (.int .u8 0) := (blk_cell BK250.out 0).trans rfl
       have hfs25 := blk_frozen BK250.out 0
       have hns25_1 := NB251_250.out
       have hns25_2 := NB252_250.out
       have hms25_1 := NB250_251.out
       have hms25_2 := NB250_252.out
       have hs26 : w24.cell? ⟨gb250, 1, none⟩ = some (.int .i64 0) := (blk_cell BK250.out 1).trans rfl
       have hfs26 := blk_frozen BK250.out 1
       have hns26_1 := NB251_250.out
       have hns26_2 := NB252_250.out
       have hms26_1 := NB250_251.out
       have hms26_2 := NB250_252.out
       refine skip_ (w1 := ?_) (by rfl) rfl ?_ ?_
       rotate_left
       ·go_simp
        rfl
       refine hK.out _ _ ⟨((cell_far (p := ⟨gb250, _, none⟩) NB252_250.out _).trans (((cell_far (p := ⟨gb250, _, none⟩) NB252_250.out _).trans (hHeld.1)))), ((cell_far (p := ⟨gb250, _, none⟩) NB252_250.out _).trans (((cell_far (p := ⟨gb250, _, none⟩) NB252_250.out _).trans (hHeld.2.1)))), ((cell_far (p := ⟨gb250, _, none⟩) NB251_250.out _).trans (((cell_far (p := ⟨gb250, _, none⟩) NB251_250.out _).trans (hHeld.2.2.1)))), ((cell_far (p := ⟨gb250, _, none⟩) NB251_250.out _).trans (((cell_far (p := ⟨gb250, _, none⟩) NB251_250.out _).trans (hHeld.2.2.2))))⟩ (fun hHeld => ?_)
       clear hK K
       refine pure_ (i := 6) (N := some 3) (v := ?_) (a' := ?_) #[tr,tr,tr,tr,tr,tr,tr,fa] rfl rfl (any_of HT_.out (by kernel_rfl)) (fun _ _ _ h => h) (Or.inl ⟨by rfl, ?_⟩) ?_ ?_
       rotate_left
       ·intro w'
        go_simp
        with_reducible rfl
       rotate_left
       ·simp only [sP]
        rfl
       refine pure_ (i := 7) (N := some 4) (v := ?_) (a' := ?_) #[tr,tr,tr,tr,tr,tr,tr,tr] rfl rfl (any_of HT_.out (by kernel_rfl)) (fun _ _ _ h => h) (Or.inl ⟨by rfl, ?_⟩) ?_ ?_
       rotate_left
       ·intro w'
        go_simp
        with_reducible rfl
       rotate_left
       ·simp only [sP]
        rfl
       refine done_ (done_of HT_.out (by kernel_rfl)) ?_
       try go_wp2
       refine bodyPost_ret (results_ctt rfl _ _ gb250 30 #[.int .u8 (bt a0 0), .int .i64 t253] (0, 0) _ rfl (by (with_reducible repeat (first | refine blk_drewN ?_ _ | refine blk_drew ?_ | refine blk_alloc ?_ _)); refine blk_put (cs := #[.int .u8 (bt a0 0), .int .i64 0]) ?_ 1 _ rfl; (with_reducible repeat (first | refine blk_drewN ?_ _ | refine blk_drew ?_ | refine blk_alloc ?_ _)); refine blk_put (cs := #[.int .u8 0, .int .i64 0]) ?_ 0 _ rfl; (with_reducible repeat (first | refine blk_drewN ?_ _ | refine blk_drew ?_ | refine blk_alloc ?_ _)); exact BK250.out) Try.underlying30 rfl (by kernel_rfl)) rfl ?_
       exact ⟨eS, bw3 HB.out GE250.out GE251.out GE252.out⟩
      ·replace c12 := Bool.eq_false_iff.mpr c12
       subst c12
       have H1 : (some (0, 0, (⟨#[]⟩ : ByteArray), 7)) = some (r1, r2, r3, r4) := by rw [if_neg (show ¬ (false = true) by decide)] at H; exact H
       clear H
       have H := H1
       clear H1
       simp only [Option.some.injEq, Prod.mk.injEq] at H
       obtain ⟨rfl, rfl, rfl, rfl⟩ := H
       go_enter Try.func21, Try.ntmps21
       go_wp2_with (first | ((with_reducible refine gate_dst (N := 2) rfl ?_); refine box_event ?hg (N := 2) ?hd (cs := #[.int .u8 0, .int .i64 0]) (t := 30) ?hr ?_; (case hd => rfl); (case hg => rfl); (case hr => first | (go_simp; done) | (go_simp; rfl)); intro gb250 hg w27 hbox hb; have n0_ := Bs0 HB hb; have n1_ := Ax (hbox); have n2_ := Gw0 HB hg; have n3_ := Gw0 HB hg; clear HB; have HB := n0_; have BK250 := n1_; have GW250 := n2_; have GE250 := n3_; clear n0_ n1_ n2_ n3_; clear hb hbox hg) | ((with_reducible refine gate_dst (N := 13) rfl ?_); refine box_event ?hg (N := 13) ?hd (cs := #[.string (a0.extract 1 a0.size), .int .i64 0]) (t := 56) ?hr ?_; (case hd => rfl); (case hg => rfl); (case hr => first | (go_simp; done) | (go_simp; rfl)); intro gb251 hg w28 hbox hb; have n0_ := Bx0 BK250 hb; have n1_ := Bs1 HB hb GE250.out; have n2_ := Ax (hbox); have n3_ := Gw1 HB hg GE250.out; have n4_ := Gw1 HB hg GE250.out; have n5_ := Nl0 BK250 hg; have n6_ := Nr0 BK250 hg; clear BK250; clear HB; have BK250 := n0_; have HB := n1_; have BK251 := n2_; have GW251 := n3_; have GE251 := n4_; have NB250_251 := n5_; have NB251_250 := n6_; clear n0_ n1_ n2_ n3_ n4_ n5_ n6_; clear hb hbox hg; have p7 : 0 ≤ (0 : Int) := (by omega); have q7 : 0 < a0.size := (by have : (0 : Int) < (a0.size : Int) := of_decide_eq_true (by first | (with_reducible assumption) | assumption); first | omega | (simp only [ByteArray.size_append]; omega)); have hx7 : ∀ h : 0 < a0.size, ((a0[0]'h).toNat : Int) = bt a0 0 := bt_at a0 0; clear p7; have qi7 : (0 < (a0.size : Int)) = True := eq_true (of_decide_eq_true (by first | (with_reducible assumption) | assumption)); replace q7 := eq_true q7) | ((with_reducible refine gate_dst (N := 6) rfl ?_); refine box_event ?hg (N := 6) ?hd (cs := #[.int .u8 0, .int .i64 0]) (t := 30) ?hr ?_; (case hd => rfl); (case hg => rfl); (case hr => first | (go_simp; done) | (go_simp; rfl)); intro gb252 hg w29 hbox hb; have n0_ := Bx0 BK250 hb; have n1_ := Bx0 BK251 hb; have n2_ := Bs2 HB hb GE250.out GE251.out; have n3_ := Ax (hbox); have n4_ := Gw2 HB hg GE250.out GE251.out; have n5_ := Gw2 HB hg GE250.out GE251.out; have n6_ := Nl0 BK250 hg; have n7_ := Nr0 BK250 hg; have n8_ := Nl0 BK251 hg; have n9_ := Nr0 BK251 hg; clear BK250; clear BK251; clear HB; have BK250 := n0_; have BK251 := n1_; have HB := n2_; have BK252 := n3_; have GW252 := n4_; have GE252 := n5_; have NB250_252 := n6_; have NB252_250 := n7_; have NB251_252 := n8_; have NB252_251 := n9_; clear n0_ n1_ n2_ n3_ n4_ n5_ n6_ n7_ n8_ n9_; clear hb hbox hg; have hnb30 := NB252_250.out; have hnc30 := NB250_252.out; have hnb31 := NB252_251.out; have hnc31 := NB251_252.out; obtain ⟨hcz32_0, hcz32_1, hfz32_0, hfz32_1⟩ := cl2 BK252; have HIB251 := Ax (show IsS56 w w29 gb251 (a0.extract 1 a0.size) 0 from ⟨by first | exact BK251.out | simpa using BK251.out, GE251.out⟩); clear BK251) | ((with_reducible refine gate_callee (f := 27) rfl ?_); refine goesL_ (some 21) rfl rfl Try.func27 (by kernel_rfl) rfl #[.pointer (some ⟨gb251, 0, none⟩), .int .i64 65536] rfl gS ?_; (with_reducible refine (num_Reader_Many.calls k gb251 (a0.extract 1 a0.size) 0 65536 t253 t254 t255 w _ ?side1 ?side2 A9.out).mono ?_); (case side1 => repeat (first | (with_reducible first | exact HIB251.out | apply IsS56.alloc | apply IsS56.drewN | apply IsS56.drew | apply IsS56.set_0 | apply IsS56.set_1 | refine IsS56.far ?_ NB251_250.out _ | refine IsS56.far ?_ NB251_252.out _) | exact HIB251.out)); (case side2 => repeat (first | (with_reducible first | exact HB.out | apply below_alloc | apply pw_below_drewN | apply below_drew1 | refine below_set ?_ (IsS56.ge HIB251.out) | refine below_set ?_ GE250.out | refine below_set ?_ GE252.out) | exact HB.out)); rintro e w33 ⟨rfl, hi, hb, hk⟩; refine ⟨_, rfl, ?_⟩; have n0_ := Ax (KeepBut.blk hk (g' := gb250) (o := .cells #[.int .u8 0, .int .i64 0] 30 (0, 0)) (bf2 BK250.out NB250_252.out NB250_252.out) NB250_251.out (by simp)); have n1_ := Ax (KeepBut.blk hk (g' := gb252) (o := .cells #[.int .u8 (bt a0 0), .int .i64 0] 30 (0, 0)) (by (with_reducible repeat (first | refine blk_drewN ?_ _ | refine blk_drew ?_ | refine blk_alloc ?_ _)); refine blk_put (cs := #[.int .u8 (bt a0 0), .int .i64 0]) ?_ 1 _ rfl; (with_reducible repeat (first | refine blk_drewN ?_ _ | refine blk_drew ?_ | refine blk_alloc ?_ _)); refine blk_put (cs := #[.int .u8 0, .int .i64 0]) ?_ 0 _ rfl; (with_reducible repeat (first | refine blk_drewN ?_ _ | refine blk_drew ?_ | refine blk_alloc ?_ _)); exact BK252.out) NB252_251.out (by simp)); have n2_ := Ax (hb); have n3_ := Ax (hi.1); clear BK250; clear BK252; clear HB; have BK250 := n0_; have BK252 := n1_; have HB := n2_; have BK251 := n3_; clear n0_ n1_ n2_ n3_; (try clear hb); (try clear hb2); (try clear hk); (try clear hi); obtain ⟨hcz34_0, hcz34_1, hfz34_0, hfz34_1⟩ := cl2 BK252; have hnb35 := NB251_250.out; have hnc35 := NB250_251.out; obtain ⟨hcz36_0, hcz36_1, hfz36_0, hfz36_1⟩ := cl2 BK251) | (go_at_call 33; (with_reducible refine (msg_acts.calls (bt a0 0) t253 false _ A11.out).mono ?_); rintro e w37 ⟨rfl, hb⟩; have n0_ := Bx1 BK250 hb NB250_252.out; have n1_ := Bx1 BK251 hb NB251_252.out; have n2_ := Ax (blk_below (g := gb252) (o := .cells #[.int .u8 (bt a0 0), .int .i64 t253] 30 (0, 0)) (by (with_reducible repeat (first | refine blk_drewN ?_ _ | refine blk_drew ?_ | refine blk_alloc ?_ _)); refine blk_put (cs := #[.int .u8 (bt a0 0), .int .i64 0]) ?_ 1 _ rfl; (with_reducible repeat (first | refine blk_drewN ?_ _ | refine blk_drew ?_ | refine blk_alloc ?_ _)); exact BK252.out) hb); have n3_ := Bs3 HB hb GE250.out GE251.out GE252.out; clear BK250; clear BK251; clear BK252; clear HB; have BK250 := n0_; have BK251 := n1_; have BK252 := n2_; have HB := n3_; clear n0_ n1_ n2_ n3_; (try clear hb); (try clear hb2); (try clear hk); (try clear hi); obtain ⟨hcz38_0, hcz38_1, hfz38_0, hfz38_1⟩ := cl2 BK250))
       refine bodyPost_ret (results_ctt rfl _ _ gb250 30 #[.int .u8 0, .int .i64 0] (0, 0) _ rfl (by (with_reducible repeat (first | refine blk_drewN ?_ _ | refine blk_drew ?_ | refine blk_alloc ?_ _)); refine blk_put (cs := #[.int .u8 0, .int .i64 0]) ?_ 1 _ rfl; (with_reducible repeat (first | refine blk_drewN ?_ _ | refine blk_drew ?_ | refine blk_alloc ?_ _)); refine blk_put (cs := #[.int .u8 0, .int .i64 0]) ?_ 0 _ rfl; (with_reducible repeat (first | refine blk_drewN ?_ _ | refine blk_drew ?_ | refine blk_alloc ?_ _)); exact BK250.out) Try.underlying30 rfl (by kernel_rfl)) rfl ?_
       exact ⟨eS, bw3 HB.out GE250.out GE251.out GE252.out⟩
     ·rw [if_neg c10] at H
      have c10b0 : (t255 == 0) = false := beq_eq_false_iff_ne.mpr c10
      have c10b1 : (t255 != 0) = true := bne_iff_ne.mpr c10
      simp only [Option.some.injEq, Prod.mk.injEq] at H
      obtain ⟨rfl, rfl, rfl, rfl⟩ := H
      go_enter Try.func21, Try.ntmps21
      go_wp2_with (first | ((with_reducible refine gate_dst (N := 2) rfl ?_); refine box_event ?hg (N := 2) ?hd (cs := #[.int .u8 0, .int .i64 0]) (t := 30) ?hr ?_; (case hd => rfl); (case hg => rfl); (case hr => first | (go_simp; done) | (go_simp; rfl)); intro gb250 hg w39 hbox hb; have n0_ := Bs0 HB hb; have n1_ := Ax (hbox); have n2_ := Gw0 HB hg; have n3_ := Gw0 HB hg; clear HB; have HB := n0_; have BK250 := n1_; have GW250 := n2_; have GE250 := n3_; clear n0_ n1_ n2_ n3_; clear hb hbox hg) | ((with_reducible refine gate_dst (N := 13) rfl ?_); refine box_event ?hg (N := 13) ?hd (cs := #[.string (a0.extract 1 a0.size), .int .i64 0]) (t := 56) ?hr ?_; (case hd => rfl); (case hg => rfl); (case hr => first | (go_simp; done) | (go_simp; rfl)); intro gb251 hg w40 hbox hb; have n0_ := Bx0 BK250 hb; have n1_ := Bs1 HB hb GE250.out; have n2_ := Ax (hbox); have n3_ := Gw1 HB hg GE250.out; have n4_ := Gw1 HB hg GE250.out; have n5_ := Nl0 BK250 hg; have n6_ := Nr0 BK250 hg; clear BK250; clear HB; have BK250 := n0_; have HB := n1_; have BK251 := n2_; have GW251 := n3_; have GE251 := n4_; have NB250_251 := n5_; have NB251_250 := n6_; clear n0_ n1_ n2_ n3_ n4_ n5_ n6_; clear hb hbox hg; have p7 : 0 ≤ (0 : Int) := (by omega); have q7 : 0 < a0.size := (by have : (0 : Int) < (a0.size : Int) := of_decide_eq_true (by first | (with_reducible assumption) | assumption); first | omega | (simp only [ByteArray.size_append]; omega)); have hx7 : ∀ h : 0 < a0.size, ((a0[0]'h).toNat : Int) = bt a0 0 := bt_at a0 0; clear p7; have qi7 : (0 < (a0.size : Int)) = True := eq_true (of_decide_eq_true (by first | (with_reducible assumption) | assumption)); replace q7 := eq_true q7) | ((with_reducible refine gate_dst (N := 6) rfl ?_); refine box_event ?hg (N := 6) ?hd (cs := #[.int .u8 0, .int .i64 0]) (t := 30) ?hr ?_; (case hd => rfl); (case hg => rfl); (case hr => first | (go_simp; done) | (go_simp; rfl)); intro gb252 hg w41 hbox hb; have n0_ := Bx0 BK250 hb; have n1_ := Bx0 BK251 hb; have n2_ := Bs2 HB hb GE250.out GE251.out; have n3_ := Ax (hbox); have n4_ := Gw2 HB hg GE250.out GE251.out; have n5_ := Gw2 HB hg GE250.out GE251.out; have n6_ := Nl0 BK250 hg; have n7_ := Nr0 BK250 hg; have n8_ := Nl0 BK251 hg; have n9_ := Nr0 BK251 hg; clear BK250; clear BK251; clear HB; have BK250 := n0_; have BK251 := n1_; have HB := n2_; have BK252 := n3_; have GW252 := n4_; have GE252 := n5_; have NB250_252 := n6_; have NB252_250 := n7_; have NB251_252 := n8_; have NB252_251 := n9_; clear n0_ n1_ n2_ n3_ n4_ n5_ n6_ n7_ n8_ n9_; clear hb hbox hg; have hnb42 := NB252_250.out; have hnc42 := NB250_252.out; have hnb43 := NB252_251.out; have hnc43 := NB251_252.out; obtain ⟨hcz44_0, hcz44_1, hfz44_0, hfz44_1⟩ := cl2 BK252; have HIB251 := Ax (show IsS56 w w41 gb251 (a0.extract 1 a0.size) 0 from ⟨by first | exact BK251.out | simpa using BK251.out, GE251.out⟩); clear BK251) | ((with_reducible refine gate_callee (f := 27) rfl ?_); refine goesL_ (some 21) rfl rfl Try.func27 (by kernel_rfl) rfl #[.pointer (some ⟨gb251, 0, none⟩), .int .i64 65536] rfl gS ?_; (with_reducible refine (num_Reader_Many.calls k gb251 (a0.extract 1 a0.size) 0 65536 t253 t254 t255 w _ ?side1 ?side2 A9.out).mono ?_); (case side1 => repeat (first | (with_reducible first | exact HIB251.out | apply IsS56.alloc | apply IsS56.drewN | apply IsS56.drew | apply IsS56.set_0 | apply IsS56.set_1 | refine IsS56.far ?_ NB251_250.out _ | refine IsS56.far ?_ NB251_252.out _) | exact HIB251.out)); (case side2 => repeat (first | (with_reducible first | exact HB.out | apply below_alloc | apply pw_below_drewN | apply below_drew1 | refine below_set ?_ (IsS56.ge HIB251.out) | refine below_set ?_ GE250.out | refine below_set ?_ GE252.out) | exact HB.out)); rintro e w45 ⟨rfl, hi, hb, hk⟩; refine ⟨_, rfl, ?_⟩; have n0_ := Ax (KeepBut.blk hk (g' := gb250) (o := .cells #[.int .u8 0, .int .i64 0] 30 (0, 0)) (bf2 BK250.out NB250_252.out NB250_252.out) NB250_251.out (by simp)); have n1_ := Ax (KeepBut.blk hk (g' := gb252) (o := .cells #[.int .u8 (bt a0 0), .int .i64 0] 30 (0, 0)) (by (with_reducible repeat (first | refine blk_drewN ?_ _ | refine blk_drew ?_ | refine blk_alloc ?_ _)); refine blk_put (cs := #[.int .u8 (bt a0 0), .int .i64 0]) ?_ 1 _ rfl; (with_reducible repeat (first | refine blk_drewN ?_ _ | refine blk_drew ?_ | refine blk_alloc ?_ _)); refine blk_put (cs := #[.int .u8 0, .int .i64 0]) ?_ 0 _ rfl; (with_reducible repeat (first | refine blk_drewN ?_ _ | refine blk_drew ?_ | refine blk_alloc ?_ _)); exact BK252.out) NB252_251.out (by simp)); have n2_ := Ax (hb); have n3_ := Ax (hi.1); clear BK250; clear BK252; clear HB; have BK250 := n0_; have BK252 := n1_; have HB := n2_; have BK251 := n3_; clear n0_ n1_ n2_ n3_; (try clear hb); (try clear hb2); (try clear hk); (try clear hi); obtain ⟨hcz46_0, hcz46_1, hfz46_0, hfz46_1⟩ := cl2 BK252; have hnb47 := NB251_250.out; have hnc47 := NB250_251.out; obtain ⟨hcz48_0, hcz48_1, hfz48_0, hfz48_1⟩ := cl2 BK251; obtain ⟨hcz49_0, hcz49_1, hfz49_0, hfz49_1⟩ := cl2 BK250))
      refine bodyPost_ret (results_ctt rfl _ _ gb250 30 #[.int .u8 0, .int .i64 0] (0, 0) _ rfl (by (with_reducible repeat (first | refine blk_drewN ?_ _ | refine blk_drew ?_ | refine blk_alloc ?_ _)); refine blk_put (cs := #[.int .u8 0, .int .i64 0]) ?_ 1 _ rfl; (with_reducible repeat (first | refine blk_drewN ?_ _ | refine blk_drew ?_ | refine blk_alloc ?_ _)); refine blk_put (cs := #[.int .u8 0, .int .i64 0]) ?_ 0 _ rfl; (with_reducible repeat (first | refine blk_drewN ?_ _ | refine blk_drew ?_ | refine blk_alloc ?_ _)); refine blk_far ?_ NB250_252.out _; (with_reducible repeat (first | refine blk_drewN ?_ _ | refine blk_drew ?_ | refine blk_alloc ?_ _)); exact BK250.out) Try.underlying30 rfl (by kernel_rfl)) rfl ?_
      exact ⟨eS, bw3 HB.out GE250.out GE251.out GE252.out⟩
    ·rw [if_neg c8] at H
     have c8b0 : ((bt a0 0) == 1) = false := beq_eq_false_iff_ne.mpr c8
     have c8b1 : ((bt a0 0) != 1) = true := bne_iff_ne.mpr c8
     replace H := Option.bind_eq_some_iff.mp H
     obtain ⟨t257, A500, H⟩ := H
     replace H : (if t257 = true then (some (bt a0 0, 0, a0.extract 1 a0.size, 0)) else (some (0, 0, (⟨#[]⟩ : ByteArray), 7))) = some (r1, r2, r3, r4) := H
     have A50 := Ax A500
     clear A500
     by_cases c51 : t257 = true
     ·subst c51
      have H1 : (some (bt a0 0, 0, a0.extract 1 a0.size, 0)) = some (r1, r2, r3, r4) := by rw [if_pos rfl] at H; exact H
      clear H
      have H := H1
      clear H1
      simp only [Option.some.injEq, Prod.mk.injEq] at H
      obtain ⟨rfl, rfl, rfl, rfl⟩ := H
      go_enter Try.func21, Try.ntmps21
      try go_wp2_with (first | ((with_reducible refine gate_dst (N := 2) rfl ?_); refine box_event ?hg (N := 2) ?hd (cs := #[.int .u8 0, .int .i64 0]) (t := 30) ?hr ?_; (case hd => rfl); (case hg => rfl); (case hr => first | (go_simp; done) | (go_simp; rfl)); intro gb250 hg w52 hbox hb; have n0_ := Bs0 HB hb; have n1_ := Ax (hbox); have n2_ := Gw0 HB hg; have n3_ := Gw0 HB hg; clear HB; have HB := n0_; have BK250 := n1_; have GW250 := n2_; have GE250 := n3_; clear n0_ n1_ n2_ n3_; clear hb hbox hg) | ((with_reducible refine gate_dst (N := 13) rfl ?_); refine box_event ?hg (N := 13) ?hd (cs := #[.string (a0.extract 1 a0.size), .int .i64 0]) (t := 56) ?hr ?_; (case hd => rfl); (case hg => rfl); (case hr => first | (go_simp; done) | (go_simp; rfl)); intro gb251 hg w53 hbox hb; have n0_ := Bx0 BK250 hb; have n1_ := Bs1 HB hb GE250.out; have n2_ := Ax (hbox); have n3_ := Gw1 HB hg GE250.out; have n4_ := Gw1 HB hg GE250.out; have n5_ := Nl0 BK250 hg; have n6_ := Nr0 BK250 hg; clear BK250; clear HB; have BK250 := n0_; have HB := n1_; have BK251 := n2_; have GW251 := n3_; have GE251 := n4_; have NB250_251 := n5_; have NB251_250 := n6_; clear n0_ n1_ n2_ n3_ n4_ n5_ n6_; clear hb hbox hg; have p7 : 0 ≤ (0 : Int) := (by omega); have q7 : 0 < a0.size := (by have : (0 : Int) < (a0.size : Int) := of_decide_eq_true (by first | (with_reducible assumption) | assumption); first | omega | (simp only [ByteArray.size_append]; omega)); have hx7 : ∀ h : 0 < a0.size, ((a0[0]'h).toNat : Int) = bt a0 0 := bt_at a0 0; clear p7; have qi7 : (0 < (a0.size : Int)) = True := eq_true (of_decide_eq_true (by first | (with_reducible assumption) | assumption)); replace q7 := eq_true q7) | ((with_reducible refine gate_dst (N := 6) rfl ?_); refine box_event ?hg (N := 6) ?hd (cs := #[.int .u8 0, .int .i64 0]) (t := 30) ?hr ?_; (case hd => rfl); (case hg => rfl); (case hr => first | (go_simp; done) | (go_simp; rfl)); intro gb252 hg w54 hbox hb; have n0_ := Bx0 BK250 hb; have n1_ := Bx0 BK251 hb; have n2_ := Bs2 HB hb GE250.out GE251.out; have n3_ := Ax (hbox); have n4_ := Gw2 HB hg GE250.out GE251.out; have n5_ := Gw2 HB hg GE250.out GE251.out; have n6_ := Nl0 BK250 hg; have n7_ := Nr0 BK250 hg; have n8_ := Nl0 BK251 hg; have n9_ := Nr0 BK251 hg; clear BK250; clear BK251; clear HB; have BK250 := n0_; have BK251 := n1_; have HB := n2_; have BK252 := n3_; have GW252 := n4_; have GE252 := n5_; have NB250_252 := n6_; have NB252_250 := n7_; have NB251_252 := n8_; have NB252_251 := n9_; clear n0_ n1_ n2_ n3_ n4_ n5_ n6_ n7_ n8_ n9_; clear hb hbox hg; have hnb55 := NB252_250.out; have hnc55 := NB250_252.out; have hnb56 := NB252_251.out; have hnc56 := NB251_252.out; obtain ⟨hcz57_0, hcz57_1, hfz57_0, hfz57_1⟩ := cl2 BK252; have hnb58 := NB251_250.out; have hnc58 := NB250_251.out; obtain ⟨hcz59_0, hcz59_1, hfz59_0, hfz59_1⟩ := cl2 BK251) | (go_at_call 33; (with_reducible refine (msg_acts.calls (bt a0 0) 0 true _ A50.out).mono ?_); rintro e w60 ⟨rfl, hb⟩; have n0_ := Bx2 BK250 hb NB250_252.out NB250_252.out; have n1_ := Bx2 BK251 hb NB251_252.out NB251_252.out; have n2_ := Ax (blk_below (g := gb252) (o := .cells #[.int .u8 (bt a0 0), .int .i64 0] 30 (0, 0)) (by (with_reducible repeat (first | refine blk_drewN ?_ _ | refine blk_drew ?_ | refine blk_alloc ?_ _)); refine blk_put (cs := #[.int .u8 (bt a0 0), .int .i64 0]) ?_ 1 _ rfl; (with_reducible repeat (first | refine blk_drewN ?_ _ | refine blk_drew ?_ | refine blk_alloc ?_ _)); refine blk_put (cs := #[.int .u8 0, .int .i64 0]) ?_ 0 _ rfl; (with_reducible repeat (first | refine blk_drewN ?_ _ | refine blk_drew ?_ | refine blk_alloc ?_ _)); exact BK252.out) hb); have n3_ := Bs3 HB hb GE250.out GE251.out GE252.out; clear BK250; clear BK251; clear BK252; clear HB; have BK250 := n0_; have BK251 := n1_; have BK252 := n2_; have HB := n3_; clear n0_ n1_ n2_ n3_; (try clear hb); (try clear hb2); (try clear hk); (try clear hi)))
      replace BK250 := Ax (blk_drew BK250.out)
      replace BK251 := Ax (blk_drew BK251.out)
      replace BK252 := Ax (blk_drew BK252.out)
      replace HB := Ax (below_drew1 HB.out)
      refine start_ (n := 8) (S := fun w' => w'.cell? ⟨gb252, 0, none⟩ = some (.int .u8 (bt a0 0)) ∧ w'.cell? ⟨gb252, 1, none⟩ = some (.int .i64 0) ∧ w'.cell? ⟨gb251, 0, none⟩ = some (.string (a0.extract 1 a0.size)) ∧ w'.cell? ⟨gb251, 1, none⟩ = some (.int .i64 0)) (ds := []) #[fa,fa,fa,fa,fa,fa,fa,fa] (by kernel_rfl) rfl rfl ⟨(blk_cell BK252.out 0).trans rfl, (blk_cell BK252.out 1).trans rfl, (blk_cell BK251.out 0).trans rfl, (blk_cell BK251.out 1).trans rfl⟩ (fun hHeld => ?_); refine with_tabW msg_GetAction.tab9 msg_GetAction.bits9 (fun HT_ HW_ => ?_)
      generalize w60.drew = w61 at BK250 BK251 BK252 HB hHeld ⊢
      refine pure_ (i := 1) (N := some 35) (v := ?_) (a' := ?_) #[fa,tr,fa,fa,fa,fa,fa,fa] rfl rfl (any_of HT_.out (by kernel_rfl)) (fun _ _ _ h => h) (Or.inl ⟨by rfl, ?_⟩) ?_ ?_
      rotate_left
      ·intro w'
       go_simp
       with_reducible rfl
      rotate_left
      ·simp only [sP]
       rfl
      refine pure_ (i := 2) (N := some 36) (v := ?_) (a' := ?_) #[fa,tr,tr,fa,fa,fa,fa,fa] rfl rfl (any_of HT_.out (by kernel_rfl)) (fun _ _ _ h => h) (Or.inl ⟨by rfl, ?_⟩) ?_ ?_
      rotate_left
      ·intro w'
       go_simp
       with_reducible rfl
      rotate_left
      ·simp only [sP]
       rfl
      refine pure_ (i := 3) (N := some 37) (v := ?_) (a' := ?_) #[fa,tr,tr,tr,fa,fa,fa,fa] rfl rfl (any_of HT_.out (by kernel_rfl)) (fun _ _ _ h => h) (Or.inl ⟨by rfl, ?_⟩) ?_ ?_
      rotate_left
      ·intro w'
       go_simp
       with_reducible rfl
      rotate_left
      ·simp only [sP]
       rfl
      refine take_ (i := 0) (N := some 34) (v := ?_) (a' := ?_) #[tr,tr,tr,tr,fa,fa,fa,fa] rfl rfl (take_ofW HT_.out HW_.out (by kernel_rfl)) (fun _ _ _ h => h) (Or.inl ⟨by rfl, ?_⟩) hHeld ?_ ?_
      rotate_left
      ·rintro w' ⟨s0, s1, s2, s3⟩
       go_simp
       with_reducible rfl
      rotate_left
      ·simp only [sP]
       rfl
      refine take_ (i := 4) (N := some 38) (v := ?_) (a' := ?_) #[tr,tr,tr,tr,tr,fa,fa,fa] rfl rfl (take_ofW HT_.out HW_.out (by kernel_rfl)) (fun _ _ _ h => h) (Or.inl ⟨by rfl, ?_⟩) hHeld ?_ ?_
      rotate_left
      ·rintro w' ⟨s0, s1, s2, s3⟩
       go_simp
       with_reducible rfl
      rotate_left
      ·simp only [sP]
       rfl
      refine one_ (i := 5) (N := none) #[tr,tr,tr,tr,tr,tr,fa,fa] rfl rfl (one_of HT_.out (by kernel_rfl)) (by decide) (fun K hK => ?_)
      have hs62 : w61.cell? ⟨gb250, 0, none⟩ = some (.int .u8 0) := (blk_cell BK250.out 0).trans rfl
      have hfs62 := blk_frozen BK250.out 0
      have hns62_1 := NB251_250.out
      have hns62_2 := NB252_250.out
      have hms62_1 := NB250_251.out
      have hms62_2 := NB250_252.out
      have hs63 : w61.cell? ⟨gb250, 1, none⟩ = some (.int .i64 0) := (blk_cell BK250.out 1).trans rfl
      have hfs63 := blk_frozen BK250.out 1
      have hns63_1 := NB251_250.out
      have hns63_2 := NB252_250.out
      have hms63_1 := NB250_251.out
      have hms63_2 := NB250_252.out
      refine skip_ (w1 := ?_) (by rfl) rfl ?_ ?_
      rotate_left
      ·go_simp
       rfl
      refine hK.out _ _ ⟨((cell_far (p := ⟨gb250, _, none⟩) NB252_250.out _).trans (((cell_far (p := ⟨gb250, _, none⟩) NB252_250.out _).trans (hHeld.1)))), ((cell_far (p := ⟨gb250, _, none⟩) NB252_250.out _).trans (((cell_far (p := ⟨gb250, _, none⟩) NB252_250.out _).trans (hHeld.2.1)))), ((cell_far (p := ⟨gb250, _, none⟩) NB251_250.out _).trans (((cell_far (p := ⟨gb250, _, none⟩) NB251_250.out _).trans (hHeld.2.2.1)))), ((cell_far (p := ⟨gb250, _, none⟩) NB251_250.out _).trans (((cell_far (p := ⟨gb250, _, none⟩) NB251_250.out _).trans (hHeld.2.2.2))))⟩ (fun hHeld => ?_)
      clear hK K
      refine pure_ (i := 6) (N := some 3) (v := ?_) (a' := ?_) #[tr,tr,tr,tr,tr,tr,tr,fa] rfl rfl (any_of HT_.out (by kernel_rfl)) (fun _ _ _ h => h) (Or.inl ⟨by rfl, ?_⟩) ?_ ?_
      rotate_left
      ·intro w'
       go_simp
       with_reducible rfl
      rotate_left
      ·simp only [sP]
       rfl
      refine pure_ (i := 7) (N := some 4) (v := ?_) (a' := ?_) #[tr,tr,tr,tr,tr,tr,tr,tr] rfl rfl (any_of HT_.out (by kernel_rfl)) (fun _ _ _ h => h) (Or.inl ⟨by rfl, ?_⟩) ?_ ?_
      rotate_left
      ·intro w'
       go_simp
       with_reducible rfl
      rotate_left
      ·simp only [sP]
       rfl
      refine done_ (done_of HT_.out (by kernel_rfl)) ?_
      try go_wp2
      refine bodyPost_ret (results_ctt rfl _ _ gb250 30 #[.int .u8 (bt a0 0), .int .i64 0] (0, 0) _ rfl (by (with_reducible repeat (first | refine blk_drewN ?_ _ | refine blk_drew ?_ | refine blk_alloc ?_ _)); refine blk_put (cs := #[.int .u8 (bt a0 0), .int .i64 0]) ?_ 1 _ rfl; (with_reducible repeat (first | refine blk_drewN ?_ _ | refine blk_drew ?_ | refine blk_alloc ?_ _)); refine blk_put (cs := #[.int .u8 0, .int .i64 0]) ?_ 0 _ rfl; (with_reducible repeat (first | refine blk_drewN ?_ _ | refine blk_drew ?_ | refine blk_alloc ?_ _)); exact BK250.out) Try.underlying30 rfl (by kernel_rfl)) rfl ?_
      exact ⟨eS, bw3 HB.out GE250.out GE251.out GE252.out⟩
     ·replace c51 := Bool.eq_false_iff.mpr c51
      subst c51
      have H1 : (some (0, 0, (⟨#[]⟩ : ByteArray), 7)) = some (r1, r2, r3, r4) := by rw [if_neg (show ¬ (false = true) by decide)] at H; exact H
      clear H
      have H := H1
      clear H1
      simp only [Option.some.injEq, Prod.mk.injEq] at H
      obtain ⟨rfl, rfl, rfl, rfl⟩ := H
      go_enter Try.func21, Try.ntmps21
      go_wp2_with (first | ((with_reducible refine gate_dst (N := 2) rfl ?_); refine box_event ?hg (N := 2) ?hd (cs := #[.int .u8 0, .int .i64 0]) (t := 30) ?hr ?_; (case hd => rfl); (case hg => rfl); (case hr => first | (go_simp; done) | (go_simp; rfl)); intro gb250 hg w64 hbox hb; have n0_ := Bs0 HB hb; have n1_ := Ax (hbox); have n2_ := Gw0 HB hg; have n3_ := Gw0 HB hg; clear HB; have HB := n0_; have BK250 := n1_; have GW250 := n2_; have GE250 := n3_; clear n0_ n1_ n2_ n3_; clear hb hbox hg) | ((with_reducible refine gate_dst (N := 13) rfl ?_); refine box_event ?hg (N := 13) ?hd (cs := #[.string (a0.extract 1 a0.size), .int .i64 0]) (t := 56) ?hr ?_; (case hd => rfl); (case hg => rfl); (case hr => first | (go_simp; done) | (go_simp; rfl)); intro gb251 hg w65 hbox hb; have n0_ := Bx0 BK250 hb; have n1_ := Bs1 HB hb GE250.out; have n2_ := Ax (hbox); have n3_ := Gw1 HB hg GE250.out; have n4_ := Gw1 HB hg GE250.out; have n5_ := Nl0 BK250 hg; have n6_ := Nr0 BK250 hg; clear BK250; clear HB; have BK250 := n0_; have HB := n1_; have BK251 := n2_; have GW251 := n3_; have GE251 := n4_; have NB250_251 := n5_; have NB251_250 := n6_; clear n0_ n1_ n2_ n3_ n4_ n5_ n6_; clear hb hbox hg; have p7 : 0 ≤ (0 : Int) := (by omega); have q7 : 0 < a0.size := (by have : (0 : Int) < (a0.size : Int) := of_decide_eq_true (by first | (with_reducible assumption) | assumption); first | omega | (simp only [ByteArray.size_append]; omega)); have hx7 : ∀ h : 0 < a0.size, ((a0[0]'h).toNat : Int) = bt a0 0 := bt_at a0 0; clear p7; have qi7 : (0 < (a0.size : Int)) = True := eq_true (of_decide_eq_true (by first | (with_reducible assumption) | assumption)); replace q7 := eq_true q7) | ((with_reducible refine gate_dst (N := 6) rfl ?_); refine box_event ?hg (N := 6) ?hd (cs := #[.int .u8 0, .int .i64 0]) (t := 30) ?hr ?_; (case hd => rfl); (case hg => rfl); (case hr => first | (go_simp; done) | (go_simp; rfl)); intro gb252 hg w66 hbox hb; have n0_ := Bx0 BK250 hb; have n1_ := Bx0 BK251 hb; have n2_ := Bs2 HB hb GE250.out GE251.out; have n3_ := Ax (hbox); have n4_ := Gw2 HB hg GE250.out GE251.out; have n5_ := Gw2 HB hg GE250.out GE251.out; have n6_ := Nl0 BK250 hg; have n7_ := Nr0 BK250 hg; have n8_ := Nl0 BK251 hg; have n9_ := Nr0 BK251 hg; clear BK250; clear BK251; clear HB; have BK250 := n0_; have BK251 := n1_; have HB := n2_; have BK252 := n3_; have GW252 := n4_; have GE252 := n5_; have NB250_252 := n6_; have NB252_250 := n7_; have NB251_252 := n8_; have NB252_251 := n9_; clear n0_ n1_ n2_ n3_ n4_ n5_ n6_ n7_ n8_ n9_; clear hb hbox hg; have hnb67 := NB252_250.out; have hnc67 := NB250_252.out; have hnb68 := NB252_251.out; have hnc68 := NB251_252.out; obtain ⟨hcz69_0, hcz69_1, hfz69_0, hfz69_1⟩ := cl2 BK252; have hnb70 := NB251_250.out; have hnc70 := NB250_251.out; obtain ⟨hcz71_0, hcz71_1, hfz71_0, hfz71_1⟩ := cl2 BK251) | (go_at_call 33; (with_reducible refine (msg_acts.calls (bt a0 0) 0 false _ A50.out).mono ?_); rintro e w72 ⟨rfl, hb⟩; have n0_ := Bx2 BK250 hb NB250_252.out NB250_252.out; have n1_ := Bx2 BK251 hb NB251_252.out NB251_252.out; have n2_ := Ax (blk_below (g := gb252) (o := .cells #[.int .u8 (bt a0 0), .int .i64 0] 30 (0, 0)) (by (with_reducible repeat (first | refine blk_drewN ?_ _ | refine blk_drew ?_ | refine blk_alloc ?_ _)); refine blk_put (cs := #[.int .u8 (bt a0 0), .int .i64 0]) ?_ 1 _ rfl; (with_reducible repeat (first | refine blk_drewN ?_ _ | refine blk_drew ?_ | refine blk_alloc ?_ _)); refine blk_put (cs := #[.int .u8 0, .int .i64 0]) ?_ 0 _ rfl; (with_reducible repeat (first | refine blk_drewN ?_ _ | refine blk_drew ?_ | refine blk_alloc ?_ _)); exact BK252.out) hb); have n3_ := Bs3 HB hb GE250.out GE251.out GE252.out; clear BK250; clear BK251; clear BK252; clear HB; have BK250 := n0_; have BK251 := n1_; have BK252 := n2_; have HB := n3_; clear n0_ n1_ n2_ n3_; (try clear hb); (try clear hb2); (try clear hk); (try clear hi); obtain ⟨hcz73_0, hcz73_1, hfz73_0, hfz73_1⟩ := cl2 BK250))
      refine bodyPost_ret (results_ctt rfl _ _ gb250 30 #[.int .u8 0, .int .i64 0] (0, 0) _ rfl (by (with_reducible repeat (first | refine blk_drewN ?_ _ | refine blk_drew ?_ | refine blk_alloc ?_ _)); refine blk_put (cs := #[.int .u8 0, .int .i64 0]) ?_ 1 _ rfl; (with_reducible repeat (first | refine blk_drewN ?_ _ | refine blk_drew ?_ | refine blk_alloc ?_ _)); refine blk_put (cs := #[.int .u8 0, .int .i64 0]) ?_ 0 _ rfl; (with_reducible repeat (first | refine blk_drewN ?_ _ | refine blk_drew ?_ | refine blk_alloc ?_ _)); exact BK250.out) Try.underlying30 rfl (by kernel_rfl)) rfl ?_
      exact ⟨eS, bw3 HB.out GE250.out GE251.out GE252.out⟩
   ·rw [if_neg c6] at H
    exact absurd H (by simp)
  ·rw [if_neg c5] at H
   exact absurd H (by simp)
def api_Prefix.f (k : Nat) (s0_0 : ByteArray) (s0_1 : Int) : Option (Bool × Int × Int × Int × ByteArray × Int) := (msg_GetPrefix.f k s0_0).bind fun t => some (t.1, t.2.1, t.2.2.1, t.2.2.2.1, (if s0_1 = 0 then t.2.2.2.2.1 else s0_0), (if s0_1 = 0 then t.2.2.2.2.2 else s0_1))
theorem api_Prefix.mono : ∀ a0 a1 k, LeO (api_Prefix.f k a0 a1) (api_Prefix.f (k + 1) a0 a1) := by
  intro a0 a1 k
  unfold api_Prefix.f
  repeat' first
      | (with_reducible exact msg_GetPrefix.mono _ _)
      | (with_reducible exact LeO.refl _)
      | (with_reducible exact LeO.none _)
      | (with_reducible refine LeO.ite ?_ ?_)
      | (with_reducible refine LeO.bind ?_ (fun _ => ?_))
      | exact msg_GetPrefix.mono _ _
      | exact LeO.none _
      | refine LeO.ite ?_ ?_
      | refine LeO.bind ?_ (fun _ => ?_)
set_option maxHeartbeats 8000000 in
set_option maxRecDepth 100000 in
theorem api_Prefix.calls0 (k g : Nat) (s : ByteArray) (y : Int) (r1 : Bool) (r2 : Int) (r3 : Int) (r4 : Int) (r5 : ByteArray) (r6 : Int) (w0 w : World) (hI : IsS58 w0 w g s y) (hB : Below w0.heap.size w0 w) (h : msg_GetPrefix.f k s = some (r1, r2, r3, r4, r5, r6)) :
    Calls Try.prog 29 #[.pointer (some ⟨g, 0, none⟩), .func (.func 17) #[] #[]] w fun e w' => e = .returned (.agg #[.bool r1, .int .u64 r2, .int .u64 r3, .int .i64 r4]) ∧ IsS58 w0 w' g (if y = 0 then r5 else s) (if y = 0 then r6 else y) ∧ Below w0.heap.size w0 w' ∧ KeepBut w w' g none := by
  have HI0 := Aside0.mk hI
  have HB0 := Aside0.mk hB
  have H := Aside0.mk h
  have hgz := hI.1
  have hc0 := cellS58_0 hgz
  have hca : (w.alloc (.cells #[.bool false, .int .u64 0, .int .u64 0, .int .i64 0] 27)).cell? ⟨g, 0, none⟩ = some (.string s) := (blk_cell (blk_alloc hgz _) 0).trans rfl
  have hlg := Aside0.mk (blk_lt hgz)
  clear h hI hB hgz
  go_enter Try.func29, Try.ntmps29
  go_wp2_with (fail)
  refine (msg_GetPrefix.calls k s r1 r2 r3 r4 r5 r6 _ H.out).mono ?_
  rintro e w5 ⟨rfl, hb⟩
  have BG5 := Aside0.mk (blk_below (blk_alloc HI0.out.1 (.cells #[.bool false, .int .u64 0, .int .u64 0, .int .i64 0] 27)) hb)
  have BR5 := Aside0.mk (blk_below (heap_alloc_new w (.cells #[.bool false, .int .u64 0, .int .u64 0, .int .i64 0] 27)) hb)
  have HB5 := Aside0.mk (below_step (below_alloc HB0.out (.cells #[.bool false, .int .u64 0, .int .u64 0, .int .i64 0] 27)) hb)
  have HK5 := Aside0.mk (KeepBut.of_below (below_step (below_alloc (Below.refl w.heap.size w) (.cells #[.bool false, .int .u64 0, .int .u64 0, .int .i64 0] 27)) hb) g none)
  have hL5 : Aside0 (w.heap.size < w5.heap.size) := ⟨Nat.lt_of_lt_of_le (blk_lt (heap_alloc_new w _)) hb.size⟩
  clear hb hc0 hca
  obtain ⟨gr, hgr⟩ : ∃ gr, w.heap.size = gr := ⟨_, rfl⟩
  have HGR := Aside0.mk hgr
  have BR5' := Aside0.mk (hgr ▸ BR5.out)
  rw [hgr]
  clear BR5 hgr
  have BP6 := Aside0.mk (heap_alloc_new w5 (.cells #[.bool r1, .int .u64 r2, .int .u64 r3, .int .i64 r4] 27))
  have BR6 := Aside0.mk (blk_alloc BR5'.out (.cells #[.bool r1, .int .u64 r2, .int .u64 r3, .int .i64 r4] 27))
  have BG6 := Aside0.mk (blk_alloc BG5.out (.cells #[.bool r1, .int .u64 r2, .int .u64 r3, .int .i64 r4] 27))
  have HB6 := Aside0.mk (below_alloc HB5.out (.cells #[.bool r1, .int .u64 r2, .int .u64 r3, .int .i64 r4] 27))
  have HK6 := Aside0.mk (keep_alloc HK5.out (.cells #[.bool r1, .int .u64 r2, .int .u64 r3, .int .i64 r4] 27))
  by_cases hy : y = 0
  · subst hy
    have ngr : g ≠ gr := by have := hlg.out; have := HGR.out; omega
    have ng5 : g ≠ w5.heap.size := fun e => by have := blk_lt BG5.out; omega
    have hg0 := (blk_cell BG6.out 0).trans rfl
    have hg1 := (blk_cell BG6.out 1).trans rfl
    have hgf0 := blk_frozen BG6.out 0
    have hgf1 := blk_frozen BG6.out 1
    have BG7 := Aside0.mk (blk_put (blk_put BG6.out 0 (.string r5) rfl) 1 (.int .i64 r6) rfl)
    have BP7 := Aside0.mk (blk_far (blk_far BP6.out (p := ⟨g, 0, none⟩) (by simpa using fun e => ng5 e.symm) (.string r5)) (p := ⟨g, 1, none⟩) (by simpa using fun e => ng5 e.symm) (.int .i64 r6))
    have BR7 := Aside0.mk (blk_far (blk_far BR6.out (p := ⟨g, 0, none⟩) (by simpa using fun e => ngr e.symm) (.string r5)) (p := ⟨g, 1, none⟩) (by simpa using fun e => ngr e.symm) (.int .i64 r6))
    have HB7 := Aside0.mk ((HB6.out.setCell (p := ⟨g, 0, none⟩) HI0.out.2 (.string r5)).setCell (p := ⟨g, 1, none⟩) HI0.out.2 (.int .i64 r6))
    have HK7 := Aside0.mk ((HK6.out.set_ 0 (.string r5)).set_ 1 (.int .i64 r6))
    have hp0 := (blk_cell BP7.out 0).trans (rfl : _ = some (Value.bool r1))
    have hp1 := (blk_cell BP7.out 1).trans (rfl : _ = some (Value.int .u64 r2))
    have hp2 := (blk_cell BP7.out 2).trans (rfl : _ = some (Value.int .u64 r3))
    have hp3 := (blk_cell BP7.out 3).trans (rfl : _ = some (Value.int .i64 r4))
    have hr0 := (blk_cell BR7.out 0).trans (rfl : _ = some (Value.bool false))
    have hr1 := (blk_cell BR7.out 1).trans (rfl : _ = some (Value.int .u64 0))
    have hr2 := (blk_cell BR7.out 2).trans (rfl : _ = some (Value.int .u64 0))
    have hr3 := (blk_cell BR7.out 3).trans (rfl : _ = some (Value.int .i64 0))
    have hf0 := blk_frozen BR7.out 0
    have hf1 := blk_frozen BR7.out 1
    have hf2 := blk_frozen BR7.out 2
    have hf3 := blk_frozen BR7.out 3
    go_wp2_with (fail)
    refine bodyPost_ret (results_cell_row rfl _ _ gr 27 #[.bool r1, .int .u64 r2, .int .u64 r3, .int .i64 r4] (0, 0) _ rfl (blk_put (blk_put (blk_put (blk_put (BR7.out) 0 (.bool r1) rfl) 1 (.int .u64 r2) rfl) 2 (.int .u64 r3) rfl) 3 (.int .i64 r4) rfl) Try.underlying27 rfl (by kernel_rfl)) rfl ?_
    have hgw : w0.heap.size ≤ gr := by have := HGR.out; have := HB0.out.size; omega
    refine ⟨rfl, ⟨?_, HI0.out.2⟩, ?_, ?_⟩
    · simpa using blk_far (blk_far (blk_far (blk_far (BG7.out) (p := ⟨gr, 0, none⟩) (by simpa using ngr) _) (p := ⟨gr, 1, none⟩) (by simpa using ngr) _) (p := ⟨gr, 2, none⟩) (by simpa using ngr) _) (p := ⟨gr, 3, none⟩) (by simpa using ngr) _
    · exact ((((HB7.out).setCell (p := ⟨gr, 0, none⟩) hgw _).setCell (p := ⟨gr, 1, none⟩) hgw _).setCell (p := ⟨gr, 2, none⟩) hgw _).setCell (p := ⟨gr, 3, none⟩) hgw _
    · exact keep_far (keep_far (keep_far (keep_far (HK7.out) (p := ⟨gr, 0, none⟩) (by have := HGR.out; simp; omega) _) (p := ⟨gr, 1, none⟩) (by have := HGR.out; simp; omega) _) (p := ⟨gr, 2, none⟩) (by have := HGR.out; simp; omega) _) (p := ⟨gr, 3, none⟩) (by have := HGR.out; simp; omega) _
  · skip
    have ngr : g ≠ gr := by have := hlg.out; have := HGR.out; omega
    have ng5 : g ≠ w5.heap.size := fun e => by have := blk_lt BG5.out; omega
    have BG7 := BG6
    have BP7 := BP6
    have BR7 := BR6
    have HB7 := HB6
    have HK7 := HK6
    have hg1 := (blk_cell BG6.out 1).trans rfl
    have hyb : (y == 0) = false := beq_eq_false_iff_ne.mpr hy
    have hp0 := (blk_cell BP7.out 0).trans (rfl : _ = some (Value.bool r1))
    have hp1 := (blk_cell BP7.out 1).trans (rfl : _ = some (Value.int .u64 r2))
    have hp2 := (blk_cell BP7.out 2).trans (rfl : _ = some (Value.int .u64 r3))
    have hp3 := (blk_cell BP7.out 3).trans (rfl : _ = some (Value.int .i64 r4))
    have hr0 := (blk_cell BR7.out 0).trans (rfl : _ = some (Value.bool false))
    have hr1 := (blk_cell BR7.out 1).trans (rfl : _ = some (Value.int .u64 0))
    have hr2 := (blk_cell BR7.out 2).trans (rfl : _ = some (Value.int .u64 0))
    have hr3 := (blk_cell BR7.out 3).trans (rfl : _ = some (Value.int .i64 0))
    have hf0 := blk_frozen BR7.out 0
    have hf1 := blk_frozen BR7.out 1
    have hf2 := blk_frozen BR7.out 2
    have hf3 := blk_frozen BR7.out 3
    go_wp2_with (fail)
    refine bodyPost_ret (results_cell_row rfl _ _ gr 27 #[.bool r1, .int .u64 r2, .int .u64 r3, .int .i64 r4] (0, 0) _ rfl (blk_put (blk_put (blk_put (blk_put (BR7.out) 0 (.bool r1) rfl) 1 (.int .u64 r2) rfl) 2 (.int .u64 r3) rfl) 3 (.int .i64 r4) rfl) Try.underlying27 rfl (by kernel_rfl)) rfl ?_
    have hgw : w0.heap.size ≤ gr := by have := HGR.out; have := HB0.out.size; omega
    refine ⟨rfl, ⟨?_, HI0.out.2⟩, ?_, ?_⟩
    · simpa [hy] using blk_far (blk_far (blk_far (blk_far (BG7.out) (p := ⟨gr, 0, none⟩) (by simpa using ngr) _) (p := ⟨gr, 1, none⟩) (by simpa using ngr) _) (p := ⟨gr, 2, none⟩) (by simpa using ngr) _) (p := ⟨gr, 3, none⟩) (by simpa using ngr) _
    · exact ((((HB7.out).setCell (p := ⟨gr, 0, none⟩) hgw _).setCell (p := ⟨gr, 1, none⟩) hgw _).setCell (p := ⟨gr, 2, none⟩) hgw _).setCell (p := ⟨gr, 3, none⟩) hgw _
    · exact keep_far (keep_far (keep_far (keep_far (HK7.out) (p := ⟨gr, 0, none⟩) (by have := HGR.out; simp; omega) _) (p := ⟨gr, 1, none⟩) (by have := HGR.out; simp; omega) _) (p := ⟨gr, 2, none⟩) (by have := HGR.out; simp; omega) _) (p := ⟨gr, 3, none⟩) (by have := HGR.out; simp; omega) _
theorem api_Prefix.calls (k : Nat) (g : Nat) (s0_0 : ByteArray) (s0_1 : Int) (r1 : Bool) (r2 : Int) (r3 : Int) (r4 : Int) (r5 : ByteArray) (r6 : Int) (w0 w : World) (hI : IsS58 w0 w g s0_0 s0_1) (hB : Below w0.heap.size w0 w) (h : api_Prefix.f k s0_0 s0_1 = some (r1, r2, r3, r4, r5, r6)) :
    Calls Try.prog 29 #[.pointer (some ⟨g, 0, none⟩), .func (.func 17) #[] #[]] w fun e w' => e = .returned (.agg #[.bool r1, .int .u64 r2, .int .u64 r3, .int .i64 r4]) ∧ IsS58 w0 w' g r5 r6 ∧ Below w0.heap.size w0 w' ∧ KeepBut w w' g none := by
  obtain ⟨⟨t1, t2, t3, t4, t5, t6⟩, ht, h⟩ := Option.bind_eq_some_iff.mp h
  simp only [Option.some.injEq, Prod.mk.injEq] at h
  obtain ⟨rfl, rfl, rfl, rfl, rfl, rfl⟩ := h
  exact api_Prefix.calls0 k g s0_0 s0_1 t1 t2 t3 t4 t5 t6 w0 w hI hB ht
def api_Action.f (k : Nat) (s0_0 : ByteArray) (s0_1 : Int) : Option (Int × Int × ByteArray × Int) := (msg_GetAction.f k s0_0).bind fun t => some (t.1, t.2.1, (if s0_1 = 0 then t.2.2.1 else s0_0), (if s0_1 = 0 then t.2.2.2 else s0_1))
theorem api_Action.mono : ∀ a0 a1 k, LeO (api_Action.f k a0 a1) (api_Action.f (k + 1) a0 a1) := by
  intro a0 a1 k
  unfold api_Action.f
  repeat' first
      | (with_reducible exact msg_GetAction.mono _ _)
      | (with_reducible exact LeO.refl _)
      | (with_reducible exact LeO.none _)
      | (with_reducible refine LeO.ite ?_ ?_)
      | (with_reducible refine LeO.bind ?_ (fun _ => ?_))
      | exact msg_GetAction.mono _ _
      | exact LeO.none _
      | refine LeO.ite ?_ ?_
      | refine LeO.bind ?_ (fun _ => ?_)
set_option maxHeartbeats 8000000 in
set_option maxRecDepth 100000 in
theorem api_Action.calls0 (k g : Nat) (s : ByteArray) (y : Int) (r1 : Int) (r2 : Int) (r3 : ByteArray) (r4 : Int) (w0 w : World) (hI : IsS58 w0 w g s y) (hB : Below w0.heap.size w0 w) (h : msg_GetAction.f k s = some (r1, r2, r3, r4)) :
    Calls Try.prog 30 #[.pointer (some ⟨g, 0, none⟩), .func (.func 21) #[] #[]] w fun e w' => e = .returned (.agg #[.int .u8 r1, .int .i64 r2]) ∧ IsS58 w0 w' g (if y = 0 then r3 else s) (if y = 0 then r4 else y) ∧ Below w0.heap.size w0 w' ∧ KeepBut w w' g none := by
  have HI0 := Aside0.mk hI
  have HB0 := Aside0.mk hB
  have H := Aside0.mk h
  have hgz := hI.1
  have hc0 := cellS58_0 hgz
  have hca : (w.alloc (.cells #[.int .u8 0, .int .i64 0] 30)).cell? ⟨g, 0, none⟩ = some (.string s) := (blk_cell (blk_alloc hgz _) 0).trans rfl
  have hlg := Aside0.mk (blk_lt hgz)
  clear h hI hB hgz
  go_enter Try.func30, Try.ntmps30
  go_wp2_with (fail)
  refine (msg_GetAction.calls k s r1 r2 r3 r4 _ H.out).mono ?_
  rintro e w5 ⟨rfl, hb⟩
  have BG5 := Aside0.mk (blk_below (blk_alloc HI0.out.1 (.cells #[.int .u8 0, .int .i64 0] 30)) hb)
  have BR5 := Aside0.mk (blk_below (heap_alloc_new w (.cells #[.int .u8 0, .int .i64 0] 30)) hb)
  have HB5 := Aside0.mk (below_step (below_alloc HB0.out (.cells #[.int .u8 0, .int .i64 0] 30)) hb)
  have HK5 := Aside0.mk (KeepBut.of_below (below_step (below_alloc (Below.refl w.heap.size w) (.cells #[.int .u8 0, .int .i64 0] 30)) hb) g none)
  have hL5 : Aside0 (w.heap.size < w5.heap.size) := ⟨Nat.lt_of_lt_of_le (blk_lt (heap_alloc_new w _)) hb.size⟩
  clear hb hc0 hca
  obtain ⟨gr, hgr⟩ : ∃ gr, w.heap.size = gr := ⟨_, rfl⟩
  have HGR := Aside0.mk hgr
  have BR5' := Aside0.mk (hgr ▸ BR5.out)
  rw [hgr]
  clear BR5 hgr
  have BP6 := Aside0.mk (heap_alloc_new w5 (.cells #[.int .u8 r1, .int .i64 r2] 30))
  have BR6 := Aside0.mk (blk_alloc BR5'.out (.cells #[.int .u8 r1, .int .i64 r2] 30))
  have BG6 := Aside0.mk (blk_alloc BG5.out (.cells #[.int .u8 r1, .int .i64 r2] 30))
  have HB6 := Aside0.mk (below_alloc HB5.out (.cells #[.int .u8 r1, .int .i64 r2] 30))
  have HK6 := Aside0.mk (keep_alloc HK5.out (.cells #[.int .u8 r1, .int .i64 r2] 30))
  by_cases hy : y = 0
  · subst hy
    have ngr : g ≠ gr := by have := hlg.out; have := HGR.out; omega
    have ng5 : g ≠ w5.heap.size := fun e => by have := blk_lt BG5.out; omega
    have hg0 := (blk_cell BG6.out 0).trans rfl
    have hg1 := (blk_cell BG6.out 1).trans rfl
    have hgf0 := blk_frozen BG6.out 0
    have hgf1 := blk_frozen BG6.out 1
    have BG7 := Aside0.mk (blk_put (blk_put BG6.out 0 (.string r3) rfl) 1 (.int .i64 r4) rfl)
    have BP7 := Aside0.mk (blk_far (blk_far BP6.out (p := ⟨g, 0, none⟩) (by simpa using fun e => ng5 e.symm) (.string r3)) (p := ⟨g, 1, none⟩) (by simpa using fun e => ng5 e.symm) (.int .i64 r4))
    have BR7 := Aside0.mk (blk_far (blk_far BR6.out (p := ⟨g, 0, none⟩) (by simpa using fun e => ngr e.symm) (.string r3)) (p := ⟨g, 1, none⟩) (by simpa using fun e => ngr e.symm) (.int .i64 r4))
    have HB7 := Aside0.mk ((HB6.out.setCell (p := ⟨g, 0, none⟩) HI0.out.2 (.string r3)).setCell (p := ⟨g, 1, none⟩) HI0.out.2 (.int .i64 r4))
    have HK7 := Aside0.mk ((HK6.out.set_ 0 (.string r3)).set_ 1 (.int .i64 r4))
    have hp0 := (blk_cell BP7.out 0).trans (rfl : _ = some (Value.int .u8 r1))
    have hp1 := (blk_cell BP7.out 1).trans (rfl : _ = some (Value.int .i64 r2))
    have hr0 := (blk_cell BR7.out 0).trans (rfl : _ = some (Value.int .u8 0))
    have hr1 := (blk_cell BR7.out 1).trans (rfl : _ = some (Value.int .i64 0))
    have hf0 := blk_frozen BR7.out 0
    have hf1 := blk_frozen BR7.out 1
    go_wp2_with (fail)
    refine bodyPost_ret (results_cell_row rfl _ _ gr 30 #[.int .u8 r1, .int .i64 r2] (0, 0) _ rfl (blk_put (blk_put (BR7.out) 0 (.int .u8 r1) rfl) 1 (.int .i64 r2) rfl) Try.underlying30 rfl (by kernel_rfl)) rfl ?_
    have hgw : w0.heap.size ≤ gr := by have := HGR.out; have := HB0.out.size; omega
    refine ⟨rfl, ⟨?_, HI0.out.2⟩, ?_, ?_⟩
    · simpa using blk_far (blk_far (BG7.out) (p := ⟨gr, 0, none⟩) (by simpa using ngr) _) (p := ⟨gr, 1, none⟩) (by simpa using ngr) _
    · exact ((HB7.out).setCell (p := ⟨gr, 0, none⟩) hgw _).setCell (p := ⟨gr, 1, none⟩) hgw _
    · exact keep_far (keep_far (HK7.out) (p := ⟨gr, 0, none⟩) (by have := HGR.out; simp; omega) _) (p := ⟨gr, 1, none⟩) (by have := HGR.out; simp; omega) _
  · skip
    have ngr : g ≠ gr := by have := hlg.out; have := HGR.out; omega
    have ng5 : g ≠ w5.heap.size := fun e => by have := blk_lt BG5.out; omega
    have BG7 := BG6
    have BP7 := BP6
    have BR7 := BR6
    have HB7 := HB6
    have HK7 := HK6
    have hg1 := (blk_cell BG6.out 1).trans rfl
    have hyb : (y == 0) = false := beq_eq_false_iff_ne.mpr hy
    have hp0 := (blk_cell BP7.out 0).trans (rfl : _ = some (Value.int .u8 r1))
    have hp1 := (blk_cell BP7.out 1).trans (rfl : _ = some (Value.int .i64 r2))
    have hr0 := (blk_cell BR7.out 0).trans (rfl : _ = some (Value.int .u8 0))
    have hr1 := (blk_cell BR7.out 1).trans (rfl : _ = some (Value.int .i64 0))
    have hf0 := blk_frozen BR7.out 0
    have hf1 := blk_frozen BR7.out 1
    go_wp2_with (fail)
    refine bodyPost_ret (results_cell_row rfl _ _ gr 30 #[.int .u8 r1, .int .i64 r2] (0, 0) _ rfl (blk_put (blk_put (BR7.out) 0 (.int .u8 r1) rfl) 1 (.int .i64 r2) rfl) Try.underlying30 rfl (by kernel_rfl)) rfl ?_
    have hgw : w0.heap.size ≤ gr := by have := HGR.out; have := HB0.out.size; omega
    refine ⟨rfl, ⟨?_, HI0.out.2⟩, ?_, ?_⟩
    · simpa [hy] using blk_far (blk_far (BG7.out) (p := ⟨gr, 0, none⟩) (by simpa using ngr) _) (p := ⟨gr, 1, none⟩) (by simpa using ngr) _
    · exact ((HB7.out).setCell (p := ⟨gr, 0, none⟩) hgw _).setCell (p := ⟨gr, 1, none⟩) hgw _
    · exact keep_far (keep_far (HK7.out) (p := ⟨gr, 0, none⟩) (by have := HGR.out; simp; omega) _) (p := ⟨gr, 1, none⟩) (by have := HGR.out; simp; omega) _
theorem api_Action.calls (k : Nat) (g : Nat) (s0_0 : ByteArray) (s0_1 : Int) (r1 : Int) (r2 : Int) (r3 : ByteArray) (r4 : Int) (w0 w : World) (hI : IsS58 w0 w g s0_0 s0_1) (hB : Below w0.heap.size w0 w) (h : api_Action.f k s0_0 s0_1 = some (r1, r2, r3, r4)) :
    Calls Try.prog 30 #[.pointer (some ⟨g, 0, none⟩), .func (.func 21) #[] #[]] w fun e w' => e = .returned (.agg #[.int .u8 r1, .int .i64 r2]) ∧ IsS58 w0 w' g r3 r4 ∧ Below w0.heap.size w0 w' ∧ KeepBut w w' g none := by
  obtain ⟨⟨t1, t2, t3, t4⟩, ht, h⟩ := Option.bind_eq_some_iff.mp h
  simp only [Option.some.injEq, Prod.mk.injEq] at h
  obtain ⟨rfl, rfl, rfl, rfl⟩ := h
  exact api_Action.calls0 k g s0_0 s0_1 t1 t2 t3 t4 w0 w hI hB ht
mutual
def msg_Get.j0 : Nat → ByteArray → Int → Int → Int → Int → Int → Bool → Int → Int → Int → Int → Int → Int → Int → Option (Int × Int × Int × Int × Bool × Int × Int × Int × Int × Int × Int × Int × Int)
 | 0, _, _, _, _, _, _, _, _, _, _, _, _, _, _ => none
 | k + 1, x260000, x260001, x270000, x270001, x270002, x270003, x270004, x270005, x270006, x270007, x270008, x270009, x270010, x270011 => if x260001 = 0 then (if x260000.toList = ([] : List UInt8) then ((msg_Check.f k x270000 x270001 x270002 x270003 x270004 x270005 x270006 x270007 x270008 x270009 x270010 x270011).bind fun t295 => (msg_Get.j1 k (t295 != 0) x270000 x270001 x270002 x270003 x270004 x270005 x270006 x270007 x270008 x270009 x270010 x270011)) else (msg_Get.j1 k true x270000 x270001 x270002 x270003 x270004 x270005 x270006 x270007 x270008 x270009 x270010 x270011)) else (msg_Get.j1 k true x270000 x270001 x270002 x270003 x270004 x270005 x270006 x270007 x270008 x270009 x270010 x270011)
def msg_Get.j1 : Nat → Bool → Int → Int → Int → Int → Bool → Int → Int → Int → Int → Int → Int → Int → Option (Int × Int × Int × Int × Bool × Int × Int × Int × Int × Int × Int × Int × Int)
 | 0, _, _, _, _, _, _, _, _, _, _, _, _, _ => none
 | k + 1, x82, x270000, x270001, x270002, x270003, x270004, x270005, x270006, x270007, x270008, x270009, x270010, x270011 => if x82 = true then (some (0, 0, 0, 0, false, 0, 0, 0, 0, 0, 0, 0, 7)) else (some (x270000, x270001, x270002, x270003, x270004, x270005, x270006, x270007, x270008, x270009, x270010, x270011, 0))
end
def msg_Get.f (k : Nat) (a0 : ByteArray) : Option (Int × Int × Int × Int × Bool × Int × Int × Int × Int × Int × Int × Int × Int) := if a0.toList = ([] : List UInt8) then (some (0, 0, 0, 0, false, 0, 0, 0, 0, 0, 0, 0, 7)) else (if 1 ≤ (a0.size : Int) then (if 0 < (a0.size : Int) then ((num_Reader_Many.f k (a0.extract 1 a0.size) 0 1048576).bind fun bt260 => ((num_Reader_Num.f k bt260.2.1 bt260.2.2).bind fun bt263 => ((num_Reader_Num.f k bt263.2.1 bt263.2.2).bind fun bt266 => (if (bt a0 0) = 3 then ((api_Prefix.f k bt266.2.1 bt266.2.2).bind fun bt270 => ((api_Action.f k bt270.2.2.2.2.1 bt270.2.2.2.2.2).bind fun bt276 => (msg_Get.j0 k bt276.2.2.1 bt276.2.2.2 (bt a0 0) bt260.1 bt263.1 (wrap64 (bt266.1)) bt270.1 bt270.2.1 bt270.2.2.1 bt270.2.2.2.1 bt276.1 bt276.2.1 0 0))) else (if (bt a0 0) = 4 then ((api_Prefix.f k bt266.2.1 bt266.2.2).bind fun bt280 => (msg_Get.j0 k bt280.2.2.2.2.1 bt280.2.2.2.2.2 (bt a0 0) bt260.1 bt263.1 (wrap64 (bt266.1)) bt280.1 bt280.2.1 bt280.2.2.1 bt280.2.2.2.1 0 0 0 0)) else (if (bt a0 0) = 5 then ((num_Reader_Many.f k bt266.2.1 bt266.2.2 65536).bind fun bt286 => ((num_Reader_Many.f k bt286.2.1 bt286.2.2 1048576).bind fun bt289 => (msg_Get.j0 k bt289.2.1 bt289.2.2 (bt a0 0) bt260.1 bt263.1 (wrap64 (bt266.1)) false 0 0 0 0 0 bt286.1 bt289.1))) else (if (bt a0 0) = 6 then ((num_Reader_Many.f k bt266.2.1 bt266.2.2 65536).bind fun bt292 => (msg_Get.j0 k bt292.2.1 bt292.2.2 (bt a0 0) bt260.1 bt263.1 (wrap64 (bt266.1)) false 0 0 0 0 0 bt292.1 0)) else (msg_Get.j0 k bt266.2.1 bt266.2.2 (bt a0 0) bt260.1 bt263.1 (wrap64 (bt266.1)) false 0 0 0 0 0 0 0)))))))) else (none)) else (none))
theorem msg_Get.mono_l : ∀ k, (∀ y0 y1 y2 y3 y4 y5 y6 y7 y8 y9 y10 y11 y12 y13, LeO (msg_Get.j0 k y0 y1 y2 y3 y4 y5 y6 y7 y8 y9 y10 y11 y12 y13) (msg_Get.j0 (k + 1) y0 y1 y2 y3 y4 y5 y6 y7 y8 y9 y10 y11 y12 y13)) ∧ (∀ y0 y1 y2 y3 y4 y5 y6 y7 y8 y9 y10 y11 y12, LeO (msg_Get.j1 k y0 y1 y2 y3 y4 y5 y6 y7 y8 y9 y10 y11 y12) (msg_Get.j1 (k + 1) y0 y1 y2 y3 y4 y5 y6 y7 y8 y9 y10 y11 y12))
 | 0 => ⟨fun _ _ _ _ _ _ _ _ _ _ _ _ _ _ r h => by simp [msg_Get.j0] at h, fun _ _ _ _ _ _ _ _ _ _ _ _ _ r h => by simp [msg_Get.j1] at h⟩
 | k + 1 => by
  obtain ⟨ih0, ih1⟩ := msg_Get.mono_l k
  refine ⟨?_, ?_⟩
  ·intro y0 y1 y2 y3 y4 y5 y6 y7 y8 y9 y10 y11 y12 y13
   unfold msg_Get.j0
   repeat' first
   | (with_reducible exact ih0 _ _ _ _ _ _ _ _ _ _ _ _ _ _)
   | (with_reducible exact ih1 _ _ _ _ _ _ _ _ _ _ _ _ _)
   | (with_reducible exact api_Action.mono _ _ _)
   | (with_reducible exact api_Prefix.mono _ _ _)
   | (with_reducible exact msg_Check.mono _ _ _ _ _ _ _ _ _ _ _ _ _)
   | (with_reducible exact num_Reader_Many.mono _ _ _ _)
   | (with_reducible exact num_Reader_Num.mono _ _ _)
   | (with_reducible exact LeO.refl _)
   | (with_reducible exact LeO.none _)
   | (with_reducible refine LeO.ite ?_ ?_)
   | (with_reducible refine LeO.bind ?_ (fun _ => ?_))
   | exact ih0 _ _ _ _ _ _ _ _ _ _ _ _ _ _
   | exact ih1 _ _ _ _ _ _ _ _ _ _ _ _ _
   | exact api_Action.mono _ _ _
   | exact api_Prefix.mono _ _ _
   | exact msg_Check.mono _ _ _ _ _ _ _ _ _ _ _ _ _
   | exact num_Reader_Many.mono _ _ _ _
   | exact num_Reader_Num.mono _ _ _
   | exact LeO.none _
   | refine LeO.ite ?_ ?_
   | refine LeO.bind ?_ (fun _ => ?_)
  ·intro y0 y1 y2 y3 y4 y5 y6 y7 y8 y9 y10 y11 y12
   unfold msg_Get.j1
   repeat' first
   | (with_reducible exact ih0 _ _ _ _ _ _ _ _ _ _ _ _ _ _)
   | (with_reducible exact ih1 _ _ _ _ _ _ _ _ _ _ _ _ _)
   | (with_reducible exact api_Action.mono _ _ _)
   | (with_reducible exact api_Prefix.mono _ _ _)
   | (with_reducible exact msg_Check.mono _ _ _ _ _ _ _ _ _ _ _ _ _)
   | (with_reducible exact num_Reader_Many.mono _ _ _ _)
   | (with_reducible exact num_Reader_Num.mono _ _ _)
   | (with_reducible exact LeO.refl _)
   | (with_reducible exact LeO.none _)
   | (with_reducible refine LeO.ite ?_ ?_)
   | (with_reducible refine LeO.bind ?_ (fun _ => ?_))
   | exact ih0 _ _ _ _ _ _ _ _ _ _ _ _ _ _
   | exact ih1 _ _ _ _ _ _ _ _ _ _ _ _ _
   | exact api_Action.mono _ _ _
   | exact api_Prefix.mono _ _ _
   | exact msg_Check.mono _ _ _ _ _ _ _ _ _ _ _ _ _
   | exact num_Reader_Many.mono _ _ _ _
   | exact num_Reader_Num.mono _ _ _
   | exact LeO.none _
   | refine LeO.ite ?_ ?_
   | refine LeO.bind ?_ (fun _ => ?_)
theorem msg_Get.mono : ∀ a0 k, LeO (msg_Get.f k a0) (msg_Get.f (k + 1) a0) := by
 intro a0 k
 obtain ⟨ih0, ih1⟩ := msg_Get.mono_l k
 unfold msg_Get.f
 repeat' first
   | (with_reducible exact ih0 _ _ _ _ _ _ _ _ _ _ _ _ _ _)
   | (with_reducible exact ih1 _ _ _ _ _ _ _ _ _ _ _ _ _)
   | (with_reducible exact api_Action.mono _ _ _)
   | (with_reducible exact api_Prefix.mono _ _ _)
   | (with_reducible exact msg_Check.mono _ _ _ _ _ _ _ _ _ _ _ _ _)
   | (with_reducible exact num_Reader_Many.mono _ _ _ _)
   | (with_reducible exact num_Reader_Num.mono _ _ _)
   | (with_reducible exact LeO.refl _)
   | (with_reducible exact LeO.none _)
   | (with_reducible refine LeO.ite ?_ ?_)
   | (with_reducible refine LeO.bind ?_ (fun _ => ?_))
   | exact ih0 _ _ _ _ _ _ _ _ _ _ _ _ _ _
   | exact ih1 _ _ _ _ _ _ _ _ _ _ _ _ _
   | exact api_Action.mono _ _ _
   | exact api_Prefix.mono _ _ _
   | exact msg_Check.mono _ _ _ _ _ _ _ _ _ _ _ _ _
   | exact num_Reader_Many.mono _ _ _ _
   | exact num_Reader_Num.mono _ _ _
   | exact LeO.none _
   | refine LeO.ite ?_ ?_
   | refine LeO.bind ?_ (fun _ => ?_)
def msg_Get.T4 : Bool × List (List Nat × List Nat) := (true, [([], []), ([0], [0]), ([], []), ([2], [2]), ([3], [3]), ([4], [4]), ([], []), ([6], [6]), ([7], [7]), ([8, 5], [8]), ([], []), ([10], [10]), ([11], [11]), ([12, 9], [12]), ([13], [13]), ([1, 5, 9, 14], [1, 5, 9, 14]), ([], []), ([16, 15, 13, 0, 1, 2, 3, 4, 5, 6, 7, 8, 9, 10, 11, 12, 13, 14, 15, 16], [15, 16])])
def msg_Get.B4 : List Nat := [0, 1, 0, 4, 12, 28, 0, 64, 192, 508, 0, 1024, 3072, 8188, 16380, 32767, 0, 131071]
theorem msg_Get.tab4 : rtab .any (opsOf Try.f10 4) = msg_Get.T4 := by kernel_rfl
theorem msg_Get.bits4 : waitsOk msg_Get.T4.2 msg_Get.B4 = true := by kernel_rfl
def msg_Get.T11 : Bool × List (List Nat × List Nat) := (true, [([], []), ([0], [0]), ([1], [1]), ([2], [2]), ([], []), ([4], [4]), ([5], [5]), ([6, 3], [6]), ([0, 1, 2, 3], []), ([8, 3, 7, 0, 1, 2, 3], [3, 8]), ([0, 1, 2, 3, 4, 5, 6, 7, 8, 9], []), ([10, 7, 9, 0, 1, 2, 3, 4, 5, 6, 7, 8, 9], [7, 10])])
def msg_Get.B11 : List Nat := [0, 1, 3, 7, 0, 16, 48, 127, 15, 511, 1023, 2047]
theorem msg_Get.tab11 : rtab .any (opsOf Try.f10 11) = msg_Get.T11 := by kernel_rfl
theorem msg_Get.bits11 : waitsOk msg_Get.T11.2 msg_Get.B11 = true := by kernel_rfl
end Go.Proofs.Ytodgadhegcjbhaa.Q
end
section
namespace Go.Proofs.Ytodgadhegcjbhaa.Q
open Go.RowKit Go.Proofs.YtodgadhegcjbhaaW.PrintWords Go.Proofs.YtodgadhegcjbhaaW.PrintLast Go.Proofs.YtodgadhegcjbhaaW.PrintMore
attribute [local go_sem] max2_int min2_int max_two min_two max_three min_three max_four min_four   -- for this text's walks alone
set_option linter.unusedVariables false
set_option linter.unusedSimpArgs false
set_option maxHeartbeats 8000000 in
set_option maxRecDepth 100000 in
theorem msg_Get.calls (k : Nat) (a0 : ByteArray) (r1 : Int) (r2 : Int) (r3 : Int) (r4 : Int) (r5 : Bool) (r6 : Int) (r7 : Int) (r8 : Int) (r9 : Int) (r10 : Int) (r11 : Int) (r12 : Int) (r13 : Int) (w : World) (h : msg_Get.f k a0 = some (r1, r2, r3, r4, r5, r6, r7, r8, r9, r10, r11, r12, r13)) :
  Calls Try.prog 10 #[.string a0] w fun e w' => e = .returned (.tuple #[.agg #[.int .u8 r1, .int .i64 r2, .int .u64 r3, .int .i64 r4, .bool r5, .int .u64 r6, .int .u64 r7, .int .i64 r8, .int .u8 r9, .int .i64 r10, .int .i64 r11, .int .i64 r12], .int .i64 r13]) ∧ Below w.heap.size w w' := by
 have hu32 := Try.underlying32
 have hu56 := Try.underlying56
 have hu58 := Try.underlying58
 have hu27 := Try.underlying27
 have hu30 := Try.underlying30
 have HB := Ax (Below.refl w.heap.size w)
 have H : (if a0.toList = ([] : List UInt8) then (some (0, 0, 0, 0, false, 0, 0, 0, 0, 0, 0, 0, 7)) else (if 1 ≤ (a0.size : Int) then (if 0 < (a0.size : Int) then ((num_Reader_Many.f k (a0.extract 1 a0.size) 0 1048576).bind fun bt260 => ((num_Reader_Num.f k bt260.2.1 bt260.2.2).bind fun bt263 => ((num_Reader_Num.f k bt263.2.1 bt263.2.2).bind fun bt266 => (if (bt a0 0) = 3 then ((api_Prefix.f k bt266.2.1 bt266.2.2).bind fun bt270 => ((api_Action.f k bt270.2.2.2.2.1 bt270.2.2.2.2.2).bind fun bt276 => (msg_Get.j0 k bt276.2.2.1 bt276.2.2.2 (bt a0 0) bt260.1 bt263.1 (wrap64 (bt266.1)) bt270.1 bt270.2.1 bt270.2.2.1 bt270.2.2.2.1 bt276.1 bt276.2.1 0 0))) else (if (bt a0 0) = 4 then ((api_Prefix.f k bt266.2.1 bt266.2.2).bind fun bt280 => (msg_Get.j0 k bt280.2.2.2.2.1 bt280.2.2.2.2.2 (bt a0 0) bt260.1 bt263.1 (wrap64 (bt266.1)) bt280.1 bt280.2.1 bt280.2.2.1 bt280.2.2.2.1 0 0 0 0)) else (if (bt a0 0) = 5 then ((num_Reader_Many.f k bt266.2.1 bt266.2.2 65536).bind fun bt286 => ((num_Reader_Many.f k bt286.2.1 bt286.2.2 1048576).bind fun bt289 => (msg_Get.j0 k bt289.2.1 bt289.2.2 (bt a0 0) bt260.1 bt263.1 (wrap64 (bt266.1)) false 0 0 0 0 0 bt286.1 bt289.1))) else (if (bt a0 0) = 6 then ((num_Reader_Many.f k bt266.2.1 bt266.2.2 65536).bind fun bt292 => (msg_Get.j0 k bt292.2.1 bt292.2.2 (bt a0 0) bt260.1 bt263.1 (wrap64 (bt266.1)) false 0 0 0 0 0 bt292.1 0)) else (msg_Get.j0 k bt266.2.1 bt266.2.2 (bt a0 0) bt260.1 bt263.1 (wrap64 (bt266.1)) false 0 0 0 0 0 0 0)))))))) else (none)) else (none))) = some (r1, r2, r3, r4, r5, r6, r7, r8, r9, r10, r11, r12, r13) := h
 clear h
 by_cases c2 : a0.toList = ([] : List UInt8)
 ·rw [if_pos c2] at H
  have c2b0 : (a0.toList == ([] : List UInt8)) = true := beq_iff_eq.mpr c2
  have c2b1 : (a0.toList != ([] : List UInt8)) = false := bne_eq_false_iff_eq.mpr c2
  clear c2
  simp only [Option.some.injEq, Prod.mk.injEq] at H
  obtain ⟨rfl, rfl, rfl, rfl, rfl, rfl, rfl, rfl, rfl, rfl, rfl, rfl, rfl⟩ := H
  go_enter Try.func10, Try.ntmps10
  go_wp2_with (first | ((with_reducible refine gate_dst (N := 2) rfl ?_); refine box_event ?hg (N := 2) ?hd (cs := #[.int .u8 0, .int .i64 0, .int .u64 0, .int .i64 0, .bool false, .int .u64 0, .int .u64 0, .int .i64 0, .int .u8 0, .int .i64 0, .int .i64 0, .int .i64 0]) (t := 32) ?hr ?_; (case hd => rfl); (case hg => rfl); (case hr => first | (go_simp; done) | (go_simp; rfl)); intro gb258 hg w3 hbox hb; have n0_ := Bs0 HB hb; have n1_ := Ax (hbox); have n2_ := Gw0 HB hg; have n3_ := Gw0 HB hg; clear HB; have HB := n0_; have BK258 := n1_; have GW258 := n2_; have GE258 := n3_; clear n0_ n1_ n2_ n3_; clear hb hbox hg; obtain ⟨hcz4_0, hcz4_1, hcz4_2, hcz4_3, hcz4_4, hcz4_5, hcz4_6, hcz4_7, hcz4_8, hcz4_9, hcz4_10, hcz4_11, hfz4_0, hfz4_1, hfz4_2, hfz4_3, hfz4_4, hfz4_5, hfz4_6, hfz4_7, hfz4_8, hfz4_9, hfz4_10, hfz4_11⟩ := cl12 BK258))
  refine bodyPost_ret (results_ct rfl _ _ gb258 32 #[.int .u8 0, .int .i64 0, .int .u64 0, .int .i64 0, .bool false, .int .u64 0, .int .u64 0, .int .i64 0, .int .u8 0, .int .i64 0, .int .i64 0, .int .i64 0] (0, 0) _ rfl (by (with_reducible repeat (first | refine blk_drewN ?_ _ | refine blk_drew ?_ | refine blk_alloc ?_ _)); refine blk_put (cs := #[.int .u8 0, .int .i64 0, .int .u64 0, .int .i64 0, .bool false, .int .u64 0, .int .u64 0, .int .i64 0, .int .u8 0, .int .i64 0, .int .i64 0, .int .i64 0]) ?_ 11 _ rfl; (with_reducible repeat (first | refine blk_drewN ?_ _ | refine blk_drew ?_ | refine blk_alloc ?_ _)); refine blk_put (cs := #[.int .u8 0, .int .i64 0, .int .u64 0, .int .i64 0, .bool false, .int .u64 0, .int .u64 0, .int .i64 0, .int .u8 0, .int .i64 0, .int .i64 0, .int .i64 0]) ?_ 10 _ rfl; (with_reducible repeat (first | refine blk_drewN ?_ _ | refine blk_drew ?_ | refine blk_alloc ?_ _)); refine blk_put (cs := #[.int .u8 0, .int .i64 0, .int .u64 0, .int .i64 0, .bool false, .int .u64 0, .int .u64 0, .int .i64 0, .int .u8 0, .int .i64 0, .int .i64 0, .int .i64 0]) ?_ 9 _ rfl; (with_reducible repeat (first | refine blk_drewN ?_ _ | refine blk_drew ?_ | refine blk_alloc ?_ _)); refine blk_put (cs := #[.int .u8 0, .int .i64 0, .int .u64 0, .int .i64 0, .bool false, .int .u64 0, .int .u64 0, .int .i64 0, .int .u8 0, .int .i64 0, .int .i64 0, .int .i64 0]) ?_ 8 _ rfl; (with_reducible repeat (first | refine blk_drewN ?_ _ | refine blk_drew ?_ | refine blk_alloc ?_ _)); refine blk_put (cs := #[.int .u8 0, .int .i64 0, .int .u64 0, .int .i64 0, .bool false, .int .u64 0, .int .u64 0, .int .i64 0, .int .u8 0, .int .i64 0, .int .i64 0, .int .i64 0]) ?_ 7 _ rfl; (with_reducible repeat (first | refine blk_drewN ?_ _ | refine blk_drew ?_ | refine blk_alloc ?_ _)); refine blk_put (cs := #[.int .u8 0, .int .i64 0, .int .u64 0, .int .i64 0, .bool false, .int .u64 0, .int .u64 0, .int .i64 0, .int .u8 0, .int .i64 0, .int .i64 0, .int .i64 0]) ?_ 6 _ rfl; (with_reducible repeat (first | refine blk_drewN ?_ _ | refine blk_drew ?_ | refine blk_alloc ?_ _)); refine blk_put (cs := #[.int .u8 0, .int .i64 0, .int .u64 0, .int .i64 0, .bool false, .int .u64 0, .int .u64 0, .int .i64 0, .int .u8 0, .int .i64 0, .int .i64 0, .int .i64 0]) ?_ 5 _ rfl; (with_reducible repeat (first | refine blk_drewN ?_ _ | refine blk_drew ?_ | refine blk_alloc ?_ _)); refine blk_put (cs := #[.int .u8 0, .int .i64 0, .int .u64 0, .int .i64 0, .bool false, .int .u64 0, .int .u64 0, .int .i64 0, .int .u8 0, .int .i64 0, .int .i64 0, .int .i64 0]) ?_ 4 _ rfl; (with_reducible repeat (first | refine blk_drewN ?_ _ | refine blk_drew ?_ | refine blk_alloc ?_ _)); refine blk_put (cs := #[.int .u8 0, .int .i64 0, .int .u64 0, .int .i64 0, .bool false, .int .u64 0, .int .u64 0, .int .i64 0, .int .u8 0, .int .i64 0, .int .i64 0, .int .i64 0]) ?_ 3 _ rfl; (with_reducible repeat (first | refine blk_drewN ?_ _ | refine blk_drew ?_ | refine blk_alloc ?_ _)); refine blk_put (cs := #[.int .u8 0, .int .i64 0, .int .u64 0, .int .i64 0, .bool false, .int .u64 0, .int .u64 0, .int .i64 0, .int .u8 0, .int .i64 0, .int .i64 0, .int .i64 0]) ?_ 2 _ rfl; (with_reducible repeat (first | refine blk_drewN ?_ _ | refine blk_drew ?_ | refine blk_alloc ?_ _)); refine blk_put (cs := #[.int .u8 0, .int .i64 0, .int .u64 0, .int .i64 0, .bool false, .int .u64 0, .int .u64 0, .int .i64 0, .int .u8 0, .int .i64 0, .int .i64 0, .int .i64 0]) ?_ 1 _ rfl; (with_reducible repeat (first | refine blk_drewN ?_ _ | refine blk_drew ?_ | refine blk_alloc ?_ _)); refine blk_put (cs := #[.int .u8 0, .int .i64 0, .int .u64 0, .int .i64 0, .bool false, .int .u64 0, .int .u64 0, .int .i64 0, .int .u8 0, .int .i64 0, .int .i64 0, .int .i64 0]) ?_ 0 _ rfl; (with_reducible repeat (first | refine blk_drewN ?_ _ | refine blk_drew ?_ | refine blk_alloc ?_ _)); exact BK258.out) Try.underlying32 rfl (by kernel_rfl)) rfl ?_
  exact ⟨eS, bw1 HB.out GE258.out⟩
 ·rw [if_neg c2] at H
  have c2b0 : (a0.toList == ([] : List UInt8)) = false := beq_eq_false_iff_ne.mpr c2
  have c2b1 : (a0.toList != ([] : List UInt8)) = true := bne_iff_ne.mpr c2
  by_cases c5 : 1 ≤ (a0.size : Int)
  ·rw [if_pos c5] at H
   have c5b0 := eq_true c5
   have c5b1 : decide (1 ≤ (a0.size : Int)) = true := decide_eq_true c5
   clear c5
   by_cases c6 : 0 < (a0.size : Int)
   ·rw [if_pos c6] at H
    have c6b0 : decide (0 < (a0.size : Int)) = true := decide_eq_true c6
    have c6b1 : decide (0 < a0.size) = true := decide_eq_true (by omega)
    clear c6
    replace H := Option.bind_eq_some_iff.mp H
    obtain ⟨⟨t260, t261, t262⟩, A80, H⟩ := H
    replace H : ((num_Reader_Num.f k t261 t262).bind fun bt263 => ((num_Reader_Num.f k bt263.2.1 bt263.2.2).bind fun bt266 => (if (bt a0 0) = 3 then ((api_Prefix.f k bt266.2.1 bt266.2.2).bind fun bt270 => ((api_Action.f k bt270.2.2.2.2.1 bt270.2.2.2.2.2).bind fun bt276 => (msg_Get.j0 k bt276.2.2.1 bt276.2.2.2 (bt a0 0) t260 bt263.1 (wrap64 (bt266.1)) bt270.1 bt270.2.1 bt270.2.2.1 bt270.2.2.2.1 bt276.1 bt276.2.1 0 0))) else (if (bt a0 0) = 4 then ((api_Prefix.f k bt266.2.1 bt266.2.2).bind fun bt280 => (msg_Get.j0 k bt280.2.2.2.2.1 bt280.2.2.2.2.2 (bt a0 0) t260 bt263.1 (wrap64 (bt266.1)) bt280.1 bt280.2.1 bt280.2.2.1 bt280.2.2.2.1 0 0 0 0)) else (if (bt a0 0) = 5 then ((num_Reader_Many.f k bt266.2.1 bt266.2.2 65536).bind fun bt286 => ((num_Reader_Many.f k bt286.2.1 bt286.2.2 1048576).bind fun bt289 => (msg_Get.j0 k bt289.2.1 bt289.2.2 (bt a0 0) t260 bt263.1 (wrap64 (bt266.1)) false 0 0 0 0 0 bt286.1 bt289.1))) else (if (bt a0 0) = 6 then ((num_Reader_Many.f k bt266.2.1 bt266.2.2 65536).bind fun bt292 => (msg_Get.j0 k bt292.2.1 bt292.2.2 (bt a0 0) t260 bt263.1 (wrap64 (bt266.1)) false 0 0 0 0 0 bt292.1 0)) else (msg_Get.j0 k bt266.2.1 bt266.2.2 (bt a0 0) t260 bt263.1 (wrap64 (bt266.1)) false 0 0 0 0 0 0 0))))))) = some (r1, r2, r3, r4, r5, r6, r7, r8, r9, r10, r11, r12, r13) := H
    have A8 := Ax A80
    clear A80
    replace H := Option.bind_eq_some_iff.mp H
    obtain ⟨⟨t263, t264, t265⟩, A90, H⟩ := H
    replace H : ((num_Reader_Num.f k t264 t265).bind fun bt266 => (if (bt a0 0) = 3 then ((api_Prefix.f k bt266.2.1 bt266.2.2).bind fun bt270 => ((api_Action.f k bt270.2.2.2.2.1 bt270.2.2.2.2.2).bind fun bt276 => (msg_Get.j0 k bt276.2.2.1 bt276.2.2.2 (bt a0 0) t260 t263 (wrap64 (bt266.1)) bt270.1 bt270.2.1 bt270.2.2.1 bt270.2.2.2.1 bt276.1 bt276.2.1 0 0))) else (if (bt a0 0) = 4 then ((api_Prefix.f k bt266.2.1 bt266.2.2).bind fun bt280 => (msg_Get.j0 k bt280.2.2.2.2.1 bt280.2.2.2.2.2 (bt a0 0) t260 t263 (wrap64 (bt266.1)) bt280.1 bt280.2.1 bt280.2.2.1 bt280.2.2.2.1 0 0 0 0)) else (if (bt a0 0) = 5 then ((num_Reader_Many.f k bt266.2.1 bt266.2.2 65536).bind fun bt286 => ((num_Reader_Many.f k bt286.2.1 bt286.2.2 1048576).bind fun bt289 => (msg_Get.j0 k bt289.2.1 bt289.2.2 (bt a0 0) t260 t263 (wrap64 (bt266.1)) false 0 0 0 0 0 bt286.1 bt289.1))) else (if (bt a0 0) = 6 then ((num_Reader_Many.f k bt266.2.1 bt266.2.2 65536).bind fun bt292 => (msg_Get.j0 k bt292.2.1 bt292.2.2 (bt a0 0) t260 t263 (wrap64 (bt266.1)) false 0 0 0 0 0 bt292.1 0)) else (msg_Get.j0 k bt266.2.1 bt266.2.2 (bt a0 0) t260 t263 (wrap64 (bt266.1)) false 0 0 0 0 0 0 0)))))) = some (r1, r2, r3, r4, r5, r6, r7, r8, r9, r10, r11, r12, r13) := H
    have A9 := Ax A90
    clear A90
    replace H := Option.bind_eq_some_iff.mp H
    obtain ⟨⟨t266, t267, t268⟩, A100, H⟩ := H
    replace H : (if (bt a0 0) = 3 then ((api_Prefix.f k t267 t268).bind fun bt270 => ((api_Action.f k bt270.2.2.2.2.1 bt270.2.2.2.2.2).bind fun bt276 => (msg_Get.j0 k bt276.2.2.1 bt276.2.2.2 (bt a0 0) t260 t263 (wrap64 (t266)) bt270.1 bt270.2.1 bt270.2.2.1 bt270.2.2.2.1 bt276.1 bt276.2.1 0 0))) else (if (bt a0 0) = 4 then ((api_Prefix.f k t267 t268).bind fun bt280 => (msg_Get.j0 k bt280.2.2.2.2.1 bt280.2.2.2.2.2 (bt a0 0) t260 t263 (wrap64 (t266)) bt280.1 bt280.2.1 bt280.2.2.1 bt280.2.2.2.1 0 0 0 0)) else (if (bt a0 0) = 5 then ((num_Reader_Many.f k t267 t268 65536).bind fun bt286 => ((num_Reader_Many.f k bt286.2.1 bt286.2.2 1048576).bind fun bt289 => (msg_Get.j0 k bt289.2.1 bt289.2.2 (bt a0 0) t260 t263 (wrap64 (t266)) false 0 0 0 0 0 bt286.1 bt289.1))) else (if (bt a0 0) = 6 then ((num_Reader_Many.f k t267 t268 65536).bind fun bt292 => (msg_Get.j0 k bt292.2.1 bt292.2.2 (bt a0 0) t260 t263 (wrap64 (t266)) false 0 0 0 0 0 bt292.1 0)) else (msg_Get.j0 k t267 t268 (bt a0 0) t260 t263 (wrap64 (t266)) false 0 0 0 0 0 0 0))))) = some (r1, r2, r3, r4, r5, r6, r7, r8, r9, r10, r11, r12, r13) := H
    have A10 := Ax A100
    clear A100
    have HC11 := Ax H
    clear H
    go_enter Try.func10, Try.ntmps10
    try go_wp2_with (first | ((with_reducible refine gate_dst (N := 2) rfl ?_); refine box_event ?hg (N := 2) ?hd (cs := #[.int .u8 0, .int .i64 0, .int .u64 0, .int .i64 0, .bool false, .int .u64 0, .int .u64 0, .int .i64 0, .int .u8 0, .int .i64 0, .int .i64 0, .int .i64 0]) (t := 32) ?hr ?_; (case hd => rfl); (case hg => rfl); (case hr => first | (go_simp; done) | (go_simp; rfl)); intro gb258 hg w12 hbox hb; have n0_ := Bs0 HB hb; have n1_ := Ax (hbox); have n2_ := Gw0 HB hg; have n3_ := Gw0 HB hg; clear HB; have HB := n0_; have BK258 := n1_; have GW258 := n2_; have GE258 := n3_; clear n0_ n1_ n2_ n3_; clear hb hbox hg) | ((with_reducible refine gate_dst (N := 13) rfl ?_); refine box_event ?hg (N := 13) ?hd (cs := #[.string (a0.extract 1 a0.size), .int .i64 0]) (t := 58) ?hr ?_; (case hd => rfl); (case hg => rfl); (case hr => first | (go_simp; done) | (go_simp; rfl)); intro gb259 hg w13 hbox hb; have n0_ := Bx0 BK258 hb; have n1_ := Bs1 HB hb GE258.out; have n2_ := Ax (hbox); have n3_ := Gw1 HB hg GE258.out; have n4_ := Gw1 HB hg GE258.out; have n5_ := Nl0 BK258 hg; have n6_ := Nr0 BK258 hg; clear BK258; clear HB; have BK258 := n0_; have HB := n1_; have BK259 := n2_; have GW259 := n3_; have GE259 := n4_; have NB258_259 := n5_; have NB259_258 := n6_; clear n0_ n1_ n2_ n3_ n4_ n5_ n6_; clear hb hbox hg))
    have HIB259 := Ax (show IsS58 w w13 gb259 (a0.extract 1 a0.size) 0 from ⟨by first | exact BK259.out | simpa using BK259.out, GE259.out⟩)
    clear BK259
    replace BK258 := Ax (blk_drew BK258.out)
    replace HIB259 := Ax (IsS58.drew HIB259.out)
    replace HB := Ax (below_drew1 HB.out)
    have p7 : 0 ≤ (0 : Int) := (by omega)
    have q7 : 0 < a0.size := (by have : (0 : Int) < (a0.size : Int) := of_decide_eq_true (by first | (with_reducible assumption) | assumption); first | omega | (simp only [ByteArray.size_append]; omega))
    have hx7 : ∀ h : 0 < a0.size, ((a0[0]'h).toNat : Int) = bt a0 0 := bt_at a0 0
    clear p7
    have qi7 : (0 < (a0.size : Int)) = True := eq_true (of_decide_eq_true (by first | (with_reducible assumption) | assumption))
    replace q7 := eq_true q7
    refine start_ (n := 18) (S := fun w' => True) (ds := []) #[fa,fa,fa,fa,fa,fa,fa,fa,fa,fa,fa,fa,fa,fa,fa,fa,fa,fa] (by kernel_rfl) rfl rfl trivial (fun hHeld => ?_); refine with_tabW msg_Get.tab4 msg_Get.bits4 (fun HT_ HW_ => ?_)
    generalize w13.drew = w14 at BK258 HIB259 HB hHeld ⊢
    refine pure_ (i := 0) (N := some 14) (v := ?_) (a' := ?_) #[tr,fa,fa,fa,fa,fa,fa,fa,fa,fa,fa,fa,fa,fa,fa,fa,fa,fa] rfl rfl (any_of HT_.out (by kernel_rfl)) (fun _ _ _ h => h) (Or.inl ⟨by rfl, ?_⟩) ?_ ?_
    rotate_left
    ·intro w'
     go_simp
     with_reducible rfl
    rotate_left
    ·simp only [sP]
     rfl
    refine pure_ (i := 2) (N := some 16) (v := ?_) (a' := ?_) #[tr,fa,tr,fa,fa,fa,fa,fa,fa,fa,fa,fa,fa,fa,fa,fa,fa,fa] rfl rfl (any_of HT_.out (by kernel_rfl)) (fun _ _ _ h => h) (Or.inl ⟨by rfl, ?_⟩) ?_ ?_
    rotate_left
    ·intro w'
     go_simp
     with_reducible rfl
    rotate_left
    ·simp only [sP]
     rfl
    refine pure_ (i := 3) (N := some 17) (v := ?_) (a' := ?_) #[tr,fa,tr,tr,fa,fa,fa,fa,fa,fa,fa,fa,fa,fa,fa,fa,fa,fa] rfl rfl (any_of HT_.out (by kernel_rfl)) (fun _ _ _ h => h) (Or.inl ⟨by rfl, ?_⟩) ?_ ?_
    rotate_left
    ·intro w'
     go_simp
     with_reducible rfl
    rotate_left
    ·simp only [sP]
     rfl
    refine pure_ (i := 4) (N := some 18) (v := ?_) (a' := ?_) #[tr,fa,tr,tr,tr,fa,fa,fa,fa,fa,fa,fa,fa,fa,fa,fa,fa,fa] rfl rfl (any_of HT_.out (by kernel_rfl)) (fun _ _ _ h => h) (Or.inl ⟨by rfl, ?_⟩) ?_ ?_
    rotate_left
    ·intro w'
     go_simp
     with_reducible rfl
    rotate_left
    ·simp only [sP]
     rfl
    refine pure_ (i := 6) (N := some 20) (v := ?_) (a' := ?_) #[tr,fa,tr,tr,tr,fa,tr,fa,fa,fa,fa,fa,fa,fa,fa,fa,fa,fa] rfl rfl (any_of HT_.out (by kernel_rfl)) (fun _ _ _ h => h) (Or.inl ⟨by rfl, ?_⟩) ?_ ?_
    rotate_left
    ·intro w'
     go_simp
     with_reducible rfl
    rotate_left
    ·simp only [sP]
     rfl
    refine pure_ (i := 7) (N := some 21) (v := ?_) (a' := ?_) #[tr,fa,tr,tr,tr,fa,tr,tr,fa,fa,fa,fa,fa,fa,fa,fa,fa,fa] rfl rfl (any_of HT_.out (by kernel_rfl)) (fun _ _ _ h => h) (Or.inl ⟨by rfl, ?_⟩) ?_ ?_
    rotate_left
    ·intro w'
     go_simp
     with_reducible rfl
    rotate_left
    ·simp only [sP]
     rfl
    refine pure_ (i := 8) (N := some 22) (v := ?_) (a' := ?_) #[tr,fa,tr,tr,tr,fa,tr,tr,tr,fa,fa,fa,fa,fa,fa,fa,fa,fa] rfl rfl (any_of HT_.out (by kernel_rfl)) (fun _ _ _ h => h) (Or.inl ⟨by rfl, ?_⟩) ?_ ?_
    rotate_left
    ·intro w'
     go_simp
     with_reducible rfl
    rotate_left
    ·simp only [sP]
     rfl
    refine pure_ (i := 10) (N := some 24) (v := ?_) (a' := ?_) #[tr,fa,tr,tr,tr,fa,tr,tr,tr,fa,tr,fa,fa,fa,fa,fa,fa,fa] rfl rfl (any_of HT_.out (by kernel_rfl)) (fun _ _ _ h => h) (Or.inl ⟨by rfl, ?_⟩) ?_ ?_
    rotate_left
    ·intro w'
     go_simp
     with_reducible rfl
    rotate_left
    ·simp only [sP]
     rfl
    refine pure_ (i := 11) (N := some 25) (v := ?_) (a' := ?_) #[tr,fa,tr,tr,tr,fa,tr,tr,tr,fa,tr,tr,fa,fa,fa,fa,fa,fa] rfl rfl (any_of HT_.out (by kernel_rfl)) (fun _ _ _ h => h) (Or.inl ⟨by rfl, ?_⟩) ?_ ?_
    rotate_left
    ·intro w'
     go_simp
     with_reducible rfl
    rotate_left
    ·simp only [sP]
     rfl
    refine pure_ (i := 12) (N := some 26) (v := ?_) (a' := ?_) #[tr,fa,tr,tr,tr,fa,tr,tr,tr,fa,tr,tr,tr,fa,fa,fa,fa,fa] rfl rfl (any_of HT_.out (by kernel_rfl)) (fun _ _ _ h => h) (Or.inl ⟨by rfl, ?_⟩) ?_ ?_
    rotate_left
    ·intro w'
     go_simp
     with_reducible rfl
    rotate_left
    ·simp only [sP]
     rfl
    refine take_ (i := 1) (N := some 15) (v := ?_) (a' := ?_) #[tr,tr,tr,tr,tr,fa,tr,tr,tr,fa,tr,tr,tr,fa,fa,fa,fa,fa] rfl rfl (take_ofW HT_.out HW_.out (by kernel_rfl)) (fun _ _ _ h => h) (Or.inl ⟨by rfl, ?_⟩) hHeld ?_ ?_
    rotate_left
    ·intro w' _
     go_simp
     with_reducible rfl
    rotate_left
    ·simp only [sP]
     rfl
    refine join_ (σ := Nat) 1 #[tr,tr,tr,tr,tr,tr,tr,tr,tr,tr,tr,tr,tr,tr,tr,tr,tr,fa] (fun s_ => [(19, .int .i64 t260), (23, .int .u64 t263), (27, .int .u64 t266), (5, .pointer (some ⟨s_, 0, none⟩)), (28, .int .i64 (wrap64 (t266))), (29, .agg #[.int .u8 (bt a0 0), .int .i64 t260, .int .u64 t263, .int .i64 (wrap64 (t266)), .bool false, .int .u64 0, .int .u64 0, .int .i64 0, .int .u8 0, .int .i64 0, .int .i64 0, .int .i64 0])]) (fun s_ w' => (w'.heap[gb258]? = some (.cells #[.int .u8 0, .int .i64 0, .int .u64 0, .int .i64 0, .bool false, .int .u64 0, .int .u64 0, .int .i64 0, .int .u8 0, .int .i64 0, .int .i64 0, .int .i64 0] 32 (0, 0))) ∧ (w'.heap[s_]? = some (.cells #[.int .u8 0, .int .i64 0, .int .u64 0, .int .i64 0, .bool false, .int .u64 0, .int .u64 0, .int .i64 0, .int .u8 0, .int .i64 0, .int .i64 0, .int .i64 0] 32 (0, 0))) ∧ (w.heap.size ≤ s_) ∧ (w.heap.size ≤ s_) ∧ (gb259 ≠ s_) ∧ (s_ ≠ gb259) ∧ (gb258 ≠ s_) ∧ (s_ ≠ gb258) ∧ (IsS58 w w' gb259 t267 t268) ∧ (Below w.heap.size w w')) ?_ ?_
    rotate_left
    ·intro hCont
     refine two_ (i := 5) (j := 16) (Ni := some 19) (Nj := some 5) #[tr,tr,tr,tr,tr,tr,tr,tr,tr,fa,tr,tr,tr,fa,fa,fa,fa,fa] #[tr,tr,tr,tr,tr,fa,tr,tr,tr,fa,tr,tr,tr,fa,fa,fa,tr,fa] rfl rfl rfl rfl (two_of HT_.out (by kernel_rfl)) (by decide) (by decide) (fun K hK => ?_) (fun K hK => ?_)
     ·skip
      refine goes_ Try.func27 (by kernel_rfl) rfl #[.pointer (some ⟨gb259, 0, none⟩), .int .i64 1048576] (by rfl) rfl rfl gS ?_
      with_reducible refine (num_Reader_Many.calls58 k gb259 (a0.extract 1 a0.size) 0 1048576 t260 t261 t262 w _ ?side1 ?side2 A8.out).mono ?_
      (case side1 => repeat (first | (with_reducible first | exact HIB259.out | apply IsS58.alloc | apply IsS58.drewN | apply IsS58.drew | apply IsS58.set_0 | apply IsS58.set_1 | refine IsS58.far ?_ NB259_258.out _) | exact HIB259.out))
      (case side2 => repeat (first | (with_reducible first | exact HB.out | apply below_alloc | apply pw_below_drewN | apply below_drew1 | refine below_set ?_ (IsS58.ge HIB259.out) | refine below_set ?_ GE258.out) | exact HB.out))
      rintro e w15 ⟨rfl, hi, hb, hk⟩
      refine ⟨_, rfl, ?_⟩
      replace BK258 := Ax (KeepBut.blk hk (g' := gb258) (o := .cells #[.int .u8 0, .int .i64 0, .int .u64 0, .int .i64 0, .bool false, .int .u64 0, .int .u64 0, .int .i64 0, .int .u8 0, .int .i64 0, .int .i64 0, .int .i64 0] 32 (0, 0)) (bf0 BK258.out) NB258_259.out (by simp))
      replace HB := Ax (hb)
      replace HIB259 := Ax (hi)
      (try clear hb)
      (try clear hb2)
      (try clear hk)
      (try clear hi)
      refine hK.out _ _ trivial (fun hHeld => ?_)
      clear hK K
      refine norm_ (a' := ?_) ?_ ?_
      rotate_left
      ·show Act.put _ (some 19) _ = _
       simp only [sP]
       rfl
      refine two_ (i := 9) (j := 16) (Ni := some 23) (Nj := some 5) #[tr,tr,tr,tr,tr,tr,tr,tr,tr,tr,tr,tr,tr,fa,fa,fa,fa,fa] #[tr,tr,tr,tr,tr,tr,tr,tr,tr,fa,tr,tr,tr,fa,fa,fa,tr,fa] rfl rfl rfl rfl (two_of HT_.out (by kernel_rfl)) (by decide) (by decide) (fun K hK => ?_) (fun K hK => ?_)
      ·skip
       refine goes_ Try.func28 (by kernel_rfl) rfl #[.pointer (some ⟨gb259, 0, none⟩)] (by rfl) rfl rfl gS ?_
       with_reducible refine (num_Reader_Num.calls58 k gb259 t261 t262 t263 t264 t265 w _ ?side1 ?side2 A9.out).mono ?_
       (case side1 => repeat (first | (with_reducible first | exact HIB259.out | apply IsS58.alloc | apply IsS58.drewN | apply IsS58.drew | apply IsS58.set_0 | apply IsS58.set_1 | refine IsS58.far ?_ NB259_258.out _) | exact HIB259.out))
       (case side2 => repeat (first | (with_reducible first | exact HB.out | apply below_alloc | apply pw_below_drewN | apply below_drew1 | refine below_set ?_ (IsS58.ge HIB259.out) | refine below_set ?_ GE258.out) | exact HB.out))
       rintro e w16 ⟨rfl, hi, hb, hk⟩
       refine ⟨_, rfl, ?_⟩
       replace BK258 := Ax (KeepBut.blk hk (g' := gb258) (o := .cells #[.int .u8 0, .int .i64 0, .int .u64 0, .int .i64 0, .bool false, .int .u64 0, .int .u64 0, .int .i64 0, .int .u8 0, .int .i64 0, .int .i64 0, .int .i64 0] 32 (0, 0)) (bf0 BK258.out) NB258_259.out (by simp))
       replace HB := Ax (hb)
       replace HIB259 := Ax (hi)
       (try clear hb)
       (try clear hb2)
       (try clear hk)
       (try clear hi)
       refine hK.out _ _ trivial (fun hHeld => ?_)
       clear hK K
       refine norm_ (a' := ?_) ?_ ?_
       rotate_left
       ·show Act.put _ (some 23) _ = _
        simp only [sP]
        rfl
       refine two_ (i := 13) (j := 16) (Ni := some 27) (Nj := some 5) #[tr,tr,tr,tr,tr,tr,tr,tr,tr,tr,tr,tr,tr,tr,fa,fa,fa,fa] #[tr,tr,tr,tr,tr,tr,tr,tr,tr,tr,tr,tr,tr,fa,fa,fa,tr,fa] rfl rfl rfl rfl (two_of HT_.out (by kernel_rfl)) (by decide) (by decide) (fun K hK => ?_) (fun K hK => ?_)
       ·skip
        refine goes_ Try.func28 (by kernel_rfl) rfl #[.pointer (some ⟨gb259, 0, none⟩)] (by rfl) rfl rfl gS ?_
        with_reducible refine (num_Reader_Num.calls58 k gb259 t264 t265 t266 t267 t268 w _ ?side1 ?side2 A10.out).mono ?_
        (case side1 => repeat (first | (with_reducible first | exact HIB259.out | apply IsS58.alloc | apply IsS58.drewN | apply IsS58.drew | apply IsS58.set_0 | apply IsS58.set_1 | refine IsS58.far ?_ NB259_258.out _) | exact HIB259.out))
        (case side2 => repeat (first | (with_reducible first | exact HB.out | apply below_alloc | apply pw_below_drewN | apply below_drew1 | refine below_set ?_ (IsS58.ge HIB259.out) | refine below_set ?_ GE258.out) | exact HB.out))
        rintro e w17 ⟨rfl, hi, hb, hk⟩
        refine ⟨_, rfl, ?_⟩
        replace BK258 := Ax (KeepBut.blk hk (g' := gb258) (o := .cells #[.int .u8 0, .int .i64 0, .int .u64 0, .int .i64 0, .bool false, .int .u64 0, .int .u64 0, .int .i64 0, .int .u8 0, .int .i64 0, .int .i64 0, .int .i64 0] 32 (0, 0)) (bf0 BK258.out) NB258_259.out (by simp))
        replace HB := Ax (hb)
        replace HIB259 := Ax (hi)
        (try clear hb)
        (try clear hb2)
        (try clear hk)
        (try clear hi)
        refine hK.out _ _ trivial (fun hHeld => ?_)
        clear hK K
        refine norm_ (a' := ?_) ?_ ?_
        rotate_left
        ·show Act.put _ (some 27) _ = _
         simp only [sP]
         rfl
        refine pure_ (i := 14) (N := some 28) (v := ?_) (a' := ?_) #[tr,tr,tr,tr,tr,tr,tr,tr,tr,tr,tr,tr,tr,tr,tr,fa,fa,fa] rfl rfl (any_of HT_.out (by kernel_rfl)) (fun _ _ _ h => h) (Or.inl ⟨by rfl, ?_⟩) ?_ ?_
        rotate_left
        ·intro w'
         go_simp
         with_reducible rfl
        rotate_left
        ·simp only [sP]
         rfl
        refine pure_ (i := 15) (N := some 29) (v := ?_) (a' := ?_) #[tr,tr,tr,tr,tr,tr,tr,tr,tr,tr,tr,tr,tr,tr,tr,tr,fa,fa] rfl rfl (any_of HT_.out (by kernel_rfl)) (fun _ _ _ h => h) (Or.inl ⟨by rfl, ?_⟩) ?_ ?_
        rotate_left
        ·intro w'
         go_simp
         with_reducible rfl
        rotate_left
        ·simp only [sP]
         rfl
        refine one_ (i := 16) (N := some 5) #[tr,tr,tr,tr,tr,tr,tr,tr,tr,tr,tr,tr,tr,tr,tr,tr,tr,fa] rfl rfl (one_of HT_.out (by kernel_rfl)) (by decide) (fun K hK => ?_)
        refine box_step ?hg (N := 5) ?hd (cs := #[.int .u8 0, .int .i64 0, .int .u64 0, .int .i64 0, .bool false, .int .u64 0, .int .u64 0, .int .i64 0, .int .u8 0, .int .i64 0, .int .i64 0, .int .i64 0]) (t := 32) ?hr ?_; (case hd => rfl); (case hg => rfl); (case hr => first | (go_simp; done) | (go_simp; rfl))
        intro gb269 hg w18 hbox hb
        have n0_ := Bx0 BK258 hb
        have n1_ := Ax (IsS58.below (by repeat (first | (with_reducible first | exact HIB259.out | apply IsS58.alloc | apply IsS58.drewN | apply IsS58.drew | apply IsS58.set_0 | apply IsS58.set_1 | refine IsS58.far ?_ NB259_258.out _) | exact HIB259.out)) hb)
        have n2_ := Bs2 HB hb (IsS58.ge HIB259.out) GE258.out
        have n3_ := Ax (hbox)
        have n4_ := Gw2 HB hg (IsS58.ge HIB259.out) GE258.out
        have n5_ := Gw2 HB hg (IsS58.ge HIB259.out) GE258.out
        have n6_ := Nl0 BK258 hg
        have n7_ := Nr0 BK258 hg
        have n8_ := Ax ((by rw [hg]; exact Nat.ne_of_lt (IsS58.lt (show IsS58 w _ gb259 t267 t268 from by repeat (first | (with_reducible first | exact HIB259.out | apply IsS58.alloc | apply IsS58.drewN | apply IsS58.drew | apply IsS58.set_0 | apply IsS58.set_1 | refine IsS58.far ?_ NB259_258.out _) | exact HIB259.out))) : gb259 ≠ gb269))
        have n9_ := Ax ((by rw [hg]; exact Nat.ne_of_gt (IsS58.lt (show IsS58 w _ gb259 t267 t268 from by repeat (first | (with_reducible first | exact HIB259.out | apply IsS58.alloc | apply IsS58.drewN | apply IsS58.drew | apply IsS58.set_0 | apply IsS58.set_1 | refine IsS58.far ?_ NB259_258.out _) | exact HIB259.out))) : gb269 ≠ gb259))
        clear BK258
        clear HIB259
        clear HB
        have BK258 := n0_
        have HIB259 := n1_
        have HB := n2_
        have BK269 := n3_
        have GW269 := n4_
        have GE269 := n5_
        have NB258_269 := n6_
        have NB269_258 := n7_
        have NB259_269 := n8_
        have NB269_259 := n9_
        clear n0_ n1_ n2_ n3_ n4_ n5_ n6_ n7_ n8_ n9_
        clear hb hbox hg
        refine hK.out _ _ trivial (fun hHeld => ?_)
        clear hK K
        refine norm_ (a' := ?_) ?_ ?_
        rotate_left
        ·show Act.put _ (some 5) _ = _
         simp only [sP]
         rfl
        exact norm_ (by simp only [putAll, Act.put, List.setIfInBounds_toArray, List.set_cons_zero, List.set_cons_succ]) (hCont (gb269) _ ⟨(bf0 BK258.out), (bf0 BK269.out), GW269.out, GE269.out, NB259_269.out, NB269_259.out, NB258_269.out, NB269_258.out, (by repeat (first | (with_reducible first | exact HIB259.out | apply IsS58.alloc | apply IsS58.drewN | apply IsS58.drew | apply IsS58.set_0 | apply IsS58.set_1 | refine IsS58.far ?_ NB259_258.out _ | refine IsS58.far ?_ NB259_269.out _) | exact HIB259.out)), (bw3 HB.out (IsS58.ge HIB259.out) GE258.out GE269.out)⟩)
       ·skip
        refine box_step ?hg (N := 5) ?hd (cs := #[.int .u8 0, .int .i64 0, .int .u64 0, .int .i64 0, .bool false, .int .u64 0, .int .u64 0, .int .i64 0, .int .u8 0, .int .i64 0, .int .i64 0, .int .i64 0]) (t := 32) ?hr ?_; (case hd => rfl); (case hg => rfl); (case hr => first | (go_simp; done) | (go_simp; rfl))
        intro gb269 hg w17 hbox hb
        have n0_ := Bx0 BK258 hb
        have n1_ := Ax (IsS58.below (by repeat (first | (with_reducible first | exact HIB259.out | apply IsS58.alloc | apply IsS58.drewN | apply IsS58.drew | apply IsS58.set_0 | apply IsS58.set_1 | refine IsS58.far ?_ NB259_258.out _) | exact HIB259.out)) hb)
        have n2_ := Bs2 HB hb (IsS58.ge HIB259.out) GE258.out
        have n3_ := Ax (hbox)
        have n4_ := Gw2 HB hg (IsS58.ge HIB259.out) GE258.out
        have n5_ := Gw2 HB hg (IsS58.ge HIB259.out) GE258.out
        have n6_ := Nl0 BK258 hg
        have n7_ := Nr0 BK258 hg
        have n8_ := Ax ((by rw [hg]; exact Nat.ne_of_lt (IsS58.lt (show IsS58 w _ gb259 t264 t265 from by repeat (first | (with_reducible first | exact HIB259.out | apply IsS58.alloc | apply IsS58.drewN | apply IsS58.drew | apply IsS58.set_0 | apply IsS58.set_1 | refine IsS58.far ?_ NB259_258.out _) | exact HIB259.out))) : gb259 ≠ gb269))
        have n9_ := Ax ((by rw [hg]; exact Nat.ne_of_gt (IsS58.lt (show IsS58 w _ gb259 t264 t265 from by repeat (first | (with_reducible first | exact HIB259.out | apply IsS58.alloc | apply IsS58.drewN | apply IsS58.drew | apply IsS58.set_0 | apply IsS58.set_1 | refine IsS58.far ?_ NB259_258.out _) | exact HIB259.out))) : gb269 ≠ gb259))
        clear BK258
        clear HIB259
        clear HB
        have BK258 := n0_
        have HIB259 := n1_
        have HB := n2_
        have BK269 := n3_
        have GW269 := n4_
        have GE269 := n5_
        have NB258_269 := n6_
        have NB269_258 := n7_
        have NB259_269 := n8_
        have NB269_259 := n9_
        clear n0_ n1_ n2_ n3_ n4_ n5_ n6_ n7_ n8_ n9_
        clear hb hbox hg
        refine hK.out _ _ trivial (fun hHeld => ?_)
        clear hK K
        refine norm_ (a' := ?_) ?_ ?_
        rotate_left
        ·show Act.put _ (some 5) _ = _
         simp only [sP]
         rfl
        refine one_ (i := 13) (N := some 27) #[tr,tr,tr,tr,tr,tr,tr,tr,tr,tr,tr,tr,tr,tr,fa,fa,tr,fa] rfl rfl (one_of HT_.out (by kernel_rfl)) (by decide) (fun K hK => ?_)
        refine goes_ Try.func28 (by kernel_rfl) rfl #[.pointer (some ⟨gb259, 0, none⟩)] (by rfl) rfl rfl gS ?_
        with_reducible refine (num_Reader_Num.calls58 k gb259 t264 t265 t266 t267 t268 w _ ?side1 ?side2 A10.out).mono ?_
        (case side1 => repeat (first | (with_reducible first | exact HIB259.out | apply IsS58.alloc | apply IsS58.drewN | apply IsS58.drew | apply IsS58.set_0 | apply IsS58.set_1 | refine IsS58.far ?_ NB259_258.out _ | refine IsS58.far ?_ NB259_269.out _) | exact HIB259.out))
        (case side2 => repeat (first | (with_reducible first | exact HB.out | apply below_alloc | apply pw_below_drewN | apply below_drew1 | refine below_set ?_ (IsS58.ge HIB259.out) | refine below_set ?_ GE258.out | refine below_set ?_ GE269.out) | exact HB.out))
        rintro e w18 ⟨rfl, hi, hb, hk⟩
        refine ⟨_, rfl, ?_⟩
        replace BK258 := Ax (KeepBut.blk hk (g' := gb258) (o := .cells #[.int .u8 0, .int .i64 0, .int .u64 0, .int .i64 0, .bool false, .int .u64 0, .int .u64 0, .int .i64 0, .int .u8 0, .int .i64 0, .int .i64 0, .int .i64 0] 32 (0, 0)) (bf0 BK258.out) NB258_259.out (by simp))
        replace BK269 := Ax (KeepBut.blk hk (g' := gb269) (o := .cells #[.int .u8 0, .int .i64 0, .int .u64 0, .int .i64 0, .bool false, .int .u64 0, .int .u64 0, .int .i64 0, .int .u8 0, .int .i64 0, .int .i64 0, .int .i64 0] 32 (0, 0)) (bf0 BK269.out) NB269_259.out (by simp))
        replace HB := Ax (hb)
        replace HIB259 := Ax (hi)
        (try clear hb)
        (try clear hb2)
        (try clear hk)
        (try clear hi)
        refine hK.out _ _ trivial (fun hHeld => ?_)
        clear hK K
        refine norm_ (a' := ?_) ?_ ?_
        rotate_left
        ·show Act.put _ (some 27) _ = _
         simp only [sP]
         rfl
        refine pure_ (i := 14) (N := some 28) (v := ?_) (a' := ?_) #[tr,tr,tr,tr,tr,tr,tr,tr,tr,tr,tr,tr,tr,tr,tr,fa,tr,fa] rfl rfl (any_of HT_.out (by kernel_rfl)) (fun _ _ _ h => h) (Or.inl ⟨by rfl, ?_⟩) ?_ ?_
        rotate_left
        ·intro w'
         go_simp
         with_reducible rfl
        rotate_left
        ·simp only [sP]
         rfl
        refine pure_ (i := 15) (N := some 29) (v := ?_) (a' := ?_) #[tr,tr,tr,tr,tr,tr,tr,tr,tr,tr,tr,tr,tr,tr,tr,tr,tr,fa] rfl rfl (any_of HT_.out (by kernel_rfl)) (fun _ _ _ h => h) (Or.inl ⟨by rfl, ?_⟩) ?_ ?_
        rotate_left
        ·intro w'
         go_simp
         with_reducible rfl
        rotate_left
        ·simp only [sP]
         rfl
        exact norm_ (by simp only [putAll, Act.put, List.setIfInBounds_toArray, List.set_cons_zero, List.set_cons_succ]) (hCont (gb269) _ ⟨(bf0 BK258.out), (bf0 BK269.out), GW269.out, GE269.out, NB259_269.out, NB269_259.out, NB258_269.out, NB269_258.out, (by repeat (first | (with_reducible first | exact HIB259.out | apply IsS58.alloc | apply IsS58.drewN | apply IsS58.drew | apply IsS58.set_0 | apply IsS58.set_1 | refine IsS58.far ?_ NB259_258.out _ | refine IsS58.far ?_ NB259_269.out _) | exact HIB259.out)), (bw3 HB.out (IsS58.ge HIB259.out) GE258.out GE269.out)⟩)
      ·skip
       refine box_step ?hg (N := 5) ?hd (cs := #[.int .u8 0, .int .i64 0, .int .u64 0, .int .i64 0, .bool false, .int .u64 0, .int .u64 0, .int .i64 0, .int .u8 0, .int .i64 0, .int .i64 0, .int .i64 0]) (t := 32) ?hr ?_; (case hd => rfl); (case hg => rfl); (case hr => first | (go_simp; done) | (go_simp; rfl))
       intro gb269 hg w16 hbox hb
       have n0_ := Bx0 BK258 hb
       have n1_ := Ax (IsS58.below (by repeat (first | (with_reducible first | exact HIB259.out | apply IsS58.alloc | apply IsS58.drewN | apply IsS58.drew | apply IsS58.set_0 | apply IsS58.set_1 | refine IsS58.far ?_ NB259_258.out _) | exact HIB259.out)) hb)
       have n2_ := Bs2 HB hb (IsS58.ge HIB259.out) GE258.out
       have n3_ := Ax (hbox)
       have n4_ := Gw2 HB hg (IsS58.ge HIB259.out) GE258.out
       have n5_ := Gw2 HB hg (IsS58.ge HIB259.out) GE258.out
       have n6_ := Nl0 BK258 hg
       have n7_ := Nr0 BK258 hg
       have n8_ := Ax ((by rw [hg]; exact Nat.ne_of_lt (IsS58.lt (show IsS58 w _ gb259 t261 t262 from by repeat (first | (with_reducible first | exact HIB259.out | apply IsS58.alloc | apply IsS58.drewN | apply IsS58.drew | apply IsS58.set_0 | apply IsS58.set_1 | refine IsS58.far ?_ NB259_258.out _) | exact HIB259.out))) : gb259 ≠ gb269))
       have n9_ := Ax ((by rw [hg]; exact Nat.ne_of_gt (IsS58.lt (show IsS58 w _ gb259 t261 t262 from by repeat (first | (with_reducible first | exact HIB259.out | apply IsS58.alloc | apply IsS58.drewN | apply IsS58.drew | apply IsS58.set_0 | apply IsS58.set_1 | refine IsS58.far ?_ NB259_258.out _) | exact HIB259.out))) : gb269 ≠ gb259))
       clear BK258
       clear HIB259
       clear HB
       have BK258 := n0_
       have HIB259 := n1_
       have HB := n2_
       have BK269 := n3_
       have GW269 := n4_
       have GE269 := n5_
       have NB258_269 := n6_
       have NB269_258 := n7_
       have NB259_269 := n8_
       have NB269_259 := n9_
       clear n0_ n1_ n2_ n3_ n4_ n5_ n6_ n7_ n8_ n9_
       clear hb hbox hg
       refine hK.out _ _ trivial (fun hHeld => ?_)
       clear hK K
       refine norm_ (a' := ?_) ?_ ?_
       rotate_left
       ·show Act.put _ (some 5) _ = _
        simp only [sP]
        rfl
       refine one_ (i := 9) (N := some 23) #[tr,tr,tr,tr,tr,tr,tr,tr,tr,tr,tr,tr,tr,fa,fa,fa,tr,fa] rfl rfl (one_of HT_.out (by kernel_rfl)) (by decide) (fun K hK => ?_)
       refine goes_ Try.func28 (by kernel_rfl) rfl #[.pointer (some ⟨gb259, 0, none⟩)] (by rfl) rfl rfl gS ?_
       with_reducible refine (num_Reader_Num.calls58 k gb259 t261 t262 t263 t264 t265 w _ ?side1 ?side2 A9.out).mono ?_
       (case side1 => repeat (first | (with_reducible first | exact HIB259.out | apply IsS58.alloc | apply IsS58.drewN | apply IsS58.drew | apply IsS58.set_0 | apply IsS58.set_1 | refine IsS58.far ?_ NB259_258.out _ | refine IsS58.far ?_ NB259_269.out _) | exact HIB259.out))
       (case side2 => repeat (first | (with_reducible first | exact HB.out | apply below_alloc | apply pw_below_drewN | apply below_drew1 | refine below_set ?_ (IsS58.ge HIB259.out) | refine below_set ?_ GE258.out | refine below_set ?_ GE269.out) | exact HB.out))
       rintro e w17 ⟨rfl, hi, hb, hk⟩
       refine ⟨_, rfl, ?_⟩
       replace BK258 := Ax (KeepBut.blk hk (g' := gb258) (o := .cells #[.int .u8 0, .int .i64 0, .int .u64 0, .int .i64 0, .bool false, .int .u64 0, .int .u64 0, .int .i64 0, .int .u8 0, .int .i64 0, .int .i64 0, .int .i64 0] 32 (0, 0)) (bf0 BK258.out) NB258_259.out (by simp))
       replace BK269 := Ax (KeepBut.blk hk (g' := gb269) (o := .cells #[.int .u8 0, .int .i64 0, .int .u64 0, .int .i64 0, .bool false, .int .u64 0, .int .u64 0, .int .i64 0, .int .u8 0, .int .i64 0, .int .i64 0, .int .i64 0] 32 (0, 0)) (bf0 BK269.out) NB269_259.out (by simp))
       replace HB := Ax (hb)
       replace HIB259 := Ax (hi)
       (try clear hb)
       (try clear hb2)
       (try clear hk)
       (try clear hi)
       refine hK.out _ _ trivial (fun hHeld => ?_)
       clear hK K
       refine norm_ (a' := ?_) ?_ ?_
       rotate_left
       ·show Act.put _ (some 23) _ = _
        simp only [sP]
        rfl
       refine one_ (i := 13) (N := some 27) #[tr,tr,tr,tr,tr,tr,tr,tr,tr,tr,tr,tr,tr,tr,fa,fa,tr,fa] rfl rfl (one_of HT_.out (by kernel_rfl)) (by decide) (fun K hK => ?_)
       refine goes_ Try.func28 (by kernel_rfl) rfl #[.pointer (some ⟨gb259, 0, none⟩)] (by rfl) rfl rfl gS ?_
       with_reducible refine (num_Reader_Num.calls58 k gb259 t264 t265 t266 t267 t268 w _ ?side1 ?side2 A10.out).mono ?_
       (case side1 => repeat (first | (with_reducible first | exact HIB259.out | apply IsS58.alloc | apply IsS58.drewN | apply IsS58.drew | apply IsS58.set_0 | apply IsS58.set_1 | refine IsS58.far ?_ NB259_258.out _ | refine IsS58.far ?_ NB259_269.out _) | exact HIB259.out))
       (case side2 => repeat (first | (with_reducible first | exact HB.out | apply below_alloc | apply pw_below_drewN | apply below_drew1 | refine below_set ?_ (IsS58.ge HIB259.out) | refine below_set ?_ GE258.out | refine below_set ?_ GE269.out) | exact HB.out))
       rintro e w18 ⟨rfl, hi, hb, hk⟩
       refine ⟨_, rfl, ?_⟩
       replace BK258 := Ax (KeepBut.blk hk (g' := gb258) (o := .cells #[.int .u8 0, .int .i64 0, .int .u64 0, .int .i64 0, .bool false, .int .u64 0, .int .u64 0, .int .i64 0, .int .u8 0, .int .i64 0, .int .i64 0, .int .i64 0] 32 (0, 0)) (bf0 BK258.out) NB258_259.out (by simp))
       replace BK269 := Ax (KeepBut.blk hk (g' := gb269) (o := .cells #[.int .u8 0, .int .i64 0, .int .u64 0, .int .i64 0, .bool false, .int .u64 0, .int .u64 0, .int .i64 0, .int .u8 0, .int .i64 0, .int .i64 0, .int .i64 0] 32 (0, 0)) (bf0 BK269.out) NB269_259.out (by simp))
       replace HB := Ax (hb)
       replace HIB259 := Ax (hi)
       (try clear hb)
       (try clear hb2)
       (try clear hk)
       (try clear hi)
       refine hK.out _ _ trivial (fun hHeld => ?_)
       clear hK K
       refine norm_ (a' := ?_) ?_ ?_
       rotate_left
       ·show Act.put _ (some 27) _ = _
        simp only [sP]
        rfl
       refine pure_ (i := 14) (N := some 28) (v := ?_) (a' := ?_) #[tr,tr,tr,tr,tr,tr,tr,tr,tr,tr,tr,tr,tr,tr,tr,fa,tr,fa] rfl rfl (any_of HT_.out (by kernel_rfl)) (fun _ _ _ h => h) (Or.inl ⟨by rfl, ?_⟩) ?_ ?_
       rotate_left
       ·intro w'
        go_simp
        with_reducible rfl
       rotate_left
       ·simp only [sP]
        rfl
       refine pure_ (i := 15) (N := some 29) (v := ?_) (a' := ?_) #[tr,tr,tr,tr,tr,tr,tr,tr,tr,tr,tr,tr,tr,tr,tr,tr,tr,fa] rfl rfl (any_of HT_.out (by kernel_rfl)) (fun _ _ _ h => h) (Or.inl ⟨by rfl, ?_⟩) ?_ ?_
       rotate_left
       ·intro w'
        go_simp
        with_reducible rfl
       rotate_left
       ·simp only [sP]
        rfl
       exact norm_ (by simp only [putAll, Act.put, List.setIfInBounds_toArray, List.set_cons_zero, List.set_cons_succ]) (hCont (gb269) _ ⟨(bf0 BK258.out), (bf0 BK269.out), GW269.out, GE269.out, NB259_269.out, NB269_259.out, NB258_269.out, NB269_258.out, (by repeat (first | (with_reducible first | exact HIB259.out | apply IsS58.alloc | apply IsS58.drewN | apply IsS58.drew | apply IsS58.set_0 | apply IsS58.set_1 | refine IsS58.far ?_ NB259_258.out _ | refine IsS58.far ?_ NB259_269.out _) | exact HIB259.out)), (bw3 HB.out (IsS58.ge HIB259.out) GE258.out GE269.out)⟩)
     ·skip
      refine box_step ?hg (N := 5) ?hd (cs := #[.int .u8 0, .int .i64 0, .int .u64 0, .int .i64 0, .bool false, .int .u64 0, .int .u64 0, .int .i64 0, .int .u8 0, .int .i64 0, .int .i64 0, .int .i64 0]) (t := 32) ?hr ?_; (case hd => rfl); (case hg => rfl); (case hr => first | (go_simp; done) | (go_simp; rfl))
      intro gb269 hg w15 hbox hb
      have n0_ := Bx0 BK258 hb
      have n1_ := Ax (IsS58.below (by repeat (first | (with_reducible first | exact HIB259.out | apply IsS58.alloc | apply IsS58.drewN | apply IsS58.drew | apply IsS58.set_0 | apply IsS58.set_1 | refine IsS58.far ?_ NB259_258.out _) | exact HIB259.out)) hb)
      have n2_ := Bs2 HB hb (IsS58.ge HIB259.out) GE258.out
      have n3_ := Ax (hbox)
      have n4_ := Gw2 HB hg (IsS58.ge HIB259.out) GE258.out
      have n5_ := Gw2 HB hg (IsS58.ge HIB259.out) GE258.out
      have n6_ := Nl0 BK258 hg
      have n7_ := Nr0 BK258 hg
      have n8_ := Ax ((by rw [hg]; exact Nat.ne_of_lt (IsS58.lt (show IsS58 w _ gb259 (a0.extract 1 a0.size) 0 from by repeat (first | (with_reducible first | exact HIB259.out | apply IsS58.alloc | apply IsS58.drewN | apply IsS58.drew | apply IsS58.set_0 | apply IsS58.set_1 | refine IsS58.far ?_ NB259_258.out _) | exact HIB259.out))) : gb259 ≠ gb269))
      have n9_ := Ax ((by rw [hg]; exact Nat.ne_of_gt (IsS58.lt (show IsS58 w _ gb259 (a0.extract 1 a0.size) 0 from by repeat (first | (with_reducible first | exact HIB259.out | apply IsS58.alloc | apply IsS58.drewN | apply IsS58.drew | apply IsS58.set_0 | apply IsS58.set_1 | refine IsS58.far ?_ NB259_258.out _) | exact HIB259.out))) : gb269 ≠ gb259))
      clear BK258
      clear HIB259
      clear HB
      have BK258 := n0_
      have HIB259 := n1_
      have HB := n2_
      have BK269 := n3_
      have GW269 := n4_
      have GE269 := n5_
      have NB258_269 := n6_
      have NB269_258 := n7_
      have NB259_269 := n8_
      have NB269_259 := n9_
      clear n0_ n1_ n2_ n3_ n4_ n5_ n6_ n7_ n8_ n9_
      clear hb hbox hg
      refine hK.out _ _ trivial (fun hHeld => ?_)
      clear hK K
      refine norm_ (a' := ?_) ?_ ?_
      rotate_left
      ·show Act.put _ (some 5) _ = _
       simp only [sP]
       rfl
      refine one_ (i := 5) (N := some 19) #[tr,tr,tr,tr,tr,tr,tr,tr,tr,fa,tr,tr,tr,fa,fa,fa,tr,fa] rfl rfl (one_of HT_.out (by kernel_rfl)) (by decide) (fun K hK => ?_)
      refine goes_ Try.func27 (by kernel_rfl) rfl #[.pointer (some ⟨gb259, 0, none⟩), .int .i64 1048576] (by rfl) rfl rfl gS ?_
      with_reducible refine (num_Reader_Many.calls58 k gb259 (a0.extract 1 a0.size) 0 1048576 t260 t261 t262 w _ ?side1 ?side2 A8.out).mono ?_
      (case side1 => repeat (first | (with_reducible first | exact HIB259.out | apply IsS58.alloc | apply IsS58.drewN | apply IsS58.drew | apply IsS58.set_0 | apply IsS58.set_1 | refine IsS58.far ?_ NB259_258.out _ | refine IsS58.far ?_ NB259_269.out _) | exact HIB259.out))
      (case side2 => repeat (first | (with_reducible first | exact HB.out | apply below_alloc | apply pw_below_drewN | apply below_drew1 | refine below_set ?_ (IsS58.ge HIB259.out) | refine below_set ?_ GE258.out | refine below_set ?_ GE269.out) | exact HB.out))
      rintro e w16 ⟨rfl, hi, hb, hk⟩
      refine ⟨_, rfl, ?_⟩
      replace BK258 := Ax (KeepBut.blk hk (g' := gb258) (o := .cells #[.int .u8 0, .int .i64 0, .int .u64 0, .int .i64 0, .bool false, .int .u64 0, .int .u64 0, .int .i64 0, .int .u8 0, .int .i64 0, .int .i64 0, .int .i64 0] 32 (0, 0)) (bf0 BK258.out) NB258_259.out (by simp))
      replace BK269 := Ax (KeepBut.blk hk (g' := gb269) (o := .cells #[.int .u8 0, .int .i64 0, .int .u64 0, .int .i64 0, .bool false, .int .u64 0, .int .u64 0, .int .i64 0, .int .u8 0, .int .i64 0, .int .i64 0, .int .i64 0] 32 (0, 0)) (bf0 BK269.out) NB269_259.out (by simp))
      replace HB := Ax (hb)
      replace HIB259 := Ax (hi)
      (try clear hb)
      (try clear hb2)
      (try clear hk)
      (try clear hi)
      refine hK.out _ _ trivial (fun hHeld => ?_)
      clear hK K
      refine norm_ (a' := ?_) ?_ ?_
      rotate_left
      ·show Act.put _ (some 19) _ = _
       simp only [sP]
       rfl
      refine one_ (i := 9) (N := some 23) #[tr,tr,tr,tr,tr,tr,tr,tr,tr,tr,tr,tr,tr,fa,fa,fa,tr,fa] rfl rfl (one_of HT_.out (by kernel_rfl)) (by decide) (fun K hK => ?_)
      refine goes_ Try.func28 (by kernel_rfl) rfl #[.pointer (some ⟨gb259, 0, none⟩)] (by rfl) rfl rfl gS ?_
      with_reducible refine (num_Reader_Num.calls58 k gb259 t261 t262 t263 t264 t265 w _ ?side1 ?side2 A9.out).mono ?_
      (case side1 => repeat (first | (with_reducible first | exact HIB259.out | apply IsS58.alloc | apply IsS58.drewN | apply IsS58.drew | apply IsS58.set_0 | apply IsS58.set_1 | refine IsS58.far ?_ NB259_258.out _ | refine IsS58.far ?_ NB259_269.out _) | exact HIB259.out))
      (case side2 => repeat (first | (with_reducible first | exact HB.out | apply below_alloc | apply pw_below_drewN | apply below_drew1 | refine below_set ?_ (IsS58.ge HIB259.out) | refine below_set ?_ GE258.out | refine below_set ?_ GE269.out) | exact HB.out))
      rintro e w17 ⟨rfl, hi, hb, hk⟩
      refine ⟨_, rfl, ?_⟩
      replace BK258 := Ax (KeepBut.blk hk (g' := gb258) (o := .cells #[.int .u8 0, .int .i64 0, .int .u64 0, .int .i64 0, .bool false, .int .u64 0, .int .u64 0, .int .i64 0, .int .u8 0, .int .i64 0, .int .i64 0, .int .i64 0] 32 (0, 0)) (bf0 BK258.out) NB258_259.out (by simp))
      replace BK269 := Ax (KeepBut.blk hk (g' := gb269) (o := .cells #[.int .u8 0, .int .i64 0, .int .u64 0, .int .i64 0, .bool false, .int .u64 0, .int .u64 0, .int .i64 0, .int .u8 0, .int .i64 0, .int .i64 0, .int .i64 0] 32 (0, 0)) (bf0 BK269.out) NB269_259.out (by simp))
      replace HB := Ax (hb)
      replace HIB259 := Ax (hi)
      (try clear hb)
      (try clear hb2)
      (try clear hk)
      (try clear hi)
      refine hK.out _ _ trivial (fun hHeld => ?_)
      clear hK K
      refine norm_ (a' := ?_) ?_ ?_
      rotate_left
      ·show Act.put _ (some 23) _ = _
       simp only [sP]
       rfl
      refine one_ (i := 13) (N := some 27) #[tr,tr,tr,tr,tr,tr,tr,tr,tr,tr,tr,tr,tr,tr,fa,fa,tr,fa] rfl rfl (one_of HT_.out (by kernel_rfl)) (by decide) (fun K hK => ?_)
      refine goes_ Try.func28 (by kernel_rfl) rfl #[.pointer (some ⟨gb259, 0, none⟩)] (by rfl) rfl rfl gS ?_
      with_reducible refine (num_Reader_Num.calls58 k gb259 t264 t265 t266 t267 t268 w _ ?side1 ?side2 A10.out).mono ?_
      (case side1 => repeat (first | (with_reducible first | exact HIB259.out | apply IsS58.alloc | apply IsS58.drewN | apply IsS58.drew | apply IsS58.set_0 | apply IsS58.set_1 | refine IsS58.far ?_ NB259_258.out _ | refine IsS58.far ?_ NB259_269.out _) | exact HIB259.out))
      (case side2 => repeat (first | (with_reducible first | exact HB.out | apply below_alloc | apply pw_below_drewN | apply below_drew1 | refine below_set ?_ (IsS58.ge HIB259.out) | refine below_set ?_ GE258.out | refine below_set ?_ GE269.out) | exact HB.out))
      rintro e w18 ⟨rfl, hi, hb, hk⟩
      refine ⟨_, rfl, ?_⟩
      replace BK258 := Ax (KeepBut.blk hk (g' := gb258) (o := .cells #[.int .u8 0, .int .i64 0, .int .u64 0, .int .i64 0, .bool false, .int .u64 0, .int .u64 0, .int .i64 0, .int .u8 0, .int .i64 0, .int .i64 0, .int .i64 0] 32 (0, 0)) (bf0 BK258.out) NB258_259.out (by simp))
      replace BK269 := Ax (KeepBut.blk hk (g' := gb269) (o := .cells #[.int .u8 0, .int .i64 0, .int .u64 0, .int .i64 0, .bool false, .int .u64 0, .int .u64 0, .int .i64 0, .int .u8 0, .int .i64 0, .int .i64 0, .int .i64 0] 32 (0, 0)) (bf0 BK269.out) NB269_259.out (by simp))
      replace HB := Ax (hb)
      replace HIB259 := Ax (hi)
      (try clear hb)
      (try clear hb2)
      (try clear hk)
      (try clear hi)
      refine hK.out _ _ trivial (fun hHeld => ?_)
      clear hK K
      refine norm_ (a' := ?_) ?_ ?_
      rotate_left
      ·show Act.put _ (some 27) _ = _
       simp only [sP]
       rfl
      refine pure_ (i := 14) (N := some 28) (v := ?_) (a' := ?_) #[tr,tr,tr,tr,tr,tr,tr,tr,tr,tr,tr,tr,tr,tr,tr,fa,tr,fa] rfl rfl (any_of HT_.out (by kernel_rfl)) (fun _ _ _ h => h) (Or.inl ⟨by rfl, ?_⟩) ?_ ?_
      rotate_left
      ·intro w'
       go_simp
       with_reducible rfl
      rotate_left
      ·simp only [sP]
       rfl
      refine pure_ (i := 15) (N := some 29) (v := ?_) (a' := ?_) #[tr,tr,tr,tr,tr,tr,tr,tr,tr,tr,tr,tr,tr,tr,tr,tr,tr,fa] rfl rfl (any_of HT_.out (by kernel_rfl)) (fun _ _ _ h => h) (Or.inl ⟨by rfl, ?_⟩) ?_ ?_
      rotate_left
      ·intro w'
       go_simp
       with_reducible rfl
      rotate_left
      ·simp only [sP]
       rfl
      exact norm_ (by simp only [putAll, Act.put, List.setIfInBounds_toArray, List.set_cons_zero, List.set_cons_succ]) (hCont (gb269) _ ⟨(bf0 BK258.out), (bf0 BK269.out), GW269.out, GE269.out, NB259_269.out, NB269_259.out, NB258_269.out, NB269_258.out, (by repeat (first | (with_reducible first | exact HIB259.out | apply IsS58.alloc | apply IsS58.drewN | apply IsS58.drew | apply IsS58.set_0 | apply IsS58.set_1 | refine IsS58.far ?_ NB259_258.out _ | refine IsS58.far ?_ NB259_269.out _) | exact HIB259.out)), (bw3 HB.out (IsS58.ge HIB259.out) GE258.out GE269.out)⟩)
    rintro gb269 w19 ⟨h0_, h1_, h2_, h3_, h4_, h5_, h6_, h7_, h8_, h9_⟩
    have n0_ : Aside0 (w19.heap[gb258]? = some (.cells #[.int .u8 0, .int .i64 0, .int .u64 0, .int .i64 0, .bool false, .int .u64 0, .int .u64 0, .int .i64 0, .int .u8 0, .int .i64 0, .int .i64 0, .int .i64 0] 32 (0, 0))) := ⟨h0_⟩
    have n1_ : Aside0 (w19.heap[gb269]? = some (.cells #[.int .u8 0, .int .i64 0, .int .u64 0, .int .i64 0, .bool false, .int .u64 0, .int .u64 0, .int .i64 0, .int .u8 0, .int .i64 0, .int .i64 0, .int .i64 0] 32 (0, 0))) := ⟨h1_⟩
    have n2_ : Aside0 (w.heap.size ≤ gb269) := ⟨h2_⟩
    have n3_ : Aside0 (w.heap.size ≤ gb269) := ⟨h3_⟩
    have n4_ : Aside0 (gb259 ≠ gb269) := ⟨h4_⟩
    have n5_ : Aside0 (gb269 ≠ gb259) := ⟨h5_⟩
    have n6_ : Aside0 (gb258 ≠ gb269) := ⟨h6_⟩
    have n7_ : Aside0 (gb269 ≠ gb258) := ⟨h7_⟩
    have n8_ : Aside0 (IsS58 w w19 gb259 t267 t268) := ⟨h8_⟩
    have n9_ : Aside0 (Below w.heap.size w w19) := ⟨h9_⟩
    clear BK258
    clear HIB259
    clear HB
    clear h0_ h1_ h2_ h3_ h4_ h5_ h6_ h7_ h8_ h9_
    have BK258 := n0_
    have BK269 := n1_
    have GW269 := n2_
    have GE269 := n3_
    have NB259_269 := n4_
    have NB269_259 := n5_
    have NB258_269 := n6_
    have NB269_258 := n7_
    have HIB259 := n8_
    have HB := n9_
    clear n0_ n1_ n2_ n3_ n4_ n5_ n6_ n7_ n8_ n9_
    have hHeld := trivial
    refine norm_ (a' := ?_) ?_ ?_
    rotate_left
    ·simp only [putAll, Act.put, List.setIfInBounds_toArray, List.set_cons_zero, List.set_cons_succ]
     rfl
    refine one_ (i := 17) (N := none) #[tr,tr,tr,tr,tr,tr,tr,tr,tr,tr,tr,tr,tr,tr,tr,tr,tr,tr] rfl rfl (one_of HT_.out (by kernel_rfl)) (by decide) (fun K hK => ?_)
    have hs20 : w19.cell? ⟨gb269, 0, none⟩ = some (.int .u8 0) := (blk_cell BK269.out 0).trans rfl
    have hfs20 := blk_frozen BK269.out 0
    have hns20_0 := NB258_269.out
    have hms20_0 := NB269_258.out
    have hs21 : w19.cell? ⟨gb269, 1, none⟩ = some (.int .i64 0) := (blk_cell BK269.out 1).trans rfl
    have hfs21 := blk_frozen BK269.out 1
    have hns21_0 := NB258_269.out
    have hms21_0 := NB269_258.out
    have hs22 : w19.cell? ⟨gb269, 2, none⟩ = some (.int .u64 0) := (blk_cell BK269.out 2).trans rfl
    have hfs22 := blk_frozen BK269.out 2
    have hns22_0 := NB258_269.out
    have hms22_0 := NB269_258.out
    have hs23 : w19.cell? ⟨gb269, 3, none⟩ = some (.int .i64 0) := (blk_cell BK269.out 3).trans rfl
    have hfs23 := blk_frozen BK269.out 3
    have hns23_0 := NB258_269.out
    have hms23_0 := NB269_258.out
    have hs24 : w19.cell? ⟨gb269, 4, none⟩ = some (.bool false) := (blk_cell BK269.out 4).trans rfl
    have hfs24 := blk_frozen BK269.out 4
    have hns24_0 := NB258_269.out
    have hms24_0 := NB269_258.out
    have hs25 : w19.cell? ⟨gb269, 5, none⟩ = some (.int .u64 0) := (blk_cell BK269.out 5).trans rfl
    have hfs25 := blk_frozen BK269.out 5
    have hns25_0 := NB258_269.out
    have hms25_0 := NB269_258.out
    have hs26 : w19.cell? ⟨gb269, 6, none⟩ = some (.int .u64 0) := (blk_cell BK269.out 6).trans rfl
    have hfs26 := blk_frozen BK269.out 6
    have hns26_0 := NB258_269.out
    have hms26_0 := NB269_258.out
    have hs27 : w19.cell? ⟨gb269, 7, none⟩ = some (.int .i64 0) := (blk_cell BK269.out 7).trans rfl
    have hfs27 := blk_frozen BK269.out 7
    have hns27_0 := NB258_269.out
    have hms27_0 := NB269_258.out
    have hs28 : w19.cell? ⟨gb269, 8, none⟩ = some (.int .u8 0) := (blk_cell BK269.out 8).trans rfl
    have hfs28 := blk_frozen BK269.out 8
    have hns28_0 := NB258_269.out
    have hms28_0 := NB269_258.out
    have hs29 : w19.cell? ⟨gb269, 9, none⟩ = some (.int .i64 0) := (blk_cell BK269.out 9).trans rfl
    have hfs29 := blk_frozen BK269.out 9
    have hns29_0 := NB258_269.out
    have hms29_0 := NB269_258.out
    have hs30 : w19.cell? ⟨gb269, 10, none⟩ = some (.int .i64 0) := (blk_cell BK269.out 10).trans rfl
    have hfs30 := blk_frozen BK269.out 10
    have hns30_0 := NB258_269.out
    have hms30_0 := NB269_258.out
    have hs31 : w19.cell? ⟨gb269, 11, none⟩ = some (.int .i64 0) := (blk_cell BK269.out 11).trans rfl
    have hfs31 := blk_frozen BK269.out 11
    have hns31_0 := NB258_269.out
    have hms31_0 := NB269_258.out
    refine skip_ (w1 := ?_) (by rfl) rfl ?_ ?_
    rotate_left
    ·go_simp
     rfl
    refine hK.out _ _ trivial (fun hHeld => ?_)
    clear hK K
    refine done_ (done_of HT_.out (by kernel_rfl)) ?_
    have hnb32 := NB269_258.out
    have hnc32 := NB258_269.out
    have hnb33 := NB269_259.out
    have hnc33 := NB259_269.out
    obtain ⟨hcz34_0, hcz34_1, hcz34_2, hcz34_3, hcz34_4, hcz34_5, hcz34_6, hcz34_7, hcz34_8, hcz34_9, hcz34_10, hcz34_11, hfz34_0, hfz34_1, hfz34_2, hfz34_3, hfz34_4, hfz34_5, hfz34_6, hfz34_7, hfz34_8, hfz34_9, hfz34_10, hfz34_11⟩ := cl12 BK269
    go_upto_block 0 with (fail)
    go_cut [] (fun wc => ∃ (kq : Nat) (x260000_10 : ByteArray) (x260001_10 : Int) (x270004_10 : Bool) (x270005_10 : Int) (x270006_10 : Int) (x270007_10 : Int) (x270008_10 : Int) (x270009_10 : Int) (x270010_10 : Int) (x270011_10 : Int), Aside0 (msg_Get.j0 kq x260000_10 x260001_10 (bt a0 0) t260 t263 (wrap64 (t266)) x270004_10 x270005_10 x270006_10 x270007_10 x270008_10 x270009_10 x270010_10 x270011_10 = some (r1, r2, r3, r4, r5, r6, r7, r8, r9, r10, r11, r12, r13)) ∧ Aside0 (kq ≤ k) ∧ Aside0 (wc.heap[gb258]? = some (.cells #[.int .u8 0, .int .i64 0, .int .u64 0, .int .i64 0, .bool false, .int .u64 0, .int .u64 0, .int .i64 0, .int .u8 0, .int .i64 0, .int .i64 0, .int .i64 0] 32 (0, 0))) ∧ Aside0 (wc.heap[gb269]? = some (.cells #[.int .u8 (bt a0 0), .int .i64 t260, .int .u64 t263, .int .i64 (wrap64 (t266)), .bool x270004_10, .int .u64 x270005_10, .int .u64 x270006_10, .int .i64 x270007_10, .int .u8 x270008_10, .int .i64 x270009_10, .int .i64 x270010_10, .int .i64 x270011_10] 32 (0, 0))) ∧ Aside0 (IsS58 w wc gb259 x260000_10 x260001_10) ∧ Aside0 (Below w.heap.size w wc))
    case first =>
     have H := HC11.out
     clear HC11
     by_cases c35 : (bt a0 0) = 3
     ·rw [if_pos c35] at H
      have c35b0 : ((bt a0 0) == 3) = true := beq_iff_eq.mpr c35
      have c35b1 : ((bt a0 0) != 3) = false := bne_eq_false_iff_eq.mpr c35
      clear c35
      (first | rw [c35b0] | (simp only [i64_w, i32_w]; rw [c35b0]) | skip)
      replace H := Option.bind_eq_some_iff.mp H
      obtain ⟨⟨t270, t271, t272, t273, t274, t275⟩, A360, H⟩ := H
      replace H : ((api_Action.f k t274 t275).bind fun bt276 => (msg_Get.j0 k bt276.2.2.1 bt276.2.2.2 (bt a0 0) t260 t263 (wrap64 (t266)) t270 t271 t272 t273 bt276.1 bt276.2.1 0 0)) = some (r1, r2, r3, r4, r5, r6, r7, r8, r9, r10, r11, r12, r13) := H
      have A36 := Ax A360
      clear A360
      replace H := Option.bind_eq_some_iff.mp H
      obtain ⟨⟨t276, t277, t278, t279⟩, A370, H⟩ := H
      replace H : (msg_Get.j0 k t278 t279 (bt a0 0) t260 t263 (wrap64 (t266)) t270 t271 t272 t273 t276 t277 0 0) = some (r1, r2, r3, r4, r5, r6, r7, r8, r9, r10, r11, r12, r13) := H
      have A37 := Ax A370
      clear A370
      have H' := Ax H
      clear H
      go_wp2_with (first | ((with_reducible refine gate_callee (f := 29) rfl ?_); refine goesL_ (some 35) rfl rfl Try.func29 (by kernel_rfl) rfl #[.pointer (some ⟨gb259, 0, none⟩), .func (.func 17) #[] #[]] rfl gS ?_; (with_reducible refine (api_Prefix.calls k gb259 t267 t268 t270 t271 t272 t273 t274 t275 w _ ?side1 ?side2 A36.out).mono ?_); (case side1 => repeat (first | (with_reducible first | exact HIB259.out | apply IsS58.alloc | apply IsS58.drewN | apply IsS58.drew | apply IsS58.set_0 | apply IsS58.set_1 | refine IsS58.far ?_ NB259_258.out _ | refine IsS58.far ?_ NB259_269.out _) | exact HIB259.out)); (case side2 => repeat (first | (with_reducible first | exact HB.out | apply below_alloc | apply pw_below_drewN | apply below_drew1 | refine below_set ?_ (IsS58.ge HIB259.out) | refine below_set ?_ GE258.out | refine below_set ?_ GE269.out) | exact HB.out)); rintro e w38 ⟨rfl, hi, hb, hk⟩; refine ⟨_, rfl, ?_⟩; have n0_ := Ax (KeepBut.blk hk (g' := gb258) (o := .cells #[.int .u8 0, .int .i64 0, .int .u64 0, .int .i64 0, .bool false, .int .u64 0, .int .u64 0, .int .i64 0, .int .u8 0, .int .i64 0, .int .i64 0, .int .i64 0] 32 (0, 0)) (by (with_reducible repeat (first | refine blk_drewN ?_ _ | refine blk_drew ?_ | refine blk_alloc ?_ _)); refine blk_far ?_ NB258_269.out _; (with_reducible repeat (first | refine blk_drewN ?_ _ | refine blk_drew ?_ | refine blk_alloc ?_ _)); refine blk_far ?_ NB258_269.out _; (with_reducible repeat (first | refine blk_drewN ?_ _ | refine blk_drew ?_ | refine blk_alloc ?_ _)); refine blk_far ?_ NB258_269.out _; (with_reducible repeat (first | refine blk_drewN ?_ _ | refine blk_drew ?_ | refine blk_alloc ?_ _)); refine blk_far ?_ NB258_269.out _; (with_reducible repeat (first | refine blk_drewN ?_ _ | refine blk_drew ?_ | refine blk_alloc ?_ _)); refine blk_far ?_ NB258_269.out _; (with_reducible repeat (first | refine blk_drewN ?_ _ | refine blk_drew ?_ | refine blk_alloc ?_ _)); refine blk_far ?_ NB258_269.out _; (with_reducible repeat (first | refine blk_drewN ?_ _ | refine blk_drew ?_ | refine blk_alloc ?_ _)); refine blk_far ?_ NB258_269.out _; (with_reducible repeat (first | refine blk_drewN ?_ _ | refine blk_drew ?_ | refine blk_alloc ?_ _)); refine blk_far ?_ NB258_269.out _; (with_reducible repeat (first | refine blk_drewN ?_ _ | refine blk_drew ?_ | refine blk_alloc ?_ _)); refine blk_far ?_ NB258_269.out _; (with_reducible repeat (first | refine blk_drewN ?_ _ | refine blk_drew ?_ | refine blk_alloc ?_ _)); refine blk_far ?_ NB258_269.out _; (with_reducible repeat (first | refine blk_drewN ?_ _ | refine blk_drew ?_ | refine blk_alloc ?_ _)); refine blk_far ?_ NB258_269.out _; (with_reducible repeat (first | refine blk_drewN ?_ _ | refine blk_drew ?_ | refine blk_alloc ?_ _)); refine blk_far ?_ NB258_269.out _; (with_reducible repeat (first | refine blk_drewN ?_ _ | refine blk_drew ?_ | refine blk_alloc ?_ _)); exact BK258.out) NB258_259.out (by simp)); have n1_ := Ax (KeepBut.blk hk (g' := gb269) (o := .cells #[.int .u8 (bt a0 0), .int .i64 t260, .int .u64 t263, .int .i64 (wrap64 (t266)), .bool false, .int .u64 0, .int .u64 0, .int .i64 0, .int .u8 0, .int .i64 0, .int .i64 0, .int .i64 0] 32 (0, 0)) (by (with_reducible repeat (first | refine blk_drewN ?_ _ | refine blk_drew ?_ | refine blk_alloc ?_ _)); refine blk_put (cs := #[.int .u8 (bt a0 0), .int .i64 t260, .int .u64 t263, .int .i64 (wrap64 (t266)), .bool false, .int .u64 0, .int .u64 0, .int .i64 0, .int .u8 0, .int .i64 0, .int .i64 0, .int .i64 0]) ?_ 11 _ rfl; (with_reducible repeat (first | refine blk_drewN ?_ _ | refine blk_drew ?_ | refine blk_alloc ?_ _)); refine blk_put (cs := #[.int .u8 (bt a0 0), .int .i64 t260, .int .u64 t263, .int .i64 (wrap64 (t266)), .bool false, .int .u64 0, .int .u64 0, .int .i64 0, .int .u8 0, .int .i64 0, .int .i64 0, .int .i64 0]) ?_ 10 _ rfl; (with_reducible repeat (first | refine blk_drewN ?_ _ | refine blk_drew ?_ | refine blk_alloc ?_ _)); refine blk_put (cs := #[.int .u8 (bt a0 0), .int .i64 t260, .int .u64 t263, .int .i64 (wrap64 (t266)), .bool false, .int .u64 0, .int .u64 0, .int .i64 0, .int .u8 0, .int .i64 0, .int .i64 0, .int .i64 0]) ?_ 9 _ rfl; (with_reducible repeat (first | refine blk_drewN ?_ _ | refine blk_drew ?_ | refine blk_alloc ?_ _)); refine blk_put (cs := #[.int .u8 (bt a0 0), .int .i64 t260, .int .u64 t263, .int .i64 (wrap64 (t266)), .bool false, .int .u64 0, .int .u64 0, .int .i64 0, .int .u8 0, .int .i64 0, .int .i64 0, .int .i64 0]) ?_ 8 _ rfl; (with_reducible repeat (first | refine blk_drewN ?_ _ | refine blk_drew ?_ | refine blk_alloc ?_ _)); refine blk_put (cs := #[.int .u8 (bt a0 0), .int .i64 t260, .int .u64 t263, .int .i64 (wrap64 (t266)), .bool false, .int .u64 0, .int .u64 0, .int .i64 0, .int .u8 0, .int .i64 0, .int .i64 0, .int .i64 0]) ?_ 7 _ rfl; (with_reducible repeat (first | refine blk_drewN ?_ _ | refine blk_drew ?_ | refine blk_alloc ?_ _)); refine blk_put (cs := #[.int .u8 (bt a0 0), .int .i64 t260, .int .u64 t263, .int .i64 (wrap64 (t266)), .bool false, .int .u64 0, .int .u64 0, .int .i64 0, .int .u8 0, .int .i64 0, .int .i64 0, .int .i64 0]) ?_ 6 _ rfl; (with_reducible repeat (first | refine blk_drewN ?_ _ | refine blk_drew ?_ | refine blk_alloc ?_ _)); refine blk_put (cs := #[.int .u8 (bt a0 0), .int .i64 t260, .int .u64 t263, .int .i64 (wrap64 (t266)), .bool false, .int .u64 0, .int .u64 0, .int .i64 0, .int .u8 0, .int .i64 0, .int .i64 0, .int .i64 0]) ?_ 5 _ rfl; (with_reducible repeat (first | refine blk_drewN ?_ _ | refine blk_drew ?_ | refine blk_alloc ?_ _)); refine blk_put (cs := #[.int .u8 (bt a0 0), .int .i64 t260, .int .u64 t263, .int .i64 (wrap64 (t266)), .bool false, .int .u64 0, .int .u64 0, .int .i64 0, .int .u8 0, .int .i64 0, .int .i64 0, .int .i64 0]) ?_ 4 _ rfl; (with_reducible repeat (first | refine blk_drewN ?_ _ | refine blk_drew ?_ | refine blk_alloc ?_ _)); refine blk_put (cs := #[.int .u8 (bt a0 0), .int .i64 t260, .int .u64 t263, .int .i64 0, .bool false, .int .u64 0, .int .u64 0, .int .i64 0, .int .u8 0, .int .i64 0, .int .i64 0, .int .i64 0]) ?_ 3 _ rfl; (with_reducible repeat (first | refine blk_drewN ?_ _ | refine blk_drew ?_ | refine blk_alloc ?_ _)); refine blk_put (cs := #[.int .u8 (bt a0 0), .int .i64 t260, .int .u64 0, .int .i64 0, .bool false, .int .u64 0, .int .u64 0, .int .i64 0, .int .u8 0, .int .i64 0, .int .i64 0, .int .i64 0]) ?_ 2 _ rfl; (with_reducible repeat (first | refine blk_drewN ?_ _ | refine blk_drew ?_ | refine blk_alloc ?_ _)); refine blk_put (cs := #[.int .u8 (bt a0 0), .int .i64 0, .int .u64 0, .int .i64 0, .bool false, .int .u64 0, .int .u64 0, .int .i64 0, .int .u8 0, .int .i64 0, .int .i64 0, .int .i64 0]) ?_ 1 _ rfl; (with_reducible repeat (first | refine blk_drewN ?_ _ | refine blk_drew ?_ | refine blk_alloc ?_ _)); refine blk_put (cs := #[.int .u8 0, .int .i64 0, .int .u64 0, .int .i64 0, .bool false, .int .u64 0, .int .u64 0, .int .i64 0, .int .u8 0, .int .i64 0, .int .i64 0, .int .i64 0]) ?_ 0 _ rfl; (with_reducible repeat (first | refine blk_drewN ?_ _ | refine blk_drew ?_ | refine blk_alloc ?_ _)); exact BK269.out) NB269_259.out (by simp)); have n2_ := Ax (hb); have n3_ := Ax (hi); clear BK258; clear BK269; clear HB; clear HIB259; have BK258 := n0_; have BK269 := n1_; have HB := n2_; have HIB259 := n3_; clear n0_ n1_ n2_ n3_; (try clear hb); (try clear hb2); (try clear hk); (try clear hi)) | ((with_reducible refine gate_callee (f := 30) rfl ?_); refine goesL_ (some 37) rfl rfl Try.func30 (by kernel_rfl) rfl #[.pointer (some ⟨gb259, 0, none⟩), .func (.func 21) #[] #[]] rfl gS ?_; (with_reducible refine (api_Action.calls k gb259 t274 t275 t276 t277 t278 t279 w _ ?side1 ?side2 A37.out).mono ?_); (case side1 => repeat (first | (with_reducible first | exact HIB259.out | apply IsS58.alloc | apply IsS58.drewN | apply IsS58.drew | apply IsS58.set_0 | apply IsS58.set_1 | refine IsS58.far ?_ NB259_258.out _ | refine IsS58.far ?_ NB259_269.out _) | exact HIB259.out)); (case side2 => repeat (first | (with_reducible first | exact HB.out | apply below_alloc | apply pw_below_drewN | apply below_drew1 | refine below_set ?_ (IsS58.ge HIB259.out) | refine below_set ?_ GE258.out | refine below_set ?_ GE269.out) | exact HB.out)); rintro e w39 ⟨rfl, hi, hb, hk⟩; refine ⟨_, rfl, ?_⟩; replace BK258 := Ax (KeepBut.blk hk (g' := gb258) (o := .cells #[.int .u8 0, .int .i64 0, .int .u64 0, .int .i64 0, .bool false, .int .u64 0, .int .u64 0, .int .i64 0, .int .u8 0, .int .i64 0, .int .i64 0, .int .i64 0] 32 (0, 0)) (bf0 BK258.out) NB258_259.out (by simp)); replace BK269 := Ax (KeepBut.blk hk (g' := gb269) (o := .cells #[.int .u8 (bt a0 0), .int .i64 t260, .int .u64 t263, .int .i64 (wrap64 (t266)), .bool false, .int .u64 0, .int .u64 0, .int .i64 0, .int .u8 0, .int .i64 0, .int .i64 0, .int .i64 0] 32 (0, 0)) (bf0 BK269.out) NB269_259.out (by simp)); replace HB := Ax (hb); replace HIB259 := Ax (hi); (try clear hb); (try clear hb2); (try clear hk); (try clear hi); have hnb40 := NB269_258.out; have hnc40 := NB258_269.out; have hnb41 := NB269_259.out; have hnc41 := NB259_269.out; obtain ⟨hcz42_0, hcz42_1, hcz42_2, hcz42_3, hcz42_4, hcz42_5, hcz42_6, hcz42_7, hcz42_8, hcz42_9, hcz42_10, hcz42_11, hfz42_0, hfz42_1, hfz42_2, hfz42_3, hfz42_4, hfz42_5, hfz42_6, hfz42_7, hfz42_8, hfz42_9, hfz42_10, hfz42_11⟩ := cl12 BK269))
      go_meet
      case rel => exact ⟨_, (t278), (t279), (t270), (t271), (t272), (t273), (t276), (t277), (0), (0), H', ⟨by first | omega | exact Nat.le_refl _⟩, ⟨bf6 BK258.out NB258_269.out NB258_269.out NB258_269.out NB258_269.out NB258_269.out NB258_269.out⟩, ⟨by (with_reducible repeat (first | refine blk_drewN ?_ _ | refine blk_drew ?_ | refine blk_alloc ?_ _)); refine blk_put (cs := #[.int .u8 (bt a0 0), .int .i64 t260, .int .u64 t263, .int .i64 (wrap64 (t266)), .bool t270, .int .u64 t271, .int .u64 t272, .int .i64 t273, .int .u8 t276, .int .i64 0, .int .i64 0, .int .i64 0]) ?_ 9 _ rfl; (with_reducible repeat (first | refine blk_drewN ?_ _ | refine blk_drew ?_ | refine blk_alloc ?_ _)); refine blk_put (cs := #[.int .u8 (bt a0 0), .int .i64 t260, .int .u64 t263, .int .i64 (wrap64 (t266)), .bool t270, .int .u64 t271, .int .u64 t272, .int .i64 t273, .int .u8 0, .int .i64 0, .int .i64 0, .int .i64 0]) ?_ 8 _ rfl; (with_reducible repeat (first | refine blk_drewN ?_ _ | refine blk_drew ?_ | refine blk_alloc ?_ _)); refine blk_put (cs := #[.int .u8 (bt a0 0), .int .i64 t260, .int .u64 t263, .int .i64 (wrap64 (t266)), .bool t270, .int .u64 t271, .int .u64 t272, .int .i64 0, .int .u8 0, .int .i64 0, .int .i64 0, .int .i64 0]) ?_ 7 _ rfl; (with_reducible repeat (first | refine blk_drewN ?_ _ | refine blk_drew ?_ | refine blk_alloc ?_ _)); refine blk_put (cs := #[.int .u8 (bt a0 0), .int .i64 t260, .int .u64 t263, .int .i64 (wrap64 (t266)), .bool t270, .int .u64 t271, .int .u64 0, .int .i64 0, .int .u8 0, .int .i64 0, .int .i64 0, .int .i64 0]) ?_ 6 _ rfl; (with_reducible repeat (first | refine blk_drewN ?_ _ | refine blk_drew ?_ | refine blk_alloc ?_ _)); refine blk_put (cs := #[.int .u8 (bt a0 0), .int .i64 t260, .int .u64 t263, .int .i64 (wrap64 (t266)), .bool t270, .int .u64 0, .int .u64 0, .int .i64 0, .int .u8 0, .int .i64 0, .int .i64 0, .int .i64 0]) ?_ 5 _ rfl; (with_reducible repeat (first | refine blk_drewN ?_ _ | refine blk_drew ?_ | refine blk_alloc ?_ _)); refine blk_put (cs := #[.int .u8 (bt a0 0), .int .i64 t260, .int .u64 t263, .int .i64 (wrap64 (t266)), .bool false, .int .u64 0, .int .u64 0, .int .i64 0, .int .u8 0, .int .i64 0, .int .i64 0, .int .i64 0]) ?_ 4 _ rfl; (with_reducible repeat (first | refine blk_drewN ?_ _ | refine blk_drew ?_ | refine blk_alloc ?_ _)); exact BK269.out⟩, ⟨by repeat (first | (with_reducible first | exact HIB259.out | apply IsS58.alloc | apply IsS58.drewN | apply IsS58.drew | apply IsS58.set_0 | apply IsS58.set_1 | refine IsS58.far ?_ NB259_258.out _ | refine IsS58.far ?_ NB259_269.out _) | exact HIB259.out)⟩, ⟨bw3 HB.out (IsS58.ge HIB259.out) GE258.out GE269.out⟩⟩
     ·rw [if_neg c35] at H
      have c35b0 : ((bt a0 0) == 3) = false := beq_eq_false_iff_ne.mpr c35
      have c35b1 : ((bt a0 0) != 3) = true := bne_iff_ne.mpr c35
      (first | rw [c35b0] | (simp only [i64_w, i32_w]; rw [c35b0]) | skip)
      by_cases c43 : (bt a0 0) = 4
      ·rw [if_pos c43] at H
       have c43b0 : ((bt a0 0) == 4) = true := beq_iff_eq.mpr c43
       have c43b1 : ((bt a0 0) != 4) = false := bne_eq_false_iff_eq.mpr c43
       clear c43
       replace H := Option.bind_eq_some_iff.mp H
       obtain ⟨⟨t280, t281, t282, t283, t284, t285⟩, A440, H⟩ := H
       replace H : (msg_Get.j0 k t284 t285 (bt a0 0) t260 t263 (wrap64 (t266)) t280 t281 t282 t283 0 0 0 0) = some (r1, r2, r3, r4, r5, r6, r7, r8, r9, r10, r11, r12, r13) := H
       have A44 := Ax A440
       clear A440
       have H' := Ax H
       clear H
       go_wp2_with (first | ((with_reducible refine gate_callee (f := 29) rfl ?_); refine goesL_ (some 43) rfl rfl Try.func29 (by kernel_rfl) rfl #[.pointer (some ⟨gb259, 0, none⟩), .func (.func 17) #[] #[]] rfl gS ?_; (with_reducible refine (api_Prefix.calls k gb259 t267 t268 t280 t281 t282 t283 t284 t285 w _ ?side1 ?side2 A44.out).mono ?_); (case side1 => repeat (first | (with_reducible first | exact HIB259.out | apply IsS58.alloc | apply IsS58.drewN | apply IsS58.drew | apply IsS58.set_0 | apply IsS58.set_1 | refine IsS58.far ?_ NB259_258.out _ | refine IsS58.far ?_ NB259_269.out _) | exact HIB259.out)); (case side2 => repeat (first | (with_reducible first | exact HB.out | apply below_alloc | apply pw_below_drewN | apply below_drew1 | refine below_set ?_ (IsS58.ge HIB259.out) | refine below_set ?_ GE258.out | refine below_set ?_ GE269.out) | exact HB.out)); rintro e w45 ⟨rfl, hi, hb, hk⟩; refine ⟨_, rfl, ?_⟩; have n0_ := Ax (KeepBut.blk hk (g' := gb258) (o := .cells #[.int .u8 0, .int .i64 0, .int .u64 0, .int .i64 0, .bool false, .int .u64 0, .int .u64 0, .int .i64 0, .int .u8 0, .int .i64 0, .int .i64 0, .int .i64 0] 32 (0, 0)) (by (with_reducible repeat (first | refine blk_drewN ?_ _ | refine blk_drew ?_ | refine blk_alloc ?_ _)); refine blk_far ?_ NB258_269.out _; (with_reducible repeat (first | refine blk_drewN ?_ _ | refine blk_drew ?_ | refine blk_alloc ?_ _)); refine blk_far ?_ NB258_269.out _; (with_reducible repeat (first | refine blk_drewN ?_ _ | refine blk_drew ?_ | refine blk_alloc ?_ _)); refine blk_far ?_ NB258_269.out _; (with_reducible repeat (first | refine blk_drewN ?_ _ | refine blk_drew ?_ | refine blk_alloc ?_ _)); refine blk_far ?_ NB258_269.out _; (with_reducible repeat (first | refine blk_drewN ?_ _ | refine blk_drew ?_ | refine blk_alloc ?_ _)); refine blk_far ?_ NB258_269.out _; (with_reducible repeat (first | refine blk_drewN ?_ _ | refine blk_drew ?_ | refine blk_alloc ?_ _)); refine blk_far ?_ NB258_269.out _; (with_reducible repeat (first | refine blk_drewN ?_ _ | refine blk_drew ?_ | refine blk_alloc ?_ _)); refine blk_far ?_ NB258_269.out _; (with_reducible repeat (first | refine blk_drewN ?_ _ | refine blk_drew ?_ | refine blk_alloc ?_ _)); refine blk_far ?_ NB258_269.out _; (with_reducible repeat (first | refine blk_drewN ?_ _ | refine blk_drew ?_ | refine blk_alloc ?_ _)); refine blk_far ?_ NB258_269.out _; (with_reducible repeat (first | refine blk_drewN ?_ _ | refine blk_drew ?_ | refine blk_alloc ?_ _)); refine blk_far ?_ NB258_269.out _; (with_reducible repeat (first | refine blk_drewN ?_ _ | refine blk_drew ?_ | refine blk_alloc ?_ _)); refine blk_far ?_ NB258_269.out _; (with_reducible repeat (first | refine blk_drewN ?_ _ | refine blk_drew ?_ | refine blk_alloc ?_ _)); refine blk_far ?_ NB258_269.out _; (with_reducible repeat (first | refine blk_drewN ?_ _ | refine blk_drew ?_ | refine blk_alloc ?_ _)); exact BK258.out) NB258_259.out (by simp)); have n1_ := Ax (KeepBut.blk hk (g' := gb269) (o := .cells #[.int .u8 (bt a0 0), .int .i64 t260, .int .u64 t263, .int .i64 (wrap64 (t266)), .bool false, .int .u64 0, .int .u64 0, .int .i64 0, .int .u8 0, .int .i64 0, .int .i64 0, .int .i64 0] 32 (0, 0)) (by (with_reducible repeat (first | refine blk_drewN ?_ _ | refine blk_drew ?_ | refine blk_alloc ?_ _)); refine blk_put (cs := #[.int .u8 (bt a0 0), .int .i64 t260, .int .u64 t263, .int .i64 (wrap64 (t266)), .bool false, .int .u64 0, .int .u64 0, .int .i64 0, .int .u8 0, .int .i64 0, .int .i64 0, .int .i64 0]) ?_ 11 _ rfl; (with_reducible repeat (first | refine blk_drewN ?_ _ | refine blk_drew ?_ | refine blk_alloc ?_ _)); refine blk_put (cs := #[.int .u8 (bt a0 0), .int .i64 t260, .int .u64 t263, .int .i64 (wrap64 (t266)), .bool false, .int .u64 0, .int .u64 0, .int .i64 0, .int .u8 0, .int .i64 0, .int .i64 0, .int .i64 0]) ?_ 10 _ rfl; (with_reducible repeat (first | refine blk_drewN ?_ _ | refine blk_drew ?_ | refine blk_alloc ?_ _)); refine blk_put (cs := #[.int .u8 (bt a0 0), .int .i64 t260, .int .u64 t263, .int .i64 (wrap64 (t266)), .bool false, .int .u64 0, .int .u64 0, .int .i64 0, .int .u8 0, .int .i64 0, .int .i64 0, .int .i64 0]) ?_ 9 _ rfl; (with_reducible repeat (first | refine blk_drewN ?_ _ | refine blk_drew ?_ | refine blk_alloc ?_ _)); refine blk_put (cs := #[.int .u8 (bt a0 0), .int .i64 t260, .int .u64 t263, .int .i64 (wrap64 (t266)), .bool false, .int .u64 0, .int .u64 0, .int .i64 0, .int .u8 0, .int .i64 0, .int .i64 0, .int .i64 0]) ?_ 8 _ rfl; (with_reducible repeat (first | refine blk_drewN ?_ _ | refine blk_drew ?_ | refine blk_alloc ?_ _)); refine blk_put (cs := #[.int .u8 (bt a0 0), .int .i64 t260, .int .u64 t263, .int .i64 (wrap64 (t266)), .bool false, .int .u64 0, .int .u64 0, .int .i64 0, .int .u8 0, .int .i64 0, .int .i64 0, .int .i64 0]) ?_ 7 _ rfl; (with_reducible repeat (first | refine blk_drewN ?_ _ | refine blk_drew ?_ | refine blk_alloc ?_ _)); refine blk_put (cs := #[.int .u8 (bt a0 0), .int .i64 t260, .int .u64 t263, .int .i64 (wrap64 (t266)), .bool false, .int .u64 0, .int .u64 0, .int .i64 0, .int .u8 0, .int .i64 0, .int .i64 0, .int .i64 0]) ?_ 6 _ rfl; (with_reducible repeat (first | refine blk_drewN ?_ _ | refine blk_drew ?_ | refine blk_alloc ?_ _)); refine blk_put (cs := #[.int .u8 (bt a0 0), .int .i64 t260, .int .u64 t263, .int .i64 (wrap64 (t266)), .bool false, .int .u64 0, .int .u64 0, .int .i64 0, .int .u8 0, .int .i64 0, .int .i64 0, .int .i64 0]) ?_ 5 _ rfl; (with_reducible repeat (first | refine blk_drewN ?_ _ | refine blk_drew ?_ | refine blk_alloc ?_ _)); refine blk_put (cs := #[.int .u8 (bt a0 0), .int .i64 t260, .int .u64 t263, .int .i64 (wrap64 (t266)), .bool false, .int .u64 0, .int .u64 0, .int .i64 0, .int .u8 0, .int .i64 0, .int .i64 0, .int .i64 0]) ?_ 4 _ rfl; (with_reducible repeat (first | refine blk_drewN ?_ _ | refine blk_drew ?_ | refine blk_alloc ?_ _)); refine blk_put (cs := #[.int .u8 (bt a0 0), .int .i64 t260, .int .u64 t263, .int .i64 0, .bool false, .int .u64 0, .int .u64 0, .int .i64 0, .int .u8 0, .int .i64 0, .int .i64 0, .int .i64 0]) ?_ 3 _ rfl; (with_reducible repeat (first | refine blk_drewN ?_ _ | refine blk_drew ?_ | refine blk_alloc ?_ _)); refine blk_put (cs := #[.int .u8 (bt a0 0), .int .i64 t260, .int .u64 0, .int .i64 0, .bool false, .int .u64 0, .int .u64 0, .int .i64 0, .int .u8 0, .int .i64 0, .int .i64 0, .int .i64 0]) ?_ 2 _ rfl; (with_reducible repeat (first | refine blk_drewN ?_ _ | refine blk_drew ?_ | refine blk_alloc ?_ _)); refine blk_put (cs := #[.int .u8 (bt a0 0), .int .i64 0, .int .u64 0, .int .i64 0, .bool false, .int .u64 0, .int .u64 0, .int .i64 0, .int .u8 0, .int .i64 0, .int .i64 0, .int .i64 0]) ?_ 1 _ rfl; (with_reducible repeat (first | refine blk_drewN ?_ _ | refine blk_drew ?_ | refine blk_alloc ?_ _)); refine blk_put (cs := #[.int .u8 0, .int .i64 0, .int .u64 0, .int .i64 0, .bool false, .int .u64 0, .int .u64 0, .int .i64 0, .int .u8 0, .int .i64 0, .int .i64 0, .int .i64 0]) ?_ 0 _ rfl; (with_reducible repeat (first | refine blk_drewN ?_ _ | refine blk_drew ?_ | refine blk_alloc ?_ _)); exact BK269.out) NB269_259.out (by simp)); have n2_ := Ax (hb); have n3_ := Ax (hi); clear BK258; clear BK269; clear HB; clear HIB259; have BK258 := n0_; have BK269 := n1_; have HB := n2_; have HIB259 := n3_; clear n0_ n1_ n2_ n3_; (try clear hb); (try clear hb2); (try clear hk); (try clear hi); have hnb46 := NB269_258.out; have hnc46 := NB258_269.out; have hnb47 := NB269_259.out; have hnc47 := NB259_269.out; obtain ⟨hcz48_0, hcz48_1, hcz48_2, hcz48_3, hcz48_4, hcz48_5, hcz48_6, hcz48_7, hcz48_8, hcz48_9, hcz48_10, hcz48_11, hfz48_0, hfz48_1, hfz48_2, hfz48_3, hfz48_4, hfz48_5, hfz48_6, hfz48_7, hfz48_8, hfz48_9, hfz48_10, hfz48_11⟩ := cl12 BK269))
       go_meet
       case rel => exact ⟨_, (t284), (t285), (t280), (t281), (t282), (t283), (0), (0), (0), (0), H', ⟨by first | omega | exact Nat.le_refl _⟩, ⟨bf4 BK258.out NB258_269.out NB258_269.out NB258_269.out NB258_269.out⟩, ⟨by (with_reducible repeat (first | refine blk_drewN ?_ _ | refine blk_drew ?_ | refine blk_alloc ?_ _)); refine blk_put (cs := #[.int .u8 (bt a0 0), .int .i64 t260, .int .u64 t263, .int .i64 (wrap64 (t266)), .bool t280, .int .u64 t281, .int .u64 t282, .int .i64 0, .int .u8 0, .int .i64 0, .int .i64 0, .int .i64 0]) ?_ 7 _ rfl; (with_reducible repeat (first | refine blk_drewN ?_ _ | refine blk_drew ?_ | refine blk_alloc ?_ _)); refine blk_put (cs := #[.int .u8 (bt a0 0), .int .i64 t260, .int .u64 t263, .int .i64 (wrap64 (t266)), .bool t280, .int .u64 t281, .int .u64 0, .int .i64 0, .int .u8 0, .int .i64 0, .int .i64 0, .int .i64 0]) ?_ 6 _ rfl; (with_reducible repeat (first | refine blk_drewN ?_ _ | refine blk_drew ?_ | refine blk_alloc ?_ _)); refine blk_put (cs := #[.int .u8 (bt a0 0), .int .i64 t260, .int .u64 t263, .int .i64 (wrap64 (t266)), .bool t280, .int .u64 0, .int .u64 0, .int .i64 0, .int .u8 0, .int .i64 0, .int .i64 0, .int .i64 0]) ?_ 5 _ rfl; (with_reducible repeat (first | refine blk_drewN ?_ _ | refine blk_drew ?_ | refine blk_alloc ?_ _)); refine blk_put (cs := #[.int .u8 (bt a0 0), .int .i64 t260, .int .u64 t263, .int .i64 (wrap64 (t266)), .bool false, .int .u64 0, .int .u64 0, .int .i64 0, .int .u8 0, .int .i64 0, .int .i64 0, .int .i64 0]) ?_ 4 _ rfl; (with_reducible repeat (first | refine blk_drewN ?_ _ | refine blk_drew ?_ | refine blk_alloc ?_ _)); exact BK269.out⟩, ⟨by repeat (first | (with_reducible first | exact HIB259.out | apply IsS58.alloc | apply IsS58.drewN | apply IsS58.drew | apply IsS58.set_0 | apply IsS58.set_1 | refine IsS58.far ?_ NB259_258.out _ | refine IsS58.far ?_ NB259_269.out _) | exact HIB259.out)⟩, ⟨bw3 HB.out (IsS58.ge HIB259.out) GE258.out GE269.out⟩⟩
      ·rw [if_neg c43] at H
       have c43b0 : ((bt a0 0) == 4) = false := beq_eq_false_iff_ne.mpr c43
       have c43b1 : ((bt a0 0) != 4) = true := bne_iff_ne.mpr c43
       by_cases c49 : (bt a0 0) = 5
       ·rw [if_pos c49] at H
        have c49b0 : ((bt a0 0) == 5) = true := beq_iff_eq.mpr c49
        have c49b1 : ((bt a0 0) != 5) = false := bne_eq_false_iff_eq.mpr c49
        clear c49
        replace H := Option.bind_eq_some_iff.mp H
        obtain ⟨⟨t286, t287, t288⟩, A500, H⟩ := H
        replace H : ((num_Reader_Many.f k t287 t288 1048576).bind fun bt289 => (msg_Get.j0 k bt289.2.1 bt289.2.2 (bt a0 0) t260 t263 (wrap64 (t266)) false 0 0 0 0 0 t286 bt289.1)) = some (r1, r2, r3, r4, r5, r6, r7, r8, r9, r10, r11, r12, r13) := H
        have A50 := Ax A500
        clear A500
        replace H := Option.bind_eq_some_iff.mp H
        obtain ⟨⟨t289, t290, t291⟩, A510, H⟩ := H
        replace H : (msg_Get.j0 k t290 t291 (bt a0 0) t260 t263 (wrap64 (t266)) false 0 0 0 0 0 t286 t289) = some (r1, r2, r3, r4, r5, r6, r7, r8, r9, r10, r11, r12, r13) := H
        have A51 := Ax A510
        clear A510
        have H' := Ax H
        clear H
        try go_wp2
        have n0_ : Aside0 (((((((((((((w19.setCell ⟨gb269, 0, none⟩ (.int .u8 (bt a0 0))).setCell ⟨gb269, 1, none⟩ (.int .i64 t260)).setCell ⟨gb269, 2, none⟩ (.int .u64 t263)).setCell ⟨gb269, 3, none⟩ (.int .i64 (wrap64 (t266)))).setCell ⟨gb269, 4, none⟩ (.bool false)).setCell ⟨gb269, 5, none⟩ (.int .u64 0)).setCell ⟨gb269, 6, none⟩ (.int .u64 0)).setCell ⟨gb269, 7, none⟩ (.int .i64 0)).setCell ⟨gb269, 8, none⟩ (.int .u8 0)).setCell ⟨gb269, 9, none⟩ (.int .i64 0)).setCell ⟨gb269, 10, none⟩ (.int .i64 0)).setCell ⟨gb269, 11, none⟩ (.int .i64 0)).heap[gb258]? = some (.cells #[.int .u8 0, .int .i64 0, .int .u64 0, .int .i64 0, .bool false, .int .u64 0, .int .u64 0, .int .i64 0, .int .u8 0, .int .i64 0, .int .i64 0, .int .i64 0] 32 (0, 0))) := ⟨by (with_reducible repeat (first | refine blk_drewN ?_ _ | refine blk_drew ?_ | refine blk_alloc ?_ _)); refine blk_far ?_ NB258_269.out _; (with_reducible repeat (first | refine blk_drewN ?_ _ | refine blk_drew ?_ | refine blk_alloc ?_ _)); refine blk_far ?_ NB258_269.out _; (with_reducible repeat (first | refine blk_drewN ?_ _ | refine blk_drew ?_ | refine blk_alloc ?_ _)); refine blk_far ?_ NB258_269.out _; (with_reducible repeat (first | refine blk_drewN ?_ _ | refine blk_drew ?_ | refine blk_alloc ?_ _)); refine blk_far ?_ NB258_269.out _; (with_reducible repeat (first | refine blk_drewN ?_ _ | refine blk_drew ?_ | refine blk_alloc ?_ _)); refine blk_far ?_ NB258_269.out _; (with_reducible repeat (first | refine blk_drewN ?_ _ | refine blk_drew ?_ | refine blk_alloc ?_ _)); refine blk_far ?_ NB258_269.out _; (with_reducible repeat (first | refine blk_drewN ?_ _ | refine blk_drew ?_ | refine blk_alloc ?_ _)); refine blk_far ?_ NB258_269.out _; (with_reducible repeat (first | refine blk_drewN ?_ _ | refine blk_drew ?_ | refine blk_alloc ?_ _)); refine blk_far ?_ NB258_269.out _; (with_reducible repeat (first | refine blk_drewN ?_ _ | refine blk_drew ?_ | refine blk_alloc ?_ _)); refine blk_far ?_ NB258_269.out _; (with_reducible repeat (first | refine blk_drewN ?_ _ | refine blk_drew ?_ | refine blk_alloc ?_ _)); refine blk_far ?_ NB258_269.out _; (with_reducible repeat (first | refine blk_drewN ?_ _ | refine blk_drew ?_ | refine blk_alloc ?_ _)); refine blk_far ?_ NB258_269.out _; (with_reducible repeat (first | refine blk_drewN ?_ _ | refine blk_drew ?_ | refine blk_alloc ?_ _)); refine blk_far ?_ NB258_269.out _; (with_reducible repeat (first | refine blk_drewN ?_ _ | refine blk_drew ?_ | refine blk_alloc ?_ _)); exact BK258.out⟩
        have n1_ : Aside0 (((((((((((((w19.setCell ⟨gb269, 0, none⟩ (.int .u8 (bt a0 0))).setCell ⟨gb269, 1, none⟩ (.int .i64 t260)).setCell ⟨gb269, 2, none⟩ (.int .u64 t263)).setCell ⟨gb269, 3, none⟩ (.int .i64 (wrap64 (t266)))).setCell ⟨gb269, 4, none⟩ (.bool false)).setCell ⟨gb269, 5, none⟩ (.int .u64 0)).setCell ⟨gb269, 6, none⟩ (.int .u64 0)).setCell ⟨gb269, 7, none⟩ (.int .i64 0)).setCell ⟨gb269, 8, none⟩ (.int .u8 0)).setCell ⟨gb269, 9, none⟩ (.int .i64 0)).setCell ⟨gb269, 10, none⟩ (.int .i64 0)).setCell ⟨gb269, 11, none⟩ (.int .i64 0)).heap[gb269]? = some (.cells #[.int .u8 (bt a0 0), .int .i64 t260, .int .u64 t263, .int .i64 (wrap64 (t266)), .bool false, .int .u64 0, .int .u64 0, .int .i64 0, .int .u8 0, .int .i64 0, .int .i64 0, .int .i64 0] 32 (0, 0))) := ⟨by (with_reducible repeat (first | refine blk_drewN ?_ _ | refine blk_drew ?_ | refine blk_alloc ?_ _)); refine blk_put (cs := #[.int .u8 (bt a0 0), .int .i64 t260, .int .u64 t263, .int .i64 (wrap64 (t266)), .bool false, .int .u64 0, .int .u64 0, .int .i64 0, .int .u8 0, .int .i64 0, .int .i64 0, .int .i64 0]) ?_ 11 _ rfl; (with_reducible repeat (first | refine blk_drewN ?_ _ | refine blk_drew ?_ | refine blk_alloc ?_ _)); refine blk_put (cs := #[.int .u8 (bt a0 0), .int .i64 t260, .int .u64 t263, .int .i64 (wrap64 (t266)), .bool false, .int .u64 0, .int .u64 0, .int .i64 0, .int .u8 0, .int .i64 0, .int .i64 0, .int .i64 0]) ?_ 10 _ rfl; (with_reducible repeat (first | refine blk_drewN ?_ _ | refine blk_drew ?_ | refine blk_alloc ?_ _)); refine blk_put (cs := #[.int .u8 (bt a0 0), .int .i64 t260, .int .u64 t263, .int .i64 (wrap64 (t266)), .bool false, .int .u64 0, .int .u64 0, .int .i64 0, .int .u8 0, .int .i64 0, .int .i64 0, .int .i64 0]) ?_ 9 _ rfl; (with_reducible repeat (first | refine blk_drewN ?_ _ | refine blk_drew ?_ | refine blk_alloc ?_ _)); refine blk_put (cs := #[.int .u8 (bt a0 0), .int .i64 t260, .int .u64 t263, .int .i64 (wrap64 (t266)), .bool false, .int .u64 0, .int .u64 0, .int .i64 0, .int .u8 0, .int .i64 0, .int .i64 0, .int .i64 0]) ?_ 8 _ rfl; (with_reducible repeat (first | refine blk_drewN ?_ _ | refine blk_drew ?_ | refine blk_alloc ?_ _)); refine blk_put (cs := #[.int .u8 (bt a0 0), .int .i64 t260, .int .u64 t263, .int .i64 (wrap64 (t266)), .bool false, .int .u64 0, .int .u64 0, .int .i64 0, .int .u8 0, .int .i64 0, .int .i64 0, .int .i64 0]) ?_ 7 _ rfl; (with_reducible repeat (first | refine blk_drewN ?_ _ | refine blk_drew ?_ | refine blk_alloc ?_ _)); refine blk_put (cs := #[.int .u8 (bt a0 0), .int .i64 t260, .int .u64 t263, .int .i64 (wrap64 (t266)), .bool false, .int .u64 0, .int .u64 0, .int .i64 0, .int .u8 0, .int .i64 0, .int .i64 0, .int .i64 0]) ?_ 6 _ rfl; (with_reducible repeat (first | refine blk_drewN ?_ _ | refine blk_drew ?_ | refine blk_alloc ?_ _)); refine blk_put (cs := #[.int .u8 (bt a0 0), .int .i64 t260, .int .u64 t263, .int .i64 (wrap64 (t266)), .bool false, .int .u64 0, .int .u64 0, .int .i64 0, .int .u8 0, .int .i64 0, .int .i64 0, .int .i64 0]) ?_ 5 _ rfl; (with_reducible repeat (first | refine blk_drewN ?_ _ | refine blk_drew ?_ | refine blk_alloc ?_ _)); refine blk_put (cs := #[.int .u8 (bt a0 0), .int .i64 t260, .int .u64 t263, .int .i64 (wrap64 (t266)), .bool false, .int .u64 0, .int .u64 0, .int .i64 0, .int .u8 0, .int .i64 0, .int .i64 0, .int .i64 0]) ?_ 4 _ rfl; (with_reducible repeat (first | refine blk_drewN ?_ _ | refine blk_drew ?_ | refine blk_alloc ?_ _)); refine blk_put (cs := #[.int .u8 (bt a0 0), .int .i64 t260, .int .u64 t263, .int .i64 0, .bool false, .int .u64 0, .int .u64 0, .int .i64 0, .int .u8 0, .int .i64 0, .int .i64 0, .int .i64 0]) ?_ 3 _ rfl; (with_reducible repeat (first | refine blk_drewN ?_ _ | refine blk_drew ?_ | refine blk_alloc ?_ _)); refine blk_put (cs := #[.int .u8 (bt a0 0), .int .i64 t260, .int .u64 0, .int .i64 0, .bool false, .int .u64 0, .int .u64 0, .int .i64 0, .int .u8 0, .int .i64 0, .int .i64 0, .int .i64 0]) ?_ 2 _ rfl; (with_reducible repeat (first | refine blk_drewN ?_ _ | refine blk_drew ?_ | refine blk_alloc ?_ _)); refine blk_put (cs := #[.int .u8 (bt a0 0), .int .i64 0, .int .u64 0, .int .i64 0, .bool false, .int .u64 0, .int .u64 0, .int .i64 0, .int .u8 0, .int .i64 0, .int .i64 0, .int .i64 0]) ?_ 1 _ rfl; (with_reducible repeat (first | refine blk_drewN ?_ _ | refine blk_drew ?_ | refine blk_alloc ?_ _)); refine blk_put (cs := #[.int .u8 0, .int .i64 0, .int .u64 0, .int .i64 0, .bool false, .int .u64 0, .int .u64 0, .int .i64 0, .int .u8 0, .int .i64 0, .int .i64 0, .int .i64 0]) ?_ 0 _ rfl; (with_reducible repeat (first | refine blk_drewN ?_ _ | refine blk_drew ?_ | refine blk_alloc ?_ _)); exact BK269.out⟩
        have n2_ : Aside0 (IsS58 w ((((((((((((w19.setCell ⟨gb269, 0, none⟩ (.int .u8 (bt a0 0))).setCell ⟨gb269, 1, none⟩ (.int .i64 t260)).setCell ⟨gb269, 2, none⟩ (.int .u64 t263)).setCell ⟨gb269, 3, none⟩ (.int .i64 (wrap64 (t266)))).setCell ⟨gb269, 4, none⟩ (.bool false)).setCell ⟨gb269, 5, none⟩ (.int .u64 0)).setCell ⟨gb269, 6, none⟩ (.int .u64 0)).setCell ⟨gb269, 7, none⟩ (.int .i64 0)).setCell ⟨gb269, 8, none⟩ (.int .u8 0)).setCell ⟨gb269, 9, none⟩ (.int .i64 0)).setCell ⟨gb269, 10, none⟩ (.int .i64 0)).setCell ⟨gb269, 11, none⟩ (.int .i64 0)) gb259 t267 t268) := ⟨by repeat (first | (with_reducible first | exact HIB259.out | apply IsS58.alloc | apply IsS58.drewN | apply IsS58.drew | apply IsS58.set_0 | apply IsS58.set_1 | refine IsS58.far ?_ NB259_258.out _ | refine IsS58.far ?_ NB259_269.out _) | exact HIB259.out)⟩
        have n3_ : Aside0 (Below w.heap.size w ((((((((((((w19.setCell ⟨gb269, 0, none⟩ (.int .u8 (bt a0 0))).setCell ⟨gb269, 1, none⟩ (.int .i64 t260)).setCell ⟨gb269, 2, none⟩ (.int .u64 t263)).setCell ⟨gb269, 3, none⟩ (.int .i64 (wrap64 (t266)))).setCell ⟨gb269, 4, none⟩ (.bool false)).setCell ⟨gb269, 5, none⟩ (.int .u64 0)).setCell ⟨gb269, 6, none⟩ (.int .u64 0)).setCell ⟨gb269, 7, none⟩ (.int .i64 0)).setCell ⟨gb269, 8, none⟩ (.int .u8 0)).setCell ⟨gb269, 9, none⟩ (.int .i64 0)).setCell ⟨gb269, 10, none⟩ (.int .i64 0)).setCell ⟨gb269, 11, none⟩ (.int .i64 0))) := ⟨bw3 HB.out (IsS58.ge HIB259.out) GE258.out GE269.out⟩
        (try clear BK258)
        (try clear BK269)
        (try clear HIB259)
        (try clear HB)
        generalize ((((((((((((w19.setCell ⟨gb269, 0, none⟩ (.int .u8 (bt a0 0))).setCell ⟨gb269, 1, none⟩ (.int .i64 t260)).setCell ⟨gb269, 2, none⟩ (.int .u64 t263)).setCell ⟨gb269, 3, none⟩ (.int .i64 (wrap64 (t266)))).setCell ⟨gb269, 4, none⟩ (.bool false)).setCell ⟨gb269, 5, none⟩ (.int .u64 0)).setCell ⟨gb269, 6, none⟩ (.int .u64 0)).setCell ⟨gb269, 7, none⟩ (.int .i64 0)).setCell ⟨gb269, 8, none⟩ (.int .u8 0)).setCell ⟨gb269, 9, none⟩ (.int .i64 0)).setCell ⟨gb269, 10, none⟩ (.int .i64 0)).setCell ⟨gb269, 11, none⟩ (.int .i64 0)) = w52 at n0_ n1_ n2_ n3_ ⊢
        have BK258 := n0_
        have BK269 := n1_
        have HIB259 := n2_
        have HB := n3_
        clear n0_ n1_ n2_ n3_
        replace BK258 := Ax (blk_drew BK258.out)
        replace BK269 := Ax (blk_drew BK269.out)
        replace HIB259 := Ax (IsS58.drew HIB259.out)
        replace HB := Ax (below_drew1 HB.out)
        refine start_ (n := 12) (S := fun w' => True) (ds := []) #[fa,fa,fa,fa,fa,fa,fa,fa,fa,fa,fa,fa] (by kernel_rfl) rfl rfl trivial (fun hHeld => ?_); refine with_tabW msg_Get.tab11 msg_Get.bits11 (fun HT_ HW_ => ?_)
        generalize w52.drew = w53 at BK258 BK269 HIB259 HB hHeld ⊢
        refine pure_ (i := 0) (N := some 47) (v := ?_) (a' := ?_) #[tr,fa,fa,fa,fa,fa,fa,fa,fa,fa,fa,fa] rfl rfl (any_of HT_.out (by kernel_rfl)) (fun _ _ _ h => h) (Or.inl ⟨by rfl, ?_⟩) ?_ ?_
        rotate_left
        ·intro w'
         go_simp
         with_reducible rfl
        rotate_left
        ·simp only [sP]
         rfl
        refine pure_ (i := 1) (N := some 48) (v := ?_) (a' := ?_) #[tr,tr,fa,fa,fa,fa,fa,fa,fa,fa,fa,fa] rfl rfl (any_of HT_.out (by kernel_rfl)) (fun _ _ _ h => h) (Or.inl ⟨by rfl, ?_⟩) ?_ ?_
        rotate_left
        ·intro w'
         go_simp
         with_reducible rfl
        rotate_left
        ·simp only [sP]
         rfl
        refine pure_ (i := 2) (N := some 49) (v := ?_) (a' := ?_) #[tr,tr,tr,fa,fa,fa,fa,fa,fa,fa,fa,fa] rfl rfl (any_of HT_.out (by kernel_rfl)) (fun _ _ _ h => h) (Or.inl ⟨by rfl, ?_⟩) ?_ ?_
        rotate_left
        ·intro w'
         go_simp
         with_reducible rfl
        rotate_left
        ·simp only [sP]
         rfl
        refine pure_ (i := 4) (N := some 51) (v := ?_) (a' := ?_) #[tr,tr,tr,fa,tr,fa,fa,fa,fa,fa,fa,fa] rfl rfl (any_of HT_.out (by kernel_rfl)) (fun _ _ _ h => h) (Or.inl ⟨by rfl, ?_⟩) ?_ ?_
        rotate_left
        ·intro w'
         go_simp
         with_reducible rfl
        rotate_left
        ·simp only [sP]
         rfl
        refine pure_ (i := 5) (N := some 52) (v := ?_) (a' := ?_) #[tr,tr,tr,fa,tr,tr,fa,fa,fa,fa,fa,fa] rfl rfl (any_of HT_.out (by kernel_rfl)) (fun _ _ _ h => h) (Or.inl ⟨by rfl, ?_⟩) ?_ ?_
        rotate_left
        ·intro w'
         go_simp
         with_reducible rfl
        rotate_left
        ·simp only [sP]
         rfl
        refine pure_ (i := 6) (N := some 53) (v := ?_) (a' := ?_) #[tr,tr,tr,fa,tr,tr,tr,fa,fa,fa,fa,fa] rfl rfl (any_of HT_.out (by kernel_rfl)) (fun _ _ _ h => h) (Or.inl ⟨by rfl, ?_⟩) ?_ ?_
        rotate_left
        ·intro w'
         go_simp
         with_reducible rfl
        rotate_left
        ·simp only [sP]
         rfl
        refine one_ (i := 3) (N := some 50) #[tr,tr,tr,tr,tr,tr,tr,fa,fa,fa,fa,fa] rfl rfl (one_of HT_.out (by kernel_rfl)) (by decide) (fun K hK => ?_)
        refine goes_ Try.func27 (by kernel_rfl) rfl #[.pointer (some ⟨gb259, 0, none⟩), .int .i64 65536] (by rfl) rfl rfl gS ?_
        with_reducible refine (num_Reader_Many.calls58 k gb259 t267 t268 65536 t286 t287 t288 w _ ?side1 ?side2 A50.out).mono ?_
        (case side1 => repeat (first | (with_reducible first | exact HIB259.out | apply IsS58.alloc | apply IsS58.drewN | apply IsS58.drew | apply IsS58.set_0 | apply IsS58.set_1 | refine IsS58.far ?_ NB259_258.out _ | refine IsS58.far ?_ NB259_269.out _) | exact HIB259.out))
        (case side2 => repeat (first | (with_reducible first | exact HB.out | apply below_alloc | apply pw_below_drewN | apply below_drew1 | refine below_set ?_ (IsS58.ge HIB259.out) | refine below_set ?_ GE258.out | refine below_set ?_ GE269.out) | exact HB.out))
        rintro e w54 ⟨rfl, hi, hb, hk⟩
        refine ⟨_, rfl, ?_⟩
        replace BK258 := Ax (KeepBut.blk hk (g' := gb258) (o := .cells #[.int .u8 0, .int .i64 0, .int .u64 0, .int .i64 0, .bool false, .int .u64 0, .int .u64 0, .int .i64 0, .int .u8 0, .int .i64 0, .int .i64 0, .int .i64 0] 32 (0, 0)) (bf0 BK258.out) NB258_259.out (by simp))
        replace BK269 := Ax (KeepBut.blk hk (g' := gb269) (o := .cells #[.int .u8 (bt a0 0), .int .i64 t260, .int .u64 t263, .int .i64 (wrap64 (t266)), .bool false, .int .u64 0, .int .u64 0, .int .i64 0, .int .u8 0, .int .i64 0, .int .i64 0, .int .i64 0] 32 (0, 0)) (bf0 BK269.out) NB269_259.out (by simp))
        replace HB := Ax (hb)
        replace HIB259 := Ax (hi)
        (try clear hb)
        (try clear hb2)
        (try clear hk)
        (try clear hi)
        refine hK.out _ _ trivial (fun hHeld => ?_)
        clear hK K
        refine norm_ (a' := ?_) ?_ ?_
        rotate_left
        ·show Act.put _ (some 50) _ = _
         simp only [sP]
         rfl
        refine pure_ (i := 8) (N := some 55) (v := ?_) (a' := ?_) #[tr,tr,tr,tr,tr,tr,tr,fa,tr,fa,fa,fa] rfl rfl (any_of HT_.out (by kernel_rfl)) (fun _ _ _ h => h) (Or.inl ⟨by rfl, ?_⟩) ?_ ?_
        rotate_left
        ·intro w'
         go_simp
         with_reducible rfl
        rotate_left
        ·simp only [sP]
         rfl
        refine one_ (i := 7) (N := some 54) #[tr,tr,tr,tr,tr,tr,tr,tr,tr,fa,fa,fa] rfl rfl (one_of HT_.out (by kernel_rfl)) (by decide) (fun K hK => ?_)
        refine goes_ Try.func27 (by kernel_rfl) rfl #[.pointer (some ⟨gb259, 0, none⟩), .int .i64 1048576] (by rfl) rfl rfl gS ?_
        with_reducible refine (num_Reader_Many.calls58 k gb259 t287 t288 1048576 t289 t290 t291 w _ ?side1 ?side2 A51.out).mono ?_
        (case side1 => repeat (first | (with_reducible first | exact HIB259.out | apply IsS58.alloc | apply IsS58.drewN | apply IsS58.drew | apply IsS58.set_0 | apply IsS58.set_1 | refine IsS58.far ?_ NB259_258.out _ | refine IsS58.far ?_ NB259_269.out _) | exact HIB259.out))
        (case side2 => repeat (first | (with_reducible first | exact HB.out | apply below_alloc | apply pw_below_drewN | apply below_drew1 | refine below_set ?_ (IsS58.ge HIB259.out) | refine below_set ?_ GE258.out | refine below_set ?_ GE269.out) | exact HB.out))
        rintro e w55 ⟨rfl, hi, hb, hk⟩
        refine ⟨_, rfl, ?_⟩
        replace BK258 := Ax (KeepBut.blk hk (g' := gb258) (o := .cells #[.int .u8 0, .int .i64 0, .int .u64 0, .int .i64 0, .bool false, .int .u64 0, .int .u64 0, .int .i64 0, .int .u8 0, .int .i64 0, .int .i64 0, .int .i64 0] 32 (0, 0)) (bf0 BK258.out) NB258_259.out (by simp))
        replace BK269 := Ax (KeepBut.blk hk (g' := gb269) (o := .cells #[.int .u8 (bt a0 0), .int .i64 t260, .int .u64 t263, .int .i64 (wrap64 (t266)), .bool false, .int .u64 0, .int .u64 0, .int .i64 0, .int .u8 0, .int .i64 0, .int .i64 0, .int .i64 0] 32 (0, 0)) (bf0 BK269.out) NB269_259.out (by simp))
        replace HB := Ax (hb)
        replace HIB259 := Ax (hi)
        (try clear hb)
        (try clear hb2)
        (try clear hk)
        (try clear hi)
        refine hK.out _ _ trivial (fun hHeld => ?_)
        clear hK K
        refine norm_ (a' := ?_) ?_ ?_
        rotate_left
        ·show Act.put _ (some 54) _ = _
         simp only [sP]
         rfl
        refine one_ (i := 9) (N := none) #[tr,tr,tr,tr,tr,tr,tr,tr,tr,tr,fa,fa] rfl rfl (one_of HT_.out (by kernel_rfl)) (by decide) (fun K hK => ?_)
        have hs56 : w55.cell? ⟨gb269, 10, none⟩ = some (.int .i64 0) := (blk_cell BK269.out 10).trans rfl
        have hfs56 := blk_frozen BK269.out 10
        have hns56_0 := NB258_269.out
        have hms56_0 := NB269_258.out
        refine skip_ (w1 := ?_) (by rfl) rfl ?_ ?_
        rotate_left
        ·go_simp
         rfl
        refine hK.out _ _ trivial (fun hHeld => ?_)
        clear hK K
        refine pure_ (i := 10) (N := some 56) (v := ?_) (a' := ?_) #[tr,tr,tr,tr,tr,tr,tr,tr,tr,tr,tr,fa] rfl rfl (any_of HT_.out (by kernel_rfl)) (fun _ _ _ h => h) (Or.inl ⟨by rfl, ?_⟩) ?_ ?_
        rotate_left
        ·intro w'
         go_simp
         with_reducible rfl
        rotate_left
        ·simp only [sP]
         rfl
        refine one_ (i := 11) (N := none) #[tr,tr,tr,tr,tr,tr,tr,tr,tr,tr,tr,tr] rfl rfl (one_of HT_.out (by kernel_rfl)) (by decide) (fun K hK => ?_)
        have hs57 : w55.cell? ⟨gb269, 11, none⟩ = some (.int .i64 0) := (blk_cell BK269.out 11).trans rfl
        have hfs57 := blk_frozen BK269.out 11
        have hns57_0 := NB258_269.out
        have hms57_0 := NB269_258.out
        refine skip_ (w1 := ?_) (by rfl) rfl ?_ ?_
        rotate_left
        ·go_simp
         rfl
        refine hK.out _ _ trivial (fun hHeld => ?_)
        clear hK K
        refine done_ (done_of HT_.out (by kernel_rfl)) ?_
        try go_wp2
        go_meet
        case rel => exact ⟨_, (t290), (t291), (false), (0), (0), (0), (0), (0), (t286), (t289), H', ⟨by first | omega | exact Nat.le_refl _⟩, ⟨bf2 BK258.out NB258_269.out NB258_269.out⟩, ⟨by (with_reducible repeat (first | refine blk_drewN ?_ _ | refine blk_drew ?_ | refine blk_alloc ?_ _)); refine blk_put (cs := #[.int .u8 (bt a0 0), .int .i64 t260, .int .u64 t263, .int .i64 (wrap64 (t266)), .bool false, .int .u64 0, .int .u64 0, .int .i64 0, .int .u8 0, .int .i64 0, .int .i64 t286, .int .i64 0]) ?_ 11 _ rfl; (with_reducible repeat (first | refine blk_drewN ?_ _ | refine blk_drew ?_ | refine blk_alloc ?_ _)); refine blk_put (cs := #[.int .u8 (bt a0 0), .int .i64 t260, .int .u64 t263, .int .i64 (wrap64 (t266)), .bool false, .int .u64 0, .int .u64 0, .int .i64 0, .int .u8 0, .int .i64 0, .int .i64 0, .int .i64 0]) ?_ 10 _ rfl; (with_reducible repeat (first | refine blk_drewN ?_ _ | refine blk_drew ?_ | refine blk_alloc ?_ _)); exact BK269.out⟩, ⟨by repeat (first | (with_reducible first | exact HIB259.out | apply IsS58.alloc | apply IsS58.drewN | apply IsS58.drew | apply IsS58.set_0 | apply IsS58.set_1 | refine IsS58.far ?_ NB259_258.out _ | refine IsS58.far ?_ NB259_269.out _) | exact HIB259.out)⟩, ⟨bw3 HB.out (IsS58.ge HIB259.out) GE258.out GE269.out⟩⟩
       ·rw [if_neg c49] at H
        have c49b0 : ((bt a0 0) == 5) = false := beq_eq_false_iff_ne.mpr c49
        have c49b1 : ((bt a0 0) != 5) = true := bne_iff_ne.mpr c49
        by_cases c58 : (bt a0 0) = 6
        ·rw [if_pos c58] at H
         have c58b0 : ((bt a0 0) == 6) = true := beq_iff_eq.mpr c58
         have c58b1 : ((bt a0 0) != 6) = false := bne_eq_false_iff_eq.mpr c58
         clear c58
         replace H := Option.bind_eq_some_iff.mp H
         obtain ⟨⟨t292, t293, t294⟩, A590, H⟩ := H
         replace H : (msg_Get.j0 k t293 t294 (bt a0 0) t260 t263 (wrap64 (t266)) false 0 0 0 0 0 t292 0) = some (r1, r2, r3, r4, r5, r6, r7, r8, r9, r10, r11, r12, r13) := H
         have A59 := Ax A590
         clear A590
         have H' := Ax H
         clear H
         go_wp2_with (first | ((with_reducible refine gate_callee (f := 27) rfl ?_); refine goesL_ (some 62) rfl rfl Try.func27 (by kernel_rfl) rfl #[.pointer (some ⟨gb259, 0, none⟩), .int .i64 65536] rfl gS ?_; (with_reducible refine (num_Reader_Many.calls58 k gb259 t267 t268 65536 t292 t293 t294 w _ ?side1 ?side2 A59.out).mono ?_); (case side1 => repeat (first | (with_reducible first | exact HIB259.out | apply IsS58.alloc | apply IsS58.drewN | apply IsS58.drew | apply IsS58.set_0 | apply IsS58.set_1 | refine IsS58.far ?_ NB259_258.out _ | refine IsS58.far ?_ NB259_269.out _) | exact HIB259.out)); (case side2 => repeat (first | (with_reducible first | exact HB.out | apply below_alloc | apply pw_below_drewN | apply below_drew1 | refine below_set ?_ (IsS58.ge HIB259.out) | refine below_set ?_ GE258.out | refine below_set ?_ GE269.out) | exact HB.out)); rintro e w60 ⟨rfl, hi, hb, hk⟩; refine ⟨_, rfl, ?_⟩; have n0_ := Ax (KeepBut.blk hk (g' := gb258) (o := .cells #[.int .u8 0, .int .i64 0, .int .u64 0, .int .i64 0, .bool false, .int .u64 0, .int .u64 0, .int .i64 0, .int .u8 0, .int .i64 0, .int .i64 0, .int .i64 0] 32 (0, 0)) (by (with_reducible repeat (first | refine blk_drewN ?_ _ | refine blk_drew ?_ | refine blk_alloc ?_ _)); refine blk_far ?_ NB258_269.out _; (with_reducible repeat (first | refine blk_drewN ?_ _ | refine blk_drew ?_ | refine blk_alloc ?_ _)); refine blk_far ?_ NB258_269.out _; (with_reducible repeat (first | refine blk_drewN ?_ _ | refine blk_drew ?_ | refine blk_alloc ?_ _)); refine blk_far ?_ NB258_269.out _; (with_reducible repeat (first | refine blk_drewN ?_ _ | refine blk_drew ?_ | refine blk_alloc ?_ _)); refine blk_far ?_ NB258_269.out _; (with_reducible repeat (first | refine blk_drewN ?_ _ | refine blk_drew ?_ | refine blk_alloc ?_ _)); refine blk_far ?_ NB258_269.out _; (with_reducible repeat (first | refine blk_drewN ?_ _ | refine blk_drew ?_ | refine blk_alloc ?_ _)); refine blk_far ?_ NB258_269.out _; (with_reducible repeat (first | refine blk_drewN ?_ _ | refine blk_drew ?_ | refine blk_alloc ?_ _)); refine blk_far ?_ NB258_269.out _; (with_reducible repeat (first | refine blk_drewN ?_ _ | refine blk_drew ?_ | refine blk_alloc ?_ _)); refine blk_far ?_ NB258_269.out _; (with_reducible repeat (first | refine blk_drewN ?_ _ | refine blk_drew ?_ | refine blk_alloc ?_ _)); refine blk_far ?_ NB258_269.out _; (with_reducible repeat (first | refine blk_drewN ?_ _ | refine blk_drew ?_ | refine blk_alloc ?_ _)); refine blk_far ?_ NB258_269.out _; (with_reducible repeat (first | refine blk_drewN ?_ _ | refine blk_drew ?_ | refine blk_alloc ?_ _)); refine blk_far ?_ NB258_269.out _; (with_reducible repeat (first | refine blk_drewN ?_ _ | refine blk_drew ?_ | refine blk_alloc ?_ _)); refine blk_far ?_ NB258_269.out _; (with_reducible repeat (first | refine blk_drewN ?_ _ | refine blk_drew ?_ | refine blk_alloc ?_ _)); exact BK258.out) NB258_259.out (by simp)); have n1_ := Ax (KeepBut.blk hk (g' := gb269) (o := .cells #[.int .u8 (bt a0 0), .int .i64 t260, .int .u64 t263, .int .i64 (wrap64 (t266)), .bool false, .int .u64 0, .int .u64 0, .int .i64 0, .int .u8 0, .int .i64 0, .int .i64 0, .int .i64 0] 32 (0, 0)) (by (with_reducible repeat (first | refine blk_drewN ?_ _ | refine blk_drew ?_ | refine blk_alloc ?_ _)); refine blk_put (cs := #[.int .u8 (bt a0 0), .int .i64 t260, .int .u64 t263, .int .i64 (wrap64 (t266)), .bool false, .int .u64 0, .int .u64 0, .int .i64 0, .int .u8 0, .int .i64 0, .int .i64 0, .int .i64 0]) ?_ 11 _ rfl; (with_reducible repeat (first | refine blk_drewN ?_ _ | refine blk_drew ?_ | refine blk_alloc ?_ _)); refine blk_put (cs := #[.int .u8 (bt a0 0), .int .i64 t260, .int .u64 t263, .int .i64 (wrap64 (t266)), .bool false, .int .u64 0, .int .u64 0, .int .i64 0, .int .u8 0, .int .i64 0, .int .i64 0, .int .i64 0]) ?_ 10 _ rfl; (with_reducible repeat (first | refine blk_drewN ?_ _ | refine blk_drew ?_ | refine blk_alloc ?_ _)); refine blk_put (cs := #[.int .u8 (bt a0 0), .int .i64 t260, .int .u64 t263, .int .i64 (wrap64 (t266)), .bool false, .int .u64 0, .int .u64 0, .int .i64 0, .int .u8 0, .int .i64 0, .int .i64 0, .int .i64 0]) ?_ 9 _ rfl; (with_reducible repeat (first | refine blk_drewN ?_ _ | refine blk_drew ?_ | refine blk_alloc ?_ _)); refine blk_put (cs := #[.int .u8 (bt a0 0), .int .i64 t260, .int .u64 t263, .int .i64 (wrap64 (t266)), .bool false, .int .u64 0, .int .u64 0, .int .i64 0, .int .u8 0, .int .i64 0, .int .i64 0, .int .i64 0]) ?_ 8 _ rfl; (with_reducible repeat (first | refine blk_drewN ?_ _ | refine blk_drew ?_ | refine blk_alloc ?_ _)); refine blk_put (cs := #[.int .u8 (bt a0 0), .int .i64 t260, .int .u64 t263, .int .i64 (wrap64 (t266)), .bool false, .int .u64 0, .int .u64 0, .int .i64 0, .int .u8 0, .int .i64 0, .int .i64 0, .int .i64 0]) ?_ 7 _ rfl; (with_reducible repeat (first | refine blk_drewN ?_ _ | refine blk_drew ?_ | refine blk_alloc ?_ _)); refine blk_put (cs := #[.int .u8 (bt a0 0), .int .i64 t260, .int .u64 t263, .int .i64 (wrap64 (t266)), .bool false, .int .u64 0, .int .u64 0, .int .i64 0, .int .u8 0, .int .i64 0, .int .i64 0, .int .i64 0]) ?_ 6 _ rfl; (with_reducible repeat (first | refine blk_drewN ?_ _ | refine blk_drew ?_ | refine blk_alloc ?_ _)); refine blk_put (cs := #[.int .u8 (bt a0 0), .int .i64 t260, .int .u64 t263, .int .i64 (wrap64 (t266)), .bool false, .int .u64 0, .int .u64 0, .int .i64 0, .int .u8 0, .int .i64 0, .int .i64 0, .int .i64 0]) ?_ 5 _ rfl; (with_reducible repeat (first | refine blk_drewN ?_ _ | refine blk_drew ?_ | refine blk_alloc ?_ _)); refine blk_put (cs := #[.int .u8 (bt a0 0), .int .i64 t260, .int .u64 t263, .int .i64 (wrap64 (t266)), .bool false, .int .u64 0, .int .u64 0, .int .i64 0, .int .u8 0, .int .i64 0, .int .i64 0, .int .i64 0]) ?_ 4 _ rfl; (with_reducible repeat (first | refine blk_drewN ?_ _ | refine blk_drew ?_ | refine blk_alloc ?_ _)); refine blk_put (cs := #[.int .u8 (bt a0 0), .int .i64 t260, .int .u64 t263, .int .i64 0, .bool false, .int .u64 0, .int .u64 0, .int .i64 0, .int .u8 0, .int .i64 0, .int .i64 0, .int .i64 0]) ?_ 3 _ rfl; (with_reducible repeat (first | refine blk_drewN ?_ _ | refine blk_drew ?_ | refine blk_alloc ?_ _)); refine blk_put (cs := #[.int .u8 (bt a0 0), .int .i64 t260, .int .u64 0, .int .i64 0, .bool false, .int .u64 0, .int .u64 0, .int .i64 0, .int .u8 0, .int .i64 0, .int .i64 0, .int .i64 0]) ?_ 2 _ rfl; (with_reducible repeat (first | refine blk_drewN ?_ _ | refine blk_drew ?_ | refine blk_alloc ?_ _)); refine blk_put (cs := #[.int .u8 (bt a0 0), .int .i64 0, .int .u64 0, .int .i64 0, .bool false, .int .u64 0, .int .u64 0, .int .i64 0, .int .u8 0, .int .i64 0, .int .i64 0, .int .i64 0]) ?_ 1 _ rfl; (with_reducible repeat (first | refine blk_drewN ?_ _ | refine blk_drew ?_ | refine blk_alloc ?_ _)); refine blk_put (cs := #[.int .u8 0, .int .i64 0, .int .u64 0, .int .i64 0, .bool false, .int .u64 0, .int .u64 0, .int .i64 0, .int .u8 0, .int .i64 0, .int .i64 0, .int .i64 0]) ?_ 0 _ rfl; (with_reducible repeat (first | refine blk_drewN ?_ _ | refine blk_drew ?_ | refine blk_alloc ?_ _)); exact BK269.out) NB269_259.out (by simp)); have n2_ := Ax (hb); have n3_ := Ax (hi); clear BK258; clear BK269; clear HB; clear HIB259; have BK258 := n0_; have BK269 := n1_; have HB := n2_; have HIB259 := n3_; clear n0_ n1_ n2_ n3_; (try clear hb); (try clear hb2); (try clear hk); (try clear hi); have hnb61 := NB269_258.out; have hnc61 := NB258_269.out; have hnb62 := NB269_259.out; have hnc62 := NB259_269.out; obtain ⟨hcz63_0, hcz63_1, hcz63_2, hcz63_3, hcz63_4, hcz63_5, hcz63_6, hcz63_7, hcz63_8, hcz63_9, hcz63_10, hcz63_11, hfz63_0, hfz63_1, hfz63_2, hfz63_3, hfz63_4, hfz63_5, hfz63_6, hfz63_7, hfz63_8, hfz63_9, hfz63_10, hfz63_11⟩ := cl12 BK269))
         go_meet
         case rel => exact ⟨_, (t293), (t294), (false), (0), (0), (0), (0), (0), (t292), (0), H', ⟨by first | omega | exact Nat.le_refl _⟩, ⟨bf1 BK258.out NB258_269.out⟩, ⟨by (with_reducible repeat (first | refine blk_drewN ?_ _ | refine blk_drew ?_ | refine blk_alloc ?_ _)); refine blk_put (cs := #[.int .u8 (bt a0 0), .int .i64 t260, .int .u64 t263, .int .i64 (wrap64 (t266)), .bool false, .int .u64 0, .int .u64 0, .int .i64 0, .int .u8 0, .int .i64 0, .int .i64 0, .int .i64 0]) ?_ 10 _ rfl; (with_reducible repeat (first | refine blk_drewN ?_ _ | refine blk_drew ?_ | refine blk_alloc ?_ _)); exact BK269.out⟩, ⟨by repeat (first | (with_reducible first | exact HIB259.out | apply IsS58.alloc | apply IsS58.drewN | apply IsS58.drew | apply IsS58.set_0 | apply IsS58.set_1 | refine IsS58.far ?_ NB259_258.out _ | refine IsS58.far ?_ NB259_269.out _) | exact HIB259.out)⟩, ⟨bw3 HB.out (IsS58.ge HIB259.out) GE258.out GE269.out⟩⟩
        ·rw [if_neg c58] at H
         have c58b0 : ((bt a0 0) == 6) = false := beq_eq_false_iff_ne.mpr c58
         have c58b1 : ((bt a0 0) != 6) = true := bne_iff_ne.mpr c58
         have H' := Ax H
         clear H
         go_wp2
         go_meet
         case rel => exact ⟨_, (t267), (t268), (false), (0), (0), (0), (0), (0), (0), (0), H', ⟨by first | omega | exact Nat.le_refl _⟩, ⟨by (with_reducible repeat (first | refine blk_drewN ?_ _ | refine blk_drew ?_ | refine blk_alloc ?_ _)); refine blk_far ?_ NB258_269.out _; (with_reducible repeat (first | refine blk_drewN ?_ _ | refine blk_drew ?_ | refine blk_alloc ?_ _)); refine blk_far ?_ NB258_269.out _; (with_reducible repeat (first | refine blk_drewN ?_ _ | refine blk_drew ?_ | refine blk_alloc ?_ _)); refine blk_far ?_ NB258_269.out _; (with_reducible repeat (first | refine blk_drewN ?_ _ | refine blk_drew ?_ | refine blk_alloc ?_ _)); refine blk_far ?_ NB258_269.out _; (with_reducible repeat (first | refine blk_drewN ?_ _ | refine blk_drew ?_ | refine blk_alloc ?_ _)); refine blk_far ?_ NB258_269.out _; (with_reducible repeat (first | refine blk_drewN ?_ _ | refine blk_drew ?_ | refine blk_alloc ?_ _)); refine blk_far ?_ NB258_269.out _; (with_reducible repeat (first | refine blk_drewN ?_ _ | refine blk_drew ?_ | refine blk_alloc ?_ _)); refine blk_far ?_ NB258_269.out _; (with_reducible repeat (first | refine blk_drewN ?_ _ | refine blk_drew ?_ | refine blk_alloc ?_ _)); refine blk_far ?_ NB258_269.out _; (with_reducible repeat (first | refine blk_drewN ?_ _ | refine blk_drew ?_ | refine blk_alloc ?_ _)); refine blk_far ?_ NB258_269.out _; (with_reducible repeat (first | refine blk_drewN ?_ _ | refine blk_drew ?_ | refine blk_alloc ?_ _)); refine blk_far ?_ NB258_269.out _; (with_reducible repeat (first | refine blk_drewN ?_ _ | refine blk_drew ?_ | refine blk_alloc ?_ _)); refine blk_far ?_ NB258_269.out _; (with_reducible repeat (first | refine blk_drewN ?_ _ | refine blk_drew ?_ | refine blk_alloc ?_ _)); refine blk_far ?_ NB258_269.out _; (with_reducible repeat (first | refine blk_drewN ?_ _ | refine blk_drew ?_ | refine blk_alloc ?_ _)); exact BK258.out⟩, ⟨by (with_reducible repeat (first | refine blk_drewN ?_ _ | refine blk_drew ?_ | refine blk_alloc ?_ _)); refine blk_put (cs := #[.int .u8 (bt a0 0), .int .i64 t260, .int .u64 t263, .int .i64 (wrap64 (t266)), .bool false, .int .u64 0, .int .u64 0, .int .i64 0, .int .u8 0, .int .i64 0, .int .i64 0, .int .i64 0]) ?_ 11 _ rfl; (with_reducible repeat (first | refine blk_drewN ?_ _ | refine blk_drew ?_ | refine blk_alloc ?_ _)); refine blk_put (cs := #[.int .u8 (bt a0 0), .int .i64 t260, .int .u64 t263, .int .i64 (wrap64 (t266)), .bool false, .int .u64 0, .int .u64 0, .int .i64 0, .int .u8 0, .int .i64 0, .int .i64 0, .int .i64 0]) ?_ 10 _ rfl; (with_reducible repeat (first | refine blk_drewN ?_ _ | refine blk_drew ?_ | refine blk_alloc ?_ _)); refine blk_put (cs := #[.int .u8 (bt a0 0), .int .i64 t260, .int .u64 t263, .int .i64 (wrap64 (t266)), .bool false, .int .u64 0, .int .u64 0, .int .i64 0, .int .u8 0, .int .i64 0, .int .i64 0, .int .i64 0]) ?_ 9 _ rfl; (with_reducible repeat (first | refine blk_drewN ?_ _ | refine blk_drew ?_ | refine blk_alloc ?_ _)); refine blk_put (cs := #[.int .u8 (bt a0 0), .int .i64 t260, .int .u64 t263, .int .i64 (wrap64 (t266)), .bool false, .int .u64 0, .int .u64 0, .int .i64 0, .int .u8 0, .int .i64 0, .int .i64 0, .int .i64 0]) ?_ 8 _ rfl; (with_reducible repeat (first | refine blk_drewN ?_ _ | refine blk_drew ?_ | refine blk_alloc ?_ _)); refine blk_put (cs := #[.int .u8 (bt a0 0), .int .i64 t260, .int .u64 t263, .int .i64 (wrap64 (t266)), .bool false, .int .u64 0, .int .u64 0, .int .i64 0, .int .u8 0, .int .i64 0, .int .i64 0, .int .i64 0]) ?_ 7 _ rfl; (with_reducible repeat (first | refine blk_drewN ?_ _ | refine blk_drew ?_ | refine blk_alloc ?_ _)); refine blk_put (cs := #[.int .u8 (bt a0 0), .int .i64 t260, .int .u64 t263, .int .i64 (wrap64 (t266)), .bool false, .int .u64 0, .int .u64 0, .int .i64 0, .int .u8 0, .int .i64 0, .int .i64 0, .int .i64 0]) ?_ 6 _ rfl; (with_reducible repeat (first | refine blk_drewN ?_ _ | refine blk_drew ?_ | refine blk_alloc ?_ _)); refine blk_put (cs := #[.int .u8 (bt a0 0), .int .i64 t260, .int .u64 t263, .int .i64 (wrap64 (t266)), .bool false, .int .u64 0, .int .u64 0, .int .i64 0, .int .u8 0, .int .i64 0, .int .i64 0, .int .i64 0]) ?_ 5 _ rfl; (with_reducible repeat (first | refine blk_drewN ?_ _ | refine blk_drew ?_ | refine blk_alloc ?_ _)); refine blk_put (cs := #[.int .u8 (bt a0 0), .int .i64 t260, .int .u64 t263, .int .i64 (wrap64 (t266)), .bool false, .int .u64 0, .int .u64 0, .int .i64 0, .int .u8 0, .int .i64 0, .int .i64 0, .int .i64 0]) ?_ 4 _ rfl; (with_reducible repeat (first | refine blk_drewN ?_ _ | refine blk_drew ?_ | refine blk_alloc ?_ _)); refine blk_put (cs := #[.int .u8 (bt a0 0), .int .i64 t260, .int .u64 t263, .int .i64 0, .bool false, .int .u64 0, .int .u64 0, .int .i64 0, .int .u8 0, .int .i64 0, .int .i64 0, .int .i64 0]) ?_ 3 _ rfl; (with_reducible repeat (first | refine blk_drewN ?_ _ | refine blk_drew ?_ | refine blk_alloc ?_ _)); refine blk_put (cs := #[.int .u8 (bt a0 0), .int .i64 t260, .int .u64 0, .int .i64 0, .bool false, .int .u64 0, .int .u64 0, .int .i64 0, .int .u8 0, .int .i64 0, .int .i64 0, .int .i64 0]) ?_ 2 _ rfl; (with_reducible repeat (first | refine blk_drewN ?_ _ | refine blk_drew ?_ | refine blk_alloc ?_ _)); refine blk_put (cs := #[.int .u8 (bt a0 0), .int .i64 0, .int .u64 0, .int .i64 0, .bool false, .int .u64 0, .int .u64 0, .int .i64 0, .int .u8 0, .int .i64 0, .int .i64 0, .int .i64 0]) ?_ 1 _ rfl; (with_reducible repeat (first | refine blk_drewN ?_ _ | refine blk_drew ?_ | refine blk_alloc ?_ _)); refine blk_put (cs := #[.int .u8 0, .int .i64 0, .int .u64 0, .int .i64 0, .bool false, .int .u64 0, .int .u64 0, .int .i64 0, .int .u8 0, .int .i64 0, .int .i64 0, .int .i64 0]) ?_ 0 _ rfl; (with_reducible repeat (first | refine blk_drewN ?_ _ | refine blk_drew ?_ | refine blk_alloc ?_ _)); exact BK269.out⟩, ⟨by repeat (first | (with_reducible first | exact HIB259.out | apply IsS58.alloc | apply IsS58.drewN | apply IsS58.drew | apply IsS58.set_0 | apply IsS58.set_1 | refine IsS58.far ?_ NB259_258.out _ | refine IsS58.far ?_ NB259_269.out _) | exact HIB259.out)⟩, ⟨bw3 HB.out (IsS58.ge HIB259.out) GE258.out GE269.out⟩⟩
    case rest =>
     clear HC11
     try clear c2
     try clear p2
     try clear c3
     try clear c4
     try clear c5
     try clear c6
     try clear p6
     try clear c27
     try clear c28
     try clear c29
     try clear c30
     try clear c32
     try clear c33
     try clear c35
     try clear c35b0
     try clear c35b1
     try clear c40
     try clear c41
     try clear c43
     try clear c43b0
     try clear c43b1
     try clear c46
     try clear c47
     try clear c49
     try clear c49b0
     try clear c49b1
     try clear c58
     try clear c58b0
     try clear c58b1
     try clear c61
     try clear c62
     try clear hcz34_0
     try clear hcz34_1
     try clear hcz34_10
     try clear hcz34_11
     try clear hcz34_2
     try clear hcz34_3
     try clear hcz34_4
     try clear hcz34_5
     try clear hcz34_6
     try clear hcz34_7
     try clear hcz34_8
     try clear hcz34_9
     try clear hcz42_0
     try clear hcz42_1
     try clear hcz42_10
     try clear hcz42_11
     try clear hcz42_2
     try clear hcz42_3
     try clear hcz42_4
     try clear hcz42_5
     try clear hcz42_6
     try clear hcz42_7
     try clear hcz42_8
     try clear hcz42_9
     try clear hcz48_0
     try clear hcz48_1
     try clear hcz48_10
     try clear hcz48_11
     try clear hcz48_2
     try clear hcz48_3
     try clear hcz48_4
     try clear hcz48_5
     try clear hcz48_6
     try clear hcz48_7
     try clear hcz48_8
     try clear hcz48_9
     try clear hcz63_0
     try clear hcz63_1
     try clear hcz63_10
     try clear hcz63_11
     try clear hcz63_2
     try clear hcz63_3
     try clear hcz63_4
     try clear hcz63_5
     try clear hcz63_6
     try clear hcz63_7
     try clear hcz63_8
     try clear hcz63_9
     try clear hfz34_0
     try clear hfz34_1
     try clear hfz34_10
     try clear hfz34_11
     try clear hfz34_2
     try clear hfz34_3
     try clear hfz34_4
     try clear hfz34_5
     try clear hfz34_6
     try clear hfz34_7
     try clear hfz34_8
     try clear hfz34_9
     try clear hfz42_0
     try clear hfz42_1
     try clear hfz42_10
     try clear hfz42_11
     try clear hfz42_2
     try clear hfz42_3
     try clear hfz42_4
     try clear hfz42_5
     try clear hfz42_6
     try clear hfz42_7
     try clear hfz42_8
     try clear hfz42_9
     try clear hfz48_0
     try clear hfz48_1
     try clear hfz48_10
     try clear hfz48_11
     try clear hfz48_2
     try clear hfz48_3
     try clear hfz48_4
     try clear hfz48_5
     try clear hfz48_6
     try clear hfz48_7
     try clear hfz48_8
     try clear hfz48_9
     try clear hfz63_0
     try clear hfz63_1
     try clear hfz63_10
     try clear hfz63_11
     try clear hfz63_2
     try clear hfz63_3
     try clear hfz63_4
     try clear hfz63_5
     try clear hfz63_6
     try clear hfz63_7
     try clear hfz63_8
     try clear hfz63_9
     obtain ⟨kq, x260000_10, x260001_10, x270004_10, x270005_10, x270006_10, x270007_10, x270008_10, x270009_10, x270010_10, x270011_10, HA, HJ10, BK258, BK269, HIB259, HB⟩ := hcut
     cases kq with
     | zero => exact absurd HA.out (by simp [msg_Get.j0])
     | succ kj10 =>
      have H := HA.out
      clear HA
      simp only [msg_Get.j0] at H
      have HC64 := Ax H
      clear H
      go_upto_region 14 with (fail)
      go_cut [82] (fun v82 wc => ∃ (kq : Nat) (x82_63 : Bool), v82 = .bool x82_63 ∧ Aside0 (msg_Get.j1 kq x82_63 (bt a0 0) t260 t263 (wrap64 (t266)) x270004_10 x270005_10 x270006_10 x270007_10 x270008_10 x270009_10 x270010_10 x270011_10 = some (r1, r2, r3, r4, r5, r6, r7, r8, r9, r10, r11, r12, r13)) ∧ Aside0 (kq ≤ kj10) ∧ Aside0 (wc.heap[gb258]? = some (.cells #[.int .u8 0, .int .i64 0, .int .u64 0, .int .i64 0, .bool false, .int .u64 0, .int .u64 0, .int .i64 0, .int .u8 0, .int .i64 0, .int .i64 0, .int .i64 0] 32 (0, 0))) ∧ Aside0 (wc.heap[gb269]? = some (.cells #[.int .u8 (bt a0 0), .int .i64 t260, .int .u64 t263, .int .i64 (wrap64 (t266)), .bool x270004_10, .int .u64 x270005_10, .int .u64 x270006_10, .int .i64 x270007_10, .int .u8 x270008_10, .int .i64 x270009_10, .int .i64 x270010_10, .int .i64 x270011_10] 32 (0, 0))) ∧ Aside0 (Below w.heap.size w wc))
      case first =>
       have H := HC64.out
       clear HC64
       by_cases c65 : x260001_10 = 0
       ·rw [if_pos c65] at H
        have c65b0 : (x260001_10 == 0) = true := beq_iff_eq.mpr c65
        have c65b1 : (x260001_10 != 0) = false := bne_eq_false_iff_eq.mpr c65
        clear c65
        (first | rw [c65b0] | (simp only [i64_w, i32_w]; rw [c65b0]) | skip)
        by_cases c66 : x260000_10.toList = ([] : List UInt8)
        ·rw [if_pos c66] at H
         have c66b0 : (x260000_10.toList == ([] : List UInt8)) = true := beq_iff_eq.mpr c66
         have c66b1 : (x260000_10.toList != ([] : List UInt8)) = false := bne_eq_false_iff_eq.mpr c66
         clear c66
         replace H := Option.bind_eq_some_iff.mp H
         obtain ⟨t295, A670, H⟩ := H
         replace H : (msg_Get.j1 kj10 (t295 != 0) (bt a0 0) t260 t263 (wrap64 (t266)) x270004_10 x270005_10 x270006_10 x270007_10 x270008_10 x270009_10 x270010_10 x270011_10) = some (r1, r2, r3, r4, r5, r6, r7, r8, r9, r10, r11, r12, r13) := H
         have A67 := Ax A670
         clear A670
         have H' := Ax H
         clear H
         obtain ⟨HGz68, hgz68⟩ := HIB259.out
         have hcz68_0 := cellS58_0 HGz68
         have hcz68_1 := cellS58_1 HGz68
         have hfz68_0 := blk_frozen HGz68 0
         have hfz68_1 := blk_frozen HGz68 1
         clear HGz68 hgz68
         have hnb69 := NB269_258.out
         have hnc69 := NB258_269.out
         have hnb70 := NB269_259.out
         have hnc70 := NB259_269.out
         obtain ⟨hcz71_0, hcz71_1, hcz71_2, hcz71_3, hcz71_4, hcz71_5, hcz71_6, hcz71_7, hcz71_8, hcz71_9, hcz71_10, hcz71_11, hfz71_0, hfz71_1, hfz71_2, hfz71_3, hfz71_4, hfz71_5, hfz71_6, hfz71_7, hfz71_8, hfz71_9, hfz71_10, hfz71_11⟩ := cl12 BK269
         go_wp2_with (first | (go_at_call 13; (with_reducible refine (msg_Check.calls kj10 (bt a0 0) t260 t263 (wrap64 (t266)) x270004_10 x270005_10 x270006_10 x270007_10 x270008_10 x270009_10 x270010_10 x270011_10 t295 _ A67.out).mono ?_); rintro e w72 ⟨rfl, hb⟩; have n0_ := Bx0 BK258 hb; have n1_ := Bx0 BK269 hb; have n2_ := Ax (IsS58.below (by repeat (first | (with_reducible first | exact HIB259.out | apply IsS58.alloc | apply IsS58.drewN | apply IsS58.drew | apply IsS58.set_0 | apply IsS58.set_1 | refine IsS58.far ?_ NB259_258.out _ | refine IsS58.far ?_ NB259_269.out _) | exact HIB259.out)) hb); have n3_ := Bs3 HB hb (IsS58.ge HIB259.out) GE258.out GE269.out; clear BK258; clear BK269; clear HIB259; clear HB; have BK258 := n0_; have BK269 := n1_; have HIB259 := n2_; have HB := n3_; clear n0_ n1_ n2_ n3_; (try clear hb); (try clear hb2); (try clear hk); (try clear hi)))
         go_meet
         case rel => exact ⟨_, ((t295 != 0)), rS, H', ⟨by have := HJ10.out; first | omega | exact Nat.le_refl _⟩, ⟨bf0 BK258.out⟩, ⟨bf0 BK269.out⟩, ⟨bw3 HB.out (IsS58.ge HIB259.out) GE258.out GE269.out⟩⟩
        ·rw [if_neg c66] at H
         have c66b0 : (x260000_10.toList == ([] : List UInt8)) = false := beq_eq_false_iff_ne.mpr c66
         have c66b1 : (x260000_10.toList != ([] : List UInt8)) = true := bne_iff_ne.mpr c66
         have H' := Ax H
         clear H
         obtain ⟨HGz73, hgz73⟩ := HIB259.out
         have hcz73_0 := cellS58_0 HGz73
         have hcz73_1 := cellS58_1 HGz73
         have hfz73_0 := blk_frozen HGz73 0
         have hfz73_1 := blk_frozen HGz73 1
         clear HGz73 hgz73
         go_wp2
         go_meet
         case rel => exact ⟨_, (true), rS, H', ⟨by have := HJ10.out; first | omega | exact Nat.le_refl _⟩, ⟨bf0 BK258.out⟩, ⟨bf0 BK269.out⟩, ⟨bw3 HB.out (IsS58.ge HIB259.out) GE258.out GE269.out⟩⟩
       ·rw [if_neg c65] at H
        have c65b0 : (x260001_10 == 0) = false := beq_eq_false_iff_ne.mpr c65
        have c65b1 : (x260001_10 != 0) = true := bne_iff_ne.mpr c65
        (first | rw [c65b0] | (simp only [i64_w, i32_w]; rw [c65b0]) | skip)
        have H' := Ax H
        clear H
        obtain ⟨HGz74, hgz74⟩ := HIB259.out
        have hcz74_0 := cellS58_0 HGz74
        have hcz74_1 := cellS58_1 HGz74
        have hfz74_0 := blk_frozen HGz74 0
        have hfz74_1 := blk_frozen HGz74 1
        clear HGz74 hgz74
        go_wp2
        go_meet
        case rel => exact ⟨_, (true), rS, H', ⟨by have := HJ10.out; first | omega | exact Nat.le_refl _⟩, ⟨bf0 BK258.out⟩, ⟨bf0 BK269.out⟩, ⟨bw3 HB.out (IsS58.ge HIB259.out) GE258.out GE269.out⟩⟩
      case rest =>
       clear HC64
       try clear c2
       try clear p2
       try clear c3
       try clear c4
       try clear c5
       try clear c6
       try clear p6
       try clear c7
       try clear c27
       try clear c28
       try clear c29
       try clear c30
       try clear c32
       try clear c33
       try clear c35
       try clear c35b0
       try clear c35b1
       try clear c40
       try clear c41
       try clear c43
       try clear c43b0
       try clear c43b1
       try clear c46
       try clear c47
       try clear c49
       try clear c49b0
       try clear c49b1
       try clear c58
       try clear c58b0
       try clear c58b1
       try clear c61
       try clear c62
       try clear p64
       try clear c65
       try clear c65b0
       try clear c65b1
       try clear c66
       try clear c66b0
       try clear c66b1
       try clear c69
       try clear c70
       try clear hcz34_0
       try clear hcz34_1
       try clear hcz34_10
       try clear hcz34_11
       try clear hcz34_2
       try clear hcz34_3
       try clear hcz34_4
       try clear hcz34_5
       try clear hcz34_6
       try clear hcz34_7
       try clear hcz34_8
       try clear hcz34_9
       try clear hcz42_0
       try clear hcz42_1
       try clear hcz42_10
       try clear hcz42_11
       try clear hcz42_2
       try clear hcz42_3
       try clear hcz42_4
       try clear hcz42_5
       try clear hcz42_6
       try clear hcz42_7
       try clear hcz42_8
       try clear hcz42_9
       try clear hcz48_0
       try clear hcz48_1
       try clear hcz48_10
       try clear hcz48_11
       try clear hcz48_2
       try clear hcz48_3
       try clear hcz48_4
       try clear hcz48_5
       try clear hcz48_6
       try clear hcz48_7
       try clear hcz48_8
       try clear hcz48_9
       try clear hcz63_0
       try clear hcz63_1
       try clear hcz63_10
       try clear hcz63_11
       try clear hcz63_2
       try clear hcz63_3
       try clear hcz63_4
       try clear hcz63_5
       try clear hcz63_6
       try clear hcz63_7
       try clear hcz63_8
       try clear hcz63_9
       try clear hcz68_0
       try clear hcz68_1
       try clear hcz71_0
       try clear hcz71_1
       try clear hcz71_10
       try clear hcz71_11
       try clear hcz71_2
       try clear hcz71_3
       try clear hcz71_4
       try clear hcz71_5
       try clear hcz71_6
       try clear hcz71_7
       try clear hcz71_8
       try clear hcz71_9
       try clear hcz73_0
       try clear hcz73_1
       try clear hcz74_0
       try clear hcz74_1
       try clear hfz34_0
       try clear hfz34_1
       try clear hfz34_10
       try clear hfz34_11
       try clear hfz34_2
       try clear hfz34_3
       try clear hfz34_4
       try clear hfz34_5
       try clear hfz34_6
       try clear hfz34_7
       try clear hfz34_8
       try clear hfz34_9
       try clear hfz42_0
       try clear hfz42_1
       try clear hfz42_10
       try clear hfz42_11
       try clear hfz42_2
       try clear hfz42_3
       try clear hfz42_4
       try clear hfz42_5
       try clear hfz42_6
       try clear hfz42_7
       try clear hfz42_8
       try clear hfz42_9
       try clear hfz48_0
       try clear hfz48_1
       try clear hfz48_10
       try clear hfz48_11
       try clear hfz48_2
       try clear hfz48_3
       try clear hfz48_4
       try clear hfz48_5
       try clear hfz48_6
       try clear hfz48_7
       try clear hfz48_8
       try clear hfz48_9
       try clear hfz63_0
       try clear hfz63_1
       try clear hfz63_10
       try clear hfz63_11
       try clear hfz63_2
       try clear hfz63_3
       try clear hfz63_4
       try clear hfz63_5
       try clear hfz63_6
       try clear hfz63_7
       try clear hfz63_8
       try clear hfz63_9
       try clear hfz68_0
       try clear hfz68_1
       try clear hfz71_0
       try clear hfz71_1
       try clear hfz71_10
       try clear hfz71_11
       try clear hfz71_2
       try clear hfz71_3
       try clear hfz71_4
       try clear hfz71_5
       try clear hfz71_6
       try clear hfz71_7
       try clear hfz71_8
       try clear hfz71_9
       try clear hfz73_0
       try clear hfz73_1
       try clear hfz74_0
       try clear hfz74_1
       try clear p2
       try clear p6
       obtain ⟨kq, x82_63, rfl, HA, HJ63, BK258, BK269, HB⟩ := hcut
       cases kq with
       | zero => exact absurd HA.out (by simp [msg_Get.j1])
       | succ kj63 =>
        have H := HA.out
        clear HA
        simp only [msg_Get.j1] at H
        by_cases c75 : x82_63 = true
        ·subst c75
         have H1 : (some (0, 0, 0, 0, false, 0, 0, 0, 0, 0, 0, 0, 7)) = some (r1, r2, r3, r4, r5, r6, r7, r8, r9, r10, r11, r12, r13) := by rw [if_pos rfl] at H; exact H
         clear H
         have H := H1
         clear H1
         simp only [Option.some.injEq, Prod.mk.injEq] at H
         obtain ⟨rfl, rfl, rfl, rfl, rfl, rfl, rfl, rfl, rfl, rfl, rfl, rfl, rfl⟩ := H
         have hnb76 := NB258_269.out
         have hnc76 := NB269_258.out
         obtain ⟨hcz77_0, hcz77_1, hcz77_2, hcz77_3, hcz77_4, hcz77_5, hcz77_6, hcz77_7, hcz77_8, hcz77_9, hcz77_10, hcz77_11, hfz77_0, hfz77_1, hfz77_2, hfz77_3, hfz77_4, hfz77_5, hfz77_6, hfz77_7, hfz77_8, hfz77_9, hfz77_10, hfz77_11⟩ := cl12 BK258
         go_wp2
         refine bodyPost_ret (results_ct rfl _ _ gb258 32 #[.int .u8 0, .int .i64 0, .int .u64 0, .int .i64 0, .bool false, .int .u64 0, .int .u64 0, .int .i64 0, .int .u8 0, .int .i64 0, .int .i64 0, .int .i64 0] (0, 0) _ rfl (by (with_reducible repeat (first | refine blk_drewN ?_ _ | refine blk_drew ?_ | refine blk_alloc ?_ _)); refine blk_put (cs := #[.int .u8 0, .int .i64 0, .int .u64 0, .int .i64 0, .bool false, .int .u64 0, .int .u64 0, .int .i64 0, .int .u8 0, .int .i64 0, .int .i64 0, .int .i64 0]) ?_ 11 _ rfl; (with_reducible repeat (first | refine blk_drewN ?_ _ | refine blk_drew ?_ | refine blk_alloc ?_ _)); refine blk_put (cs := #[.int .u8 0, .int .i64 0, .int .u64 0, .int .i64 0, .bool false, .int .u64 0, .int .u64 0, .int .i64 0, .int .u8 0, .int .i64 0, .int .i64 0, .int .i64 0]) ?_ 10 _ rfl; (with_reducible repeat (first | refine blk_drewN ?_ _ | refine blk_drew ?_ | refine blk_alloc ?_ _)); refine blk_put (cs := #[.int .u8 0, .int .i64 0, .int .u64 0, .int .i64 0, .bool false, .int .u64 0, .int .u64 0, .int .i64 0, .int .u8 0, .int .i64 0, .int .i64 0, .int .i64 0]) ?_ 9 _ rfl; (with_reducible repeat (first | refine blk_drewN ?_ _ | refine blk_drew ?_ | refine blk_alloc ?_ _)); refine blk_put (cs := #[.int .u8 0, .int .i64 0, .int .u64 0, .int .i64 0, .bool false, .int .u64 0, .int .u64 0, .int .i64 0, .int .u8 0, .int .i64 0, .int .i64 0, .int .i64 0]) ?_ 8 _ rfl; (with_reducible repeat (first | refine blk_drewN ?_ _ | refine blk_drew ?_ | refine blk_alloc ?_ _)); refine blk_put (cs := #[.int .u8 0, .int .i64 0, .int .u64 0, .int .i64 0, .bool false, .int .u64 0, .int .u64 0, .int .i64 0, .int .u8 0, .int .i64 0, .int .i64 0, .int .i64 0]) ?_ 7 _ rfl; (with_reducible repeat (first | refine blk_drewN ?_ _ | refine blk_drew ?_ | refine blk_alloc ?_ _)); refine blk_put (cs := #[.int .u8 0, .int .i64 0, .int .u64 0, .int .i64 0, .bool false, .int .u64 0, .int .u64 0, .int .i64 0, .int .u8 0, .int .i64 0, .int .i64 0, .int .i64 0]) ?_ 6 _ rfl; (with_reducible repeat (first | refine blk_drewN ?_ _ | refine blk_drew ?_ | refine blk_alloc ?_ _)); refine blk_put (cs := #[.int .u8 0, .int .i64 0, .int .u64 0, .int .i64 0, .bool false, .int .u64 0, .int .u64 0, .int .i64 0, .int .u8 0, .int .i64 0, .int .i64 0, .int .i64 0]) ?_ 5 _ rfl; (with_reducible repeat (first | refine blk_drewN ?_ _ | refine blk_drew ?_ | refine blk_alloc ?_ _)); refine blk_put (cs := #[.int .u8 0, .int .i64 0, .int .u64 0, .int .i64 0, .bool false, .int .u64 0, .int .u64 0, .int .i64 0, .int .u8 0, .int .i64 0, .int .i64 0, .int .i64 0]) ?_ 4 _ rfl; (with_reducible repeat (first | refine blk_drewN ?_ _ | refine blk_drew ?_ | refine blk_alloc ?_ _)); refine blk_put (cs := #[.int .u8 0, .int .i64 0, .int .u64 0, .int .i64 0, .bool false, .int .u64 0, .int .u64 0, .int .i64 0, .int .u8 0, .int .i64 0, .int .i64 0, .int .i64 0]) ?_ 3 _ rfl; (with_reducible repeat (first | refine blk_drewN ?_ _ | refine blk_drew ?_ | refine blk_alloc ?_ _)); refine blk_put (cs := #[.int .u8 0, .int .i64 0, .int .u64 0, .int .i64 0, .bool false, .int .u64 0, .int .u64 0, .int .i64 0, .int .u8 0, .int .i64 0, .int .i64 0, .int .i64 0]) ?_ 2 _ rfl; (with_reducible repeat (first | refine blk_drewN ?_ _ | refine blk_drew ?_ | refine blk_alloc ?_ _)); refine blk_put (cs := #[.int .u8 0, .int .i64 0, .int .u64 0, .int .i64 0, .bool false, .int .u64 0, .int .u64 0, .int .i64 0, .int .u8 0, .int .i64 0, .int .i64 0, .int .i64 0]) ?_ 1 _ rfl; (with_reducible repeat (first | refine blk_drewN ?_ _ | refine blk_drew ?_ | refine blk_alloc ?_ _)); refine blk_put (cs := #[.int .u8 0, .int .i64 0, .int .u64 0, .int .i64 0, .bool false, .int .u64 0, .int .u64 0, .int .i64 0, .int .u8 0, .int .i64 0, .int .i64 0, .int .i64 0]) ?_ 0 _ rfl; (with_reducible repeat (first | refine blk_drewN ?_ _ | refine blk_drew ?_ | refine blk_alloc ?_ _)); exact BK258.out) Try.underlying32 rfl (by kernel_rfl)) rfl ?_
         exact ⟨eS, bw2 HB.out GE258.out GE269.out⟩
        ·replace c75 := Bool.eq_false_iff.mpr c75
         subst c75
         have H1 : (some ((bt a0 0), t260, t263, (wrap64 (t266)), x270004_10, x270005_10, x270006_10, x270007_10, x270008_10, x270009_10, x270010_10, x270011_10, 0)) = some (r1, r2, r3, r4, r5, r6, r7, r8, r9, r10, r11, r12, r13) := by rw [if_neg (show ¬ (false = true) by decide)] at H; exact H
         clear H
         have H := H1
         clear H1
         simp only [Option.some.injEq, Prod.mk.injEq] at H
         obtain ⟨rfl, rfl, rfl, rfl, rfl, rfl, rfl, rfl, rfl, rfl, rfl, rfl, rfl⟩ := H
         have hnb78 := NB269_258.out
         have hnc78 := NB258_269.out
         obtain ⟨hcz79_0, hcz79_1, hcz79_2, hcz79_3, hcz79_4, hcz79_5, hcz79_6, hcz79_7, hcz79_8, hcz79_9, hcz79_10, hcz79_11, hfz79_0, hfz79_1, hfz79_2, hfz79_3, hfz79_4, hfz79_5, hfz79_6, hfz79_7, hfz79_8, hfz79_9, hfz79_10, hfz79_11⟩ := cl12 BK269
         obtain ⟨hcz80_0, hcz80_1, hcz80_2, hcz80_3, hcz80_4, hcz80_5, hcz80_6, hcz80_7, hcz80_8, hcz80_9, hcz80_10, hcz80_11, hfz80_0, hfz80_1, hfz80_2, hfz80_3, hfz80_4, hfz80_5, hfz80_6, hfz80_7, hfz80_8, hfz80_9, hfz80_10, hfz80_11⟩ := cl12 BK258
         go_wp2
         refine bodyPost_ret (results_ct rfl _ _ gb258 32 #[.int .u8 (bt a0 0), .int .i64 t260, .int .u64 t263, .int .i64 (wrap64 (t266)), .bool x270004_10, .int .u64 x270005_10, .int .u64 x270006_10, .int .i64 x270007_10, .int .u8 x270008_10, .int .i64 x270009_10, .int .i64 x270010_10, .int .i64 x270011_10] (0, 0) _ rfl (by (with_reducible repeat (first | refine blk_drewN ?_ _ | refine blk_drew ?_ | refine blk_alloc ?_ _)); refine blk_put (cs := #[.int .u8 (bt a0 0), .int .i64 t260, .int .u64 t263, .int .i64 (wrap64 (t266)), .bool x270004_10, .int .u64 x270005_10, .int .u64 x270006_10, .int .i64 x270007_10, .int .u8 x270008_10, .int .i64 x270009_10, .int .i64 x270010_10, .int .i64 0]) ?_ 11 _ rfl; (with_reducible repeat (first | refine blk_drewN ?_ _ | refine blk_drew ?_ | refine blk_alloc ?_ _)); refine blk_put (cs := #[.int .u8 (bt a0 0), .int .i64 t260, .int .u64 t263, .int .i64 (wrap64 (t266)), .bool x270004_10, .int .u64 x270005_10, .int .u64 x270006_10, .int .i64 x270007_10, .int .u8 x270008_10, .int .i64 x270009_10, .int .i64 0, .int .i64 0]) ?_ 10 _ rfl; (with_reducible repeat (first | refine blk_drewN ?_ _ | refine blk_drew ?_ | refine blk_alloc ?_ _)); refine blk_put (cs := #[.int .u8 (bt a0 0), .int .i64 t260, .int .u64 t263, .int .i64 (wrap64 (t266)), .bool x270004_10, .int .u64 x270005_10, .int .u64 x270006_10, .int .i64 x270007_10, .int .u8 x270008_10, .int .i64 0, .int .i64 0, .int .i64 0]) ?_ 9 _ rfl; (with_reducible repeat (first | refine blk_drewN ?_ _ | refine blk_drew ?_ | refine blk_alloc ?_ _)); refine blk_put (cs := #[.int .u8 (bt a0 0), .int .i64 t260, .int .u64 t263, .int .i64 (wrap64 (t266)), .bool x270004_10, .int .u64 x270005_10, .int .u64 x270006_10, .int .i64 x270007_10, .int .u8 0, .int .i64 0, .int .i64 0, .int .i64 0]) ?_ 8 _ rfl; (with_reducible repeat (first | refine blk_drewN ?_ _ | refine blk_drew ?_ | refine blk_alloc ?_ _)); refine blk_put (cs := #[.int .u8 (bt a0 0), .int .i64 t260, .int .u64 t263, .int .i64 (wrap64 (t266)), .bool x270004_10, .int .u64 x270005_10, .int .u64 x270006_10, .int .i64 0, .int .u8 0, .int .i64 0, .int .i64 0, .int .i64 0]) ?_ 7 _ rfl; (with_reducible repeat (first | refine blk_drewN ?_ _ | refine blk_drew ?_ | refine blk_alloc ?_ _)); refine blk_put (cs := #[.int .u8 (bt a0 0), .int .i64 t260, .int .u64 t263, .int .i64 (wrap64 (t266)), .bool x270004_10, .int .u64 x270005_10, .int .u64 0, .int .i64 0, .int .u8 0, .int .i64 0, .int .i64 0, .int .i64 0]) ?_ 6 _ rfl; (with_reducible repeat (first | refine blk_drewN ?_ _ | refine blk_drew ?_ | refine blk_alloc ?_ _)); refine blk_put (cs := #[.int .u8 (bt a0 0), .int .i64 t260, .int .u64 t263, .int .i64 (wrap64 (t266)), .bool x270004_10, .int .u64 0, .int .u64 0, .int .i64 0, .int .u8 0, .int .i64 0, .int .i64 0, .int .i64 0]) ?_ 5 _ rfl; (with_reducible repeat (first | refine blk_drewN ?_ _ | refine blk_drew ?_ | refine blk_alloc ?_ _)); refine blk_put (cs := #[.int .u8 (bt a0 0), .int .i64 t260, .int .u64 t263, .int .i64 (wrap64 (t266)), .bool false, .int .u64 0, .int .u64 0, .int .i64 0, .int .u8 0, .int .i64 0, .int .i64 0, .int .i64 0]) ?_ 4 _ rfl; (with_reducible repeat (first | refine blk_drewN ?_ _ | refine blk_drew ?_ | refine blk_alloc ?_ _)); refine blk_put (cs := #[.int .u8 (bt a0 0), .int .i64 t260, .int .u64 t263, .int .i64 0, .bool false, .int .u64 0, .int .u64 0, .int .i64 0, .int .u8 0, .int .i64 0, .int .i64 0, .int .i64 0]) ?_ 3 _ rfl; (with_reducible repeat (first | refine blk_drewN ?_ _ | refine blk_drew ?_ | refine blk_alloc ?_ _)); refine blk_put (cs := #[.int .u8 (bt a0 0), .int .i64 t260, .int .u64 0, .int .i64 0, .bool false, .int .u64 0, .int .u64 0, .int .i64 0, .int .u8 0, .int .i64 0, .int .i64 0, .int .i64 0]) ?_ 2 _ rfl; (with_reducible repeat (first | refine blk_drewN ?_ _ | refine blk_drew ?_ | refine blk_alloc ?_ _)); refine blk_put (cs := #[.int .u8 (bt a0 0), .int .i64 0, .int .u64 0, .int .i64 0, .bool false, .int .u64 0, .int .u64 0, .int .i64 0, .int .u8 0, .int .i64 0, .int .i64 0, .int .i64 0]) ?_ 1 _ rfl; (with_reducible repeat (first | refine blk_drewN ?_ _ | refine blk_drew ?_ | refine blk_alloc ?_ _)); refine blk_put (cs := #[.int .u8 0, .int .i64 0, .int .u64 0, .int .i64 0, .bool false, .int .u64 0, .int .u64 0, .int .i64 0, .int .u8 0, .int .i64 0, .int .i64 0, .int .i64 0]) ?_ 0 _ rfl; (with_reducible repeat (first | refine blk_drewN ?_ _ | refine blk_drew ?_ | refine blk_alloc ?_ _)); exact BK258.out) Try.underlying32 rfl (by kernel_rfl)) rfl ?_
         exact ⟨eS, bw2 HB.out GE258.out GE269.out⟩
   ·rw [if_neg c6] at H
    exact absurd H (by simp)
  ·rw [if_neg c5] at H
   exact absurd H (by simp)
end Go.Proofs.Ytodgadhegcjbhaa.Q
end
section
namespace Go.Proofs.Ytodgadhegcjbhaa.Q
open Go.RowKit Go.Proofs.YtodgadhegcjbhaaW.PrintWords Go.Proofs.YtodgadhegcjbhaaW.PrintLast Go.Proofs.YtodgadhegcjbhaaW.PrintMore
attribute [local go_sem] max2_int min2_int max_two min_two max_three min_three max_four min_four   -- for this text's walks alone
set_option linter.unusedVariables false
set_option linter.unusedSimpArgs false
attribute [local go_sem high] eqA32
end Go.Proofs.Ytodgadhegcjbhaa.Q
end
section
namespace Go.Proofs.Ytodgadhegcjbhaa.Q
open Go.RowKit Go.Proofs.YtodgadhegcjbhaaW.PrintWords Go.Proofs.YtodgadhegcjbhaaW.PrintLast Go.Proofs.YtodgadhegcjbhaaW.PrintMore
attribute [local go_sem] max2_int min2_int max_two min_two max_three min_three max_four min_four   -- for this text's walks alone
set_option linter.unusedVariables false
set_option linter.unusedSimpArgs false
attribute [local go_sem high] eqA32
end Go.Proofs.Ytodgadhegcjbhaa.Q
end
section
namespace Go.Proofs.Ytodgadhegcjbhaa.Q
open Go.RowKit Go.Proofs.YtodgadhegcjbhaaW.PrintWords Go.Proofs.YtodgadhegcjbhaaW.PrintLast Go.Proofs.YtodgadhegcjbhaaW.PrintMore
attribute [local go_sem] max2_int min2_int max_two min_two max_three min_three max_four min_four   -- for this text's walks alone
set_option linter.unusedVariables false
set_option linter.unusedSimpArgs false
end Go.Proofs.Ytodgadhegcjbhaa.Q
end
section
namespace Go.Proofs.Ytodgadhegcjbhaa.Q
open Go.RowKit Go.Proofs.YtodgadhegcjbhaaW.PrintWords Go.Proofs.YtodgadhegcjbhaaW.PrintLast Go.Proofs.YtodgadhegcjbhaaW.PrintMore
attribute [local go_sem] max2_int min2_int max_two min_two max_three min_three max_four min_four   -- for this text's walks alone
set_option linter.unusedVariables false
set_option linter.unusedSimpArgs false
end Go.Proofs.Ytodgadhegcjbhaa.Q
end
section
namespace Go.Proofs.Ytodgadhegcjbhaa.Q
open Go.RowKit Go.Proofs.YtodgadhegcjbhaaW.PrintWords Go.Proofs.YtodgadhegcjbhaaW.PrintLast Go.Proofs.YtodgadhegcjbhaaW.PrintMore
attribute [local go_sem] max2_int min2_int max_two min_two max_three min_three max_four min_four   -- for this text's walks alone
set_option linter.unusedVariables false
set_option linter.unusedSimpArgs false
end Go.Proofs.Ytodgadhegcjbhaa.Q
end
section
namespace Go.Proofs.Ytodgadhegcjbhaa.Q
open Go.RowKit Go.Proofs.YtodgadhegcjbhaaW.PrintWords Go.Proofs.YtodgadhegcjbhaaW.PrintLast Go.Proofs.YtodgadhegcjbhaaW.PrintMore
attribute [local go_sem] max2_int min2_int max_two min_two max_three min_three max_four min_four   -- for this text's walks alone
set_option linter.unusedVariables false
set_option linter.unusedSimpArgs false
end Go.Proofs.Ytodgadhegcjbhaa.Q
end
section
namespace Go.Proofs.Ytodgadhegcjbhaa.Q
open Go.RowKit Go.Proofs.YtodgadhegcjbhaaW.PrintWords Go.Proofs.YtodgadhegcjbhaaW.PrintLast Go.Proofs.YtodgadhegcjbhaaW.PrintMore
attribute [local go_sem] max2_int min2_int max_two min_two max_three min_three max_four min_four   -- for this text's walks alone
set_option linter.unusedVariables false
set_option linter.unusedSimpArgs false
end Go.Proofs.Ytodgadhegcjbhaa.Q
end
section
namespace Go.Proofs.Ytodgadhegcjbhaa.Q
open Go.RowKit Go.Proofs.YtodgadhegcjbhaaW.PrintWords Go.Proofs.YtodgadhegcjbhaaW.PrintLast Go.Proofs.YtodgadhegcjbhaaW.PrintMore
attribute [local go_sem] max2_int min2_int max_two min_two max_three min_three max_four min_four   -- for this text's walks alone
set_option linter.unusedVariables false
set_option linter.unusedSimpArgs false
def IsS65 (w0 W : World) (g : Nat) (f0 : ByteArray) (f1 : Bool) : Prop := W.heap[g]? = some (.cells #[.string f0, .bool f1] 65 (0, 0)) ∧ w0.heap.size ≤ g
theorem IsS65.grown {w0 W : World} {g : Nat} {f0 : ByteArray} {f1 : Bool} {W1 : World} {row : Option Nat} (h : IsS65 w0 W g f0 f1) (hw : W.grownBy W1 row) (hne : some g ≠ row) : IsS65 w0 W1 g f0 f1 := by
 obtain ⟨hb, hg⟩ := h
 exact ⟨blk_grown hb hw hne, hg⟩
theorem IsS65.kept {w0 W : World} {g : Nat} {f0 : ByteArray} {f1 : Bool} {W1 : World} {S : Nat → Prop} (h : IsS65 w0 W g f0 f1) (hk : Kept W W1 S) (hne : ¬ S g) : IsS65 w0 W1 g f0 f1 := by
 obtain ⟨hb, hg⟩ := h
 exact ⟨blk_kept hb hk hne, hg⟩
theorem IsS65.below {w0 W : World} {g : Nat} {f0 : ByteArray} {f1 : Bool} {W1 : World} (h : IsS65 w0 W g f0 f1) (hw : Below W.heap.size W W1) : IsS65 w0 W1 g f0 f1 := h.grown (grown_of_below hw none) (by simp)
theorem IsS65.alloc {w0 W : World} {g : Nat} {f0 : ByteArray} {f1 : Bool} (h : IsS65 w0 W g f0 f1) (o : Obj) : IsS65 w0 (W.alloc o) g f0 f1 := h.below (below_alloc (Below.refl _ _) o)
theorem IsS65.drewN {w0 W : World} {g : Nat} {f0 : ByteArray} {f1 : Bool} (h : IsS65 w0 W g f0 f1) (m : Nat) : IsS65 w0 (W.drewN m) g f0 f1 := h
theorem IsS65.drew {w0 W : World} {g : Nat} {f0 : ByteArray} {f1 : Bool} (h : IsS65 w0 W g f0 f1) : IsS65 w0 W.drew g f0 f1 := h
theorem IsS65.apart {w0 W : World} {g : Nat} {f0 : ByteArray} {f1 : Bool} {α : Type} {d : Kd α} {e : Nat} {base : Nat} {ok : Nat → Prop} {v : Value} {xs : List α} (h : IsS65 w0 W g f0 f1) (ho : d.R e W base ok v xs) (ht : ∀ q, q ∈ e :: d.E → q ≠ 65) : d.R e W base (fun k => ok k ∧ k ≠ g) v xs := by
 obtain ⟨hb, hg⟩ := h
 exact Kd.R_types ho hb ht
theorem IsS65.own_ne {w0 W : World} {g : Nat} {f0 : ByteArray} {f1 : Bool} {α : Type} {d : Kd α} {e : Nat} {base : Nat} {ok : Nat → Prop} {v : Value} {xs : List α} (h : IsS65 w0 W g f0 f1) (ho : d.R e W base ok v xs) (ht : e ≠ 65) : some g ≠ v.ownBlock := by
 obtain ⟨hb, hg⟩ := h
 exact Kd.R_ne ho hb ht
theorem IsS65.lt {w0 W : World} {g : Nat} {f0 : ByteArray} {f1 : Bool} (h : IsS65 w0 W g f0 f1) : g < W.heap.size := by
 obtain ⟨hb, hg⟩ := h
 exact blk_lt hb
theorem IsS65.ge {w0 W : World} {g : Nat} {f0 : ByteArray} {f1 : Bool} (h : IsS65 w0 W g f0 f1) : w0.heap.size ≤ g := by
 obtain ⟨hb, hg⟩ := h
 exact hg
theorem IsS65.far {w0 W : World} {g : Nat} {f0 : ByteArray} {f1 : Bool} {p : Addr} (h : IsS65 w0 W g f0 f1) (hne : g ≠ p.block) (u : Value) : IsS65 w0 (W.setCell p u) g f0 f1 := by
 obtain ⟨hb, hg⟩ := h
 exact ⟨blk_far hb hne u, hg⟩
theorem IsS65.set_0 {w0 W : World} {g : Nat} {f0 : ByteArray} {f1 : Bool} (h : IsS65 w0 W g f0 f1) (x : ByteArray) : IsS65 w0 (W.setCell ⟨g, 0, none⟩ (.string x)) g x f1 := by
 obtain ⟨hb, hg⟩ := h
 exact ⟨by simpa using blk_set hb 0 (.string x), hg⟩
theorem IsS65.set_1 {w0 W : World} {g : Nat} {f0 : ByteArray} {f1 : Bool} (h : IsS65 w0 W g f0 f1) (x : Bool) : IsS65 w0 (W.setCell ⟨g, 1, none⟩ (.bool x)) g f0 x := by
 obtain ⟨hb, hg⟩ := h
 exact ⟨by simpa using blk_set hb 1 (.bool x), hg⟩
end Go.Proofs.Ytodgadhegcjbhaa.Q
end
section
namespace Go.Proofs.Ytodgadhegcjbhaa.Q
open Go.RowKit Go.Proofs.YtodgadhegcjbhaaW.PrintWords Go.Proofs.YtodgadhegcjbhaaW.PrintLast Go.Proofs.YtodgadhegcjbhaaW.PrintMore
attribute [local go_sem] max2_int min2_int max_two min_two max_three min_three max_four min_four   -- for this text's walks alone
set_option linter.unusedVariables false
set_option linter.unusedSimpArgs false
end Go.Proofs.Ytodgadhegcjbhaa.Q
end
