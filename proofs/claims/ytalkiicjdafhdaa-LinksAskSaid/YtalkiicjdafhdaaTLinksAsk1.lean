-- Merged and trimmed by this session's program wip/tools/trim.py.
import Derived.Test.YtalkiicjdafhdaaProg
import Derived.Below
import Derived.Deep.Draws
import Derived.Deep.AppendLies
import Derived.Maps.AppendAt
import Derived.OwnWalk
import Derived.Laws.BytesArg
import Derived.Laws.MakeOwn
import Derived.Laws.OwnMore
import Derived.Deep.OwnRows
import Derived.Tactics
import Derived.Lib.ConvBytes
import Derived.Laws.Slices
import Derived.WalkKit
import Derived.KernelRfl
import Derived.RowKit3
import Derived.Deep.LoopGhost
import Derived.Deep.QuietTactic
import Derived.BigQuiet
import Derived.WideLaws
import Derived.Deep.DeepCutAuto
import Derived.Deep.CutBlock
import Derived.Deep.RegionHeld3
import Derived.Laws.Rows
import Derived.Lib.AppendStr
import Derived.ArgAppend
import Derived.Laws.IdiomCopy
import Derived.OrdersHeld
import Derived.Laws.BitsLemmas
import Derived.RowKit
import Derived.Deep.RegionLaw
import Derived.Deep.RegionWith
import Derived.Shelf.RegionOpen
import Derived.Outline
import Derived.Laws.EntriesVeiled
import Derived.WalkSpells
import Derived.Laws.CopyOwn
import Derived.Lib.Overlaps
import Derived.Laws.Externs
import Derived.Test.YtalkiicjdafhdaaTLinksAsk0
section
namespace Go.Proofs.Ytalkiicjdafhdaa.Q
open Go.RowKit Go.Proofs.YtalkiicjdafhdaaW.PrintWords Go.Proofs.YtalkiicjdafhdaaW.PrintLast Go.Proofs.YtalkiicjdafhdaaW.PrintMore
attribute [local go_sem] max2_int min2_int max_two min_two max_three min_three max_four min_four   -- for this text's walks alone
set_option linter.unusedVariables false
set_option linter.unusedSimpArgs false
def errW : Option Int → Value
  | none => .nilIface
  | some c => .iface 0 (.int .i64 c)
theorem errW_none : errW none = .nilIface := rfl
theorem errW_some (c : Int) : errW (some c) = .iface 0 (.int .i64 c) := rfl
theorem bw0 {P Q  : Prop} (q : Q) (h : Q → P := by intro q_; repeat (first | (with_reducible first | exact q_ | apply below_alloc | apply pw_below_drewN | apply below_drew1) | exact q_)) : P := h q
theorem bw1 {P Q G0 : Prop} (q : Q) (g0 : G0) (h : Q → G0 → P := by intro q_ g0_; repeat (first | (with_reducible first | exact q_ | apply below_alloc | apply pw_below_drewN | apply below_drew1 | refine below_set ?_ g0_) | exact q_)) : P := h q g0
theorem Bx0 {W W1 w : World} {g : Nat} {o : Obj} (q : Aside0 (W.heap[g]? = some o)) (hb : Below W1.heap.size W1 w) (h : W.heap[g]? = some o → W1.heap[g]? = some o := by intro q_; (with_reducible repeat (first | refine blk_drewN ?_ _ | refine blk_drew ?_ | refine blk_alloc ?_ _)); exact q_) : Aside0 (w.heap[g]? = some o) := ⟨blk_below (h q.out) hb⟩
theorem Bs0 {w W W1 w2 : World} (q : Aside0 (Below w.heap.size w W)) (hb : Below W1.heap.size W1 w2) (h : Below w.heap.size w W → Below w.heap.size w W1 := by intro q_; repeat (first | (with_reducible first | exact q_ | apply below_alloc | apply pw_below_drewN | apply below_drew1) | exact q_)) : Aside0 (Below w.heap.size w w2) := ⟨below_step (h q.out) hb⟩
theorem Gw0 {w W W1 : World} {g : Nat} (q : Aside0 (Below w.heap.size w W)) (hg : g = W1.heap.size) (h : Below w.heap.size w W → Below w.heap.size w W1 := by intro q_; repeat (first | (with_reducible first | exact q_ | apply below_alloc | apply pw_below_drewN | apply below_drew1) | exact q_)) : Aside0 (w.heap.size ≤ g) := ⟨by rw [hg]; exact below_size (h q.out)⟩
theorem Bs1 {w W W1 w2 : World} {G0 : Prop} (q : Aside0 (Below w.heap.size w W)) (hb : Below W1.heap.size W1 w2) (g0 : G0) (h : Below w.heap.size w W → G0 → Below w.heap.size w W1 := by intro q_ g0_; repeat (first | (with_reducible first | exact q_ | apply below_alloc | apply pw_below_drewN | apply below_drew1 | refine below_set ?_ g0_) | exact q_)) : Aside0 (Below w.heap.size w w2) := ⟨below_step (h q.out g0) hb⟩
theorem cl2 {W : World} {g : Nat} {t : TypeId} {x0 x1 : Value} (h : Aside0 (W.heap[g]? = some (.cells #[x0, x1] t (0, 0)))) : W.cell? ⟨g, 0, none⟩ = some x0 ∧ W.cell? ⟨g, 1, none⟩ = some x1 ∧ W.frozen? ⟨g, 0, none⟩ = false ∧ W.frozen? ⟨g, 1, none⟩ = false := ⟨(blk_cell h.out 0).trans rfl, (blk_cell h.out 1).trans rfl, blk_frozen h.out 0, blk_frozen h.out 1⟩
theorem eS {P : Prop} (h : P := by first | rfl | (simp [errW_none, errW_some] <;> rfl) | (simp [*, errW_none, errW_some] <;> rfl)) : P := h
theorem Ax {p : Prop} (h : p) : Aside0 p := ⟨h⟩
abbrev tr : Bool := true
abbrev fa : Bool := false
theorem rS {P : Prop} (h : P := by first | rfl | (simp; done) | (simp [*]; done)) : P := h
theorem gS {P : Prop} (h : P := by (try simp only [List.map_toArray, List.map_cons, List.map_nil]); first | done | rfl | (simp only [List.length_drop, List.length_take]; rfl) | (simp only [Int.toNat_natCast, ByteArray.extract_zero_size]; rfl) | (simp only [Int.toNat_natCast, ByteArray.extract_zero_size]; done)) : P := h
theorem sP : (∀ (a : Act) (d : Tmp) (v : Value), Act.put a (some d) v = { a with tmps := a.tmps.setIfInBounds d v }) ∧ (∀ (a : Act) (v : Value), Act.put a none v = a) ∧ (∀ (l : List Value) (i : Nat) (a : Value), l.toArray.setIfInBounds i a = (l.set i a).toArray) ∧ (∀ (l : List Value) (x a : Value), (x :: l).set 0 a = a :: l) ∧ (∀ (l : List Value) (x a : Value) (n : Nat), (x :: l).set (n + 1) a = x :: l.set n a) ∧ (∀ n : Int, IntKind.i64.wrap n = Go.RowKit.wrap64 n) ∧ (∀ n : Int, IntKind.i32.wrap n = Go.RowKit.wrap32 n) := ⟨fun _ _ _ => rfl, fun _ _ => rfl, fun _ _ _ => List.setIfInBounds_toArray .., fun _ _ _ => rfl, fun _ _ _ _ => rfl, i64_w, i32_w⟩
theorem info24 : (Try.prog.info? 24).map (fun i => (i.zero, i.size, i.bytes)) = some (some (.agg #[(.int .i64 0), (.int .i64 0)]), 2, 16) := by kernel_rfl
structure S24 where
  f0 : Int
  f1 : Int
def z24 : S24 := ⟨(0 : Int), (0 : Int)⟩
def k24 : Kd S24 := Kd.iso (Kd.pair (Kd.int .i64) (Kd.int .i64)) (fun x : S24 => (x.f0, x.f1))
theorem k24_open {w : World} {x : S24} {cs : List Value} (h : k24.K w x cs) : cs = [.int .i64 x.f0, .int .i64 x.f1] := by
  obtain ⟨_, _, rfl, rfl, rfl⟩ := h
  exact rfl
theorem k24_openM {w : World} {base : Nat} {ok : Nat → Prop} {x : S24} {cs : List Value} (h : k24.M w base ok x cs) : cs = [.int .i64 x.f0, .int .i64 x.f1] := by
  obtain ⟨_, _, rfl, rfl, rfl⟩ := h
  exact rfl
theorem k24_mkM (w : World) (base : Nat) (ok : Nat → Prop) (x : S24)  : k24.M w base ok x [.int .i64 x.f0, .int .i64 x.f1] := ⟨[.int .i64 x.f0], [.int .i64 x.f1], rfl, rfl, rfl⟩
def rd_T24 (xs : List S24) (i : Int) : S24 := xs.getD i.toNat z24
theorem at_T24 {w : World} {A : Option Addr} {n : Nat} {xs : List S24} (h : Kd.C k24 w A n xs) (i : Int) (h0 : 0 ≤ i) (h1 : i < n) : ∃ ad , A = some ad ∧ w.cell? (ad.add (i.toNat * 2)) = some (.int .i64 (rd_T24 xs i).f0) ∧ w.cell? ⟨(ad.add (i.toNat * 2)).block, (ad.add (i.toNat * 2)).off + 1, none⟩ = some (.int .i64 (rd_T24 xs i).f1) := by
  obtain ⟨ad, c, e, _, hK, hc0⟩ := Kd.C_get h z24 i h0 h1
  have hc : ∀ j u, c[j]? = some u → w.cell? (ad.add (i.toNat * 2 + j)) = some u := hc0
  obtain rfl := k24_open hK
  exact ⟨ad, e, hc 0 _ rfl, by rw [← add_field _ _ 1 (by omega)]; exact hc 1 _ rfl⟩
end Go.Proofs.Ytalkiicjdafhdaa.Q
end
section
namespace Go.Proofs.Ytalkiicjdafhdaa.Q
open Go.RowKit Go.Proofs.YtalkiicjdafhdaaW.PrintWords Go.Proofs.YtalkiicjdafhdaaW.PrintLast Go.Proofs.YtalkiicjdafhdaaW.PrintMore
attribute [local go_sem] max2_int min2_int max_two min_two max_three min_three max_four min_four   -- for this text's walks alone
set_option linter.unusedVariables false
set_option linter.unusedSimpArgs false
def links_right.f (a0_0 : Int) (a0_1 : Int) : Option (Bool) := if a0_0 ≥ 0 then (if a0_0 ≤ 65536 then (if a0_1 ≥ 0 then (some (decide (a0_1 ≤ 1048576))) else (some false)) else (some false)) else (some false)
set_option maxHeartbeats 8000000 in
set_option maxRecDepth 100000 in
theorem links_right.calls (a0_0 : Int) (a0_1 : Int) (r : Bool) (w : World) (h : links_right.f a0_0 a0_1 = some r) :
  Calls Try.prog 20 #[.agg #[.int .i64 a0_0, .int .i64 a0_1]] w fun e w' => e = .returned (.bool r) ∧ Below w.heap.size w w' := by
 have hu24 := Try.underlying24
 have HB := Ax (Below.refl w.heap.size w)
 have H : (if a0_0 ≥ 0 then (if a0_0 ≤ 65536 then (if a0_1 ≥ 0 then (some (decide (a0_1 ≤ 1048576))) else (some false)) else (some false)) else (some false)) = some r := h
 clear h
 by_cases c2 : a0_0 ≥ 0
 ·rw [if_pos c2] at H
  have c2b0 : decide (0 ≤ a0_0) = true := decide_eq_true c2
  clear c2
  by_cases c3 : a0_0 ≤ 65536
  ·rw [if_pos c3] at H
   have c3b0 : decide (a0_0 ≤ 65536) = true := decide_eq_true c3
   clear c3
   by_cases c4 : a0_1 ≥ 0
   ·rw [if_pos c4] at H
    have c4b0 : decide (0 ≤ a0_1) = true := decide_eq_true c4
    clear c4
    obtain rfl := Option.some.inj H
    go_enter Try.func20, Try.ntmps20
    go_wp2_with (first | ((with_reducible refine gate_dst (N := 1) rfl ?_); refine box_event ?hg (N := 1) ?hd (cs := #[.int .i64 a0_0, .int .i64 a0_1]) (t := 24) ?hr ?_; (case hd => rfl); (case hg => rfl); (case hr => first | (go_simp; done) | (go_simp; rfl)); intro gb101 hg w5 hbox hb; have n0_ := Bs0 HB hb; have n1_ := Ax (hbox); have n2_ := Gw0 HB hg; have n3_ := Gw0 HB hg; clear HB; have HB := n0_; have BK101 := n1_; have GW101 := n2_; have GE101 := n3_; clear n0_ n1_ n2_ n3_; clear hb hbox hg; obtain ⟨hcz6_0, hcz6_1, hfz6_0, hfz6_1⟩ := cl2 BK101))
    go_ret
    exact ⟨eS, bw1 HB.out GE101.out⟩
   ·rw [if_neg c4] at H
    have c4b0 : decide (0 ≤ a0_1) = false := decide_eq_false c4
    clear c4
    obtain rfl := Option.some.inj H
    go_enter Try.func20, Try.ntmps20
    go_wp2_with (first | ((with_reducible refine gate_dst (N := 1) rfl ?_); refine box_event ?hg (N := 1) ?hd (cs := #[.int .i64 a0_0, .int .i64 a0_1]) (t := 24) ?hr ?_; (case hd => rfl); (case hg => rfl); (case hr => first | (go_simp; done) | (go_simp; rfl)); intro gb101 hg w7 hbox hb; have n0_ := Bs0 HB hb; have n1_ := Ax (hbox); have n2_ := Gw0 HB hg; have n3_ := Gw0 HB hg; clear HB; have HB := n0_; have BK101 := n1_; have GW101 := n2_; have GE101 := n3_; clear n0_ n1_ n2_ n3_; clear hb hbox hg; obtain ⟨hcz8_0, hcz8_1, hfz8_0, hfz8_1⟩ := cl2 BK101))
    go_ret
    exact ⟨eS, bw1 HB.out GE101.out⟩
  ·rw [if_neg c3] at H
   have c3b0 : decide (a0_0 ≤ 65536) = false := decide_eq_false c3
   clear c3
   obtain rfl := Option.some.inj H
   go_enter Try.func20, Try.ntmps20
   go_wp2_with (first | ((with_reducible refine gate_dst (N := 1) rfl ?_); refine box_event ?hg (N := 1) ?hd (cs := #[.int .i64 a0_0, .int .i64 a0_1]) (t := 24) ?hr ?_; (case hd => rfl); (case hg => rfl); (case hr => first | (go_simp; done) | (go_simp; rfl)); intro gb101 hg w9 hbox hb; have n0_ := Bs0 HB hb; have n1_ := Ax (hbox); have n2_ := Gw0 HB hg; have n3_ := Gw0 HB hg; clear HB; have HB := n0_; have BK101 := n1_; have GW101 := n2_; have GE101 := n3_; clear n0_ n1_ n2_ n3_; clear hb hbox hg; obtain ⟨hcz10_0, hcz10_1, hfz10_0, hfz10_1⟩ := cl2 BK101))
   go_ret
   exact ⟨eS, bw1 HB.out GE101.out⟩
 ·rw [if_neg c2] at H
  have c2b0 : decide (0 ≤ a0_0) = false := decide_eq_false c2
  clear c2
  obtain rfl := Option.some.inj H
  go_enter Try.func20, Try.ntmps20
  go_wp2_with (first | ((with_reducible refine gate_dst (N := 1) rfl ?_); refine box_event ?hg (N := 1) ?hd (cs := #[.int .i64 a0_0, .int .i64 a0_1]) (t := 24) ?hr ?_; (case hd => rfl); (case hg => rfl); (case hr => first | (go_simp; done) | (go_simp; rfl)); intro gb101 hg w11 hbox hb; have n0_ := Bs0 HB hb; have n1_ := Ax (hbox); have n2_ := Gw0 HB hg; have n3_ := Gw0 HB hg; clear HB; have HB := n0_; have BK101 := n1_; have GW101 := n2_; have GE101 := n3_; clear n0_ n1_ n2_ n3_; clear hb hbox hg; obtain ⟨hcz12_0, hcz12_1, hfz12_0, hfz12_1⟩ := cl2 BK101))
  go_ret
  exact ⟨eS, bw1 HB.out GE101.out⟩
def links_Check.l0 : Nat → Int → List (S24) → Int → Int → Option (Int)
 | 0, _, _, _, _ => none
 | k + 1, x3, x9, x10, x11 => if x11 < x10 then (if 0 ≤ x11 then (if x11 < (x9.length : Int) then ((links_right.f ((rd_T24 x9 x11).f0) ((rd_T24 x9 x11).f1)).bind fun t104 => (if t104 = true then (if ((rd_T24 x9 x11).f0) ≤ x3 then (some 2) else (links_Check.l0 k ((rd_T24 x9 x11).f0) x9 x10 (wrap64 (x11 + 1)))) else (some 2))) else (none)) else (none)) else (some 0)
def links_Check.f (k : Nat) (l0 : List (S24)) : Option (Int) := if (l0.length : Int) > 32 then (some 2) else (links_Check.l0 k (-1) l0 (l0.length : Int) 0)
theorem links_Check.mono_l : ∀ k, (∀ y0 y1 y2 y3, LeO (links_Check.l0 k y0 y1 y2 y3) (links_Check.l0 (k + 1) y0 y1 y2 y3))
 | 0 => fun _ _ _ _ r h => by simp [links_Check.l0] at h
 | k + 1 => by
  have ih0 := links_Check.mono_l k
  ·intro y0 y1 y2 y3
   unfold links_Check.l0
   repeat' first
   | (with_reducible exact ih0 _ _ _ _)
   | (with_reducible exact LeO.refl _)
   | (with_reducible exact LeO.none _)
   | (with_reducible refine LeO.ite ?_ ?_)
   | (with_reducible refine LeO.bind ?_ (fun _ => ?_))
   | exact ih0 _ _ _ _
   | exact LeO.none _
   | refine LeO.ite ?_ ?_
   | refine LeO.bind ?_ (fun _ => ?_)
theorem links_Check.mono : ∀ a0 k, LeO (links_Check.f k a0) (links_Check.f (k + 1) a0) := by
 intro a0 k
 have ih0 := links_Check.mono_l k
 unfold links_Check.f
 repeat' first
   | (with_reducible exact ih0 _ _ _ _)
   | (with_reducible exact LeO.refl _)
   | (with_reducible exact LeO.none _)
   | (with_reducible refine LeO.ite ?_ ?_)
   | (with_reducible refine LeO.bind ?_ (fun _ => ?_))
   | exact ih0 _ _ _ _
   | exact LeO.none _
   | refine LeO.ite ?_ ?_
   | refine LeO.bind ?_ (fun _ => ?_)
set_option maxHeartbeats 8000000 in
set_option maxRecDepth 100000 in
theorem links_Check.calls (k : Nat) (A0 : Option Addr) (c0 : Nat) (l0 : List (S24)) (r : Int) (w : World) (hr0 : Kd.C k24 w A0 l0.length l0) (hc0 : l0.length ≤ c0) (h : links_Check.f k l0 = some r) :
  Calls Try.prog 12 #[.slice A0 l0.length c0] w fun e w' => e = .returned (.int .i64 r) ∧ Below w.heap.size w w' := by
 have hu24 := Try.underlying24
 have HR0 := Ax hr0
 have HC0 := Ax hc0
 clear hr0 hc0
 have HB := Ax (Below.refl w.heap.size w)
 have H : (if (l0.length : Int) > 32 then (some 2) else (links_Check.l0 k (-1) l0 (l0.length : Int) 0)) = some r := h
 clear h
 by_cases c2 : (l0.length : Int) > 32
 ·rw [if_pos c2] at H
  have c2b0 : decide (32 < (l0.length : Int)) = true := decide_eq_true c2
  have c2b1 : decide (32 < l0.length) = true := decide_eq_true (by omega)
  clear c2
  obtain rfl := Option.some.inj H
  go_enter Try.func12, Try.ntmps12
  go_wp2
  go_ret
  exact ⟨eS, bw0 HB.out⟩
 ·rw [if_neg c2] at H
  have c2b0 : decide (32 < (l0.length : Int)) = false := decide_eq_false c2
  have c2b1 : decide (32 < l0.length) = false := decide_eq_false (by omega)
  clear c2
  have H' := Ax H
  clear H
  go_enter Try.func12, Try.ntmps12
  go_wp2
  go_loopg [3, 11] k (fun kq v3 v11 w' => ∃ (x3_1 : Int) (x11_1 : Int), v3 = .int .i64 x3_1 ∧ v11 = .int .i64 x11_1 ∧ Aside0 (links_Check.l0 kq x3_1 l0 (l0.length : Int) x11_1 = some r) ∧ Aside0 (kq ≤ k) ∧ Aside0 (Below w.heap.size w w'))
  case atStart => exact ⟨((-1)), (0), rS, rS, H', ⟨Nat.le_refl _⟩, ⟨bw0 HB.out⟩⟩
  case round =>
   clear H'
   try clear c1
   try clear c2
   try clear c2b0
   try clear c2b1
   try clear p2
   obtain ⟨x3_1, x11_1, rfl, rfl, HA, HK1, HB⟩ := hrel
   cases gk with
   | zero => exact absurd HA.out (by simp [links_Check.l0])
   | succ k1 =>
    have H := HA.out
    clear HA
    simp only [links_Check.l0] at H
    by_cases c3 : x11_1 < (l0.length : Int)
    ·rw [if_pos c3] at H
     have c3b0 : decide (x11_1 < (l0.length : Int)) = true := decide_eq_true c3
     clear c3
     by_cases c4 : 0 ≤ x11_1
     ·rw [if_pos c4] at H
      have c4b0 : decide (0 ≤ x11_1) = true := decide_eq_true c4
      clear c4
      by_cases c5 : x11_1 < (l0.length : Int)
      ·rw [if_pos c5] at H
       have c5b0 : decide (x11_1 < (l0.length : Int)) = true := decide_eq_true c5
       clear c5
       replace H := Option.bind_eq_some_iff.mp H
       obtain ⟨t104, A60, H⟩ := H
       replace H : (if t104 = true then (if ((rd_T24 l0 x11_1).f0) ≤ x3_1 then (some 2) else (links_Check.l0 k1 ((rd_T24 l0 x11_1).f0) l0 (l0.length : Int) (wrap64 (x11_1 + 1)))) else (some 2)) = some r := H
       have A6 := Ax A60
       clear A60
       by_cases c7 : t104 = true
       ·subst c7
        have H1 : (if ((rd_T24 l0 x11_1).f0) ≤ x3_1 then (some 2) else (links_Check.l0 k1 ((rd_T24 l0 x11_1).f0) l0 (l0.length : Int) (wrap64 (x11_1 + 1)))) = some r := by rw [if_pos rfl] at H; exact H
        clear H
        have H := H1
        clear H1
        by_cases c8 : ((rd_T24 l0 x11_1).f0) ≤ x3_1
        ·rw [if_pos c8] at H
         have c8b0 : decide (((rd_T24 l0 x11_1).f0) ≤ x3_1) = true := decide_eq_true c8
         clear c8
         obtain rfl := Option.some.inj H
         have p102 : 0 ≤ (x11_1 : Int) := of_decide_eq_true (by first | (with_reducible assumption) | assumption)
         have q102 : x11_1 < (l0.length : Int) := of_decide_eq_true (by first | (with_reducible assumption) | assumption)
         obtain ⟨ad102, e102, hx102_0, hx102_1⟩ := at_T24 HR0.out x11_1 p102 q102
         cases e102
         replace hx102_0 := (HB.out.cell (World.block_lt_of_cell? w _ hx102_0)).trans hx102_0
         replace hx102_1 := (HB.out.cell (World.block_lt_of_cell? w _ hx102_1)).trans hx102_1
         replace p102 := eq_true p102
         replace q102 := eq_true q102
         go_wp2_with (first | ((with_reducible refine gate_dst (N := 5) rfl ?_); refine box_event ?hg (N := 5) ?hd (cs := #[.int .i64 0, .int .i64 0]) (t := 24) ?hr ?_; (case hd => rfl); (case hg => rfl); (case hr => first | (go_simp; done) | (go_simp; rfl)); intro gb103 hg w9 hbox hb; have n0_ := Bs0 HB hb; have n1_ := Ax (hbox); have n2_ := Gw0 HB hg; have n3_ := Gw0 HB hg; clear HB; have HB := n0_; have BK103 := n1_; have GW103 := n2_; have GE103 := n3_; clear n0_ n1_ n2_ n3_; clear hb hbox hg; obtain ⟨hcz10_0, hcz10_1, hfz10_0, hfz10_1⟩ := cl2 BK103) | ((with_reducible refine gate_callee (f := 20) rfl ?_); refine goesL_ (some 16) rfl rfl Try.func20 (by kernel_rfl) rfl #[.agg #[.int .i64 ((rd_T24 l0 x11_1).f0), .int .i64 ((rd_T24 l0 x11_1).f1)]] rfl gS ?_; (with_reducible refine (links_right.calls ((rd_T24 l0 x11_1).f0) ((rd_T24 l0 x11_1).f1) true _ A6.out).mono ?_); rintro e w11 ⟨rfl, hb⟩; refine ⟨_, rfl, ?_⟩; have n0_ := Ax (blk_below (g := gb103) (o := .cells #[.int .i64 ((rd_T24 l0 x11_1).f0), .int .i64 ((rd_T24 l0 x11_1).f1)] 24 (0, 0)) (by (with_reducible repeat (first | refine blk_drewN ?_ _ | refine blk_drew ?_ | refine blk_alloc ?_ _)); refine blk_put (cs := #[.int .i64 ((rd_T24 l0 x11_1).f0), .int .i64 0]) ?_ 1 _ rfl; (with_reducible repeat (first | refine blk_drewN ?_ _ | refine blk_drew ?_ | refine blk_alloc ?_ _)); refine blk_put (cs := #[.int .i64 0, .int .i64 0]) ?_ 0 _ rfl; (with_reducible repeat (first | refine blk_drewN ?_ _ | refine blk_drew ?_ | refine blk_alloc ?_ _)); exact BK103.out) hb); have n1_ := Bs1 HB hb GE103.out; clear BK103; clear HB; have BK103 := n0_; have HB := n1_; clear n0_ n1_; (try clear hb); obtain ⟨hcz12_0, hcz12_1, hfz12_0, hfz12_1⟩ := cl2 BK103))
         go_ret
         exact ⟨eS, bw1 HB.out GE103.out⟩
        ·rw [if_neg c8] at H
         have c8b0 : decide (((rd_T24 l0 x11_1).f0) ≤ x3_1) = false := decide_eq_false c8
         clear c8
         have H' := Ax H
         clear H
         have p102 : 0 ≤ (x11_1 : Int) := of_decide_eq_true (by first | (with_reducible assumption) | assumption)
         have q102 : x11_1 < (l0.length : Int) := of_decide_eq_true (by first | (with_reducible assumption) | assumption)
         obtain ⟨ad102, e102, hx102_0, hx102_1⟩ := at_T24 HR0.out x11_1 p102 q102
         cases e102
         replace hx102_0 := (HB.out.cell (World.block_lt_of_cell? w _ hx102_0)).trans hx102_0
         replace hx102_1 := (HB.out.cell (World.block_lt_of_cell? w _ hx102_1)).trans hx102_1
         replace p102 := eq_true p102
         replace q102 := eq_true q102
         go_wp2_with (first | ((with_reducible refine gate_dst (N := 5) rfl ?_); refine box_event ?hg (N := 5) ?hd (cs := #[.int .i64 0, .int .i64 0]) (t := 24) ?hr ?_; (case hd => rfl); (case hg => rfl); (case hr => first | (go_simp; done) | (go_simp; rfl)); intro gb103 hg w13 hbox hb; have n0_ := Bs0 HB hb; have n1_ := Ax (hbox); have n2_ := Gw0 HB hg; have n3_ := Gw0 HB hg; clear HB; have HB := n0_; have BK103 := n1_; have GW103 := n2_; have GE103 := n3_; clear n0_ n1_ n2_ n3_; clear hb hbox hg; obtain ⟨hcz14_0, hcz14_1, hfz14_0, hfz14_1⟩ := cl2 BK103) | ((with_reducible refine gate_callee (f := 20) rfl ?_); refine goesL_ (some 16) rfl rfl Try.func20 (by kernel_rfl) rfl #[.agg #[.int .i64 ((rd_T24 l0 x11_1).f0), .int .i64 ((rd_T24 l0 x11_1).f1)]] rfl gS ?_; (with_reducible refine (links_right.calls ((rd_T24 l0 x11_1).f0) ((rd_T24 l0 x11_1).f1) true _ A6.out).mono ?_); rintro e w15 ⟨rfl, hb⟩; refine ⟨_, rfl, ?_⟩; have n0_ := Ax (blk_below (g := gb103) (o := .cells #[.int .i64 ((rd_T24 l0 x11_1).f0), .int .i64 ((rd_T24 l0 x11_1).f1)] 24 (0, 0)) (by (with_reducible repeat (first | refine blk_drewN ?_ _ | refine blk_drew ?_ | refine blk_alloc ?_ _)); refine blk_put (cs := #[.int .i64 ((rd_T24 l0 x11_1).f0), .int .i64 0]) ?_ 1 _ rfl; (with_reducible repeat (first | refine blk_drewN ?_ _ | refine blk_drew ?_ | refine blk_alloc ?_ _)); refine blk_put (cs := #[.int .i64 0, .int .i64 0]) ?_ 0 _ rfl; (with_reducible repeat (first | refine blk_drewN ?_ _ | refine blk_drew ?_ | refine blk_alloc ?_ _)); exact BK103.out) hb); have n1_ := Bs1 HB hb GE103.out; clear BK103; clear HB; have BK103 := n0_; have HB := n1_; clear n0_ n1_; (try clear hb); obtain ⟨hcz16_0, hcz16_1, hfz16_0, hfz16_1⟩ := cl2 BK103))
         go_roundg k1
         case measure => have := HK1.out; omega
         case rel => exact ⟨((rd_T24 l0 x11_1).f0), (wrap64 (x11_1 + 1)), rS, rS, H', ⟨by have := HK1.out; omega⟩, ⟨bw1 HB.out GE103.out⟩⟩
       ·replace c7 := Bool.eq_false_iff.mpr c7
        subst c7
        have H1 : (some 2) = some r := by rw [if_neg (show ¬ (false = true) by decide)] at H; exact H
        clear H
        have H := H1
        clear H1
        obtain rfl := Option.some.inj H
        have p102 : 0 ≤ (x11_1 : Int) := of_decide_eq_true (by first | (with_reducible assumption) | assumption)
        have q102 : x11_1 < (l0.length : Int) := of_decide_eq_true (by first | (with_reducible assumption) | assumption)
        obtain ⟨ad102, e102, hx102_0, hx102_1⟩ := at_T24 HR0.out x11_1 p102 q102
        cases e102
        replace hx102_0 := (HB.out.cell (World.block_lt_of_cell? w _ hx102_0)).trans hx102_0
        replace hx102_1 := (HB.out.cell (World.block_lt_of_cell? w _ hx102_1)).trans hx102_1
        replace p102 := eq_true p102
        replace q102 := eq_true q102
        go_wp2_with (first | ((with_reducible refine gate_dst (N := 5) rfl ?_); refine box_event ?hg (N := 5) ?hd (cs := #[.int .i64 0, .int .i64 0]) (t := 24) ?hr ?_; (case hd => rfl); (case hg => rfl); (case hr => first | (go_simp; done) | (go_simp; rfl)); intro gb103 hg w17 hbox hb; have n0_ := Bs0 HB hb; have n1_ := Ax (hbox); have n2_ := Gw0 HB hg; have n3_ := Gw0 HB hg; clear HB; have HB := n0_; have BK103 := n1_; have GW103 := n2_; have GE103 := n3_; clear n0_ n1_ n2_ n3_; clear hb hbox hg; obtain ⟨hcz18_0, hcz18_1, hfz18_0, hfz18_1⟩ := cl2 BK103) | ((with_reducible refine gate_callee (f := 20) rfl ?_); refine goesL_ (some 16) rfl rfl Try.func20 (by kernel_rfl) rfl #[.agg #[.int .i64 ((rd_T24 l0 x11_1).f0), .int .i64 ((rd_T24 l0 x11_1).f1)]] rfl gS ?_; (with_reducible refine (links_right.calls ((rd_T24 l0 x11_1).f0) ((rd_T24 l0 x11_1).f1) false _ A6.out).mono ?_); rintro e w19 ⟨rfl, hb⟩; refine ⟨_, rfl, ?_⟩; have n0_ := Ax (blk_below (g := gb103) (o := .cells #[.int .i64 ((rd_T24 l0 x11_1).f0), .int .i64 ((rd_T24 l0 x11_1).f1)] 24 (0, 0)) (by (with_reducible repeat (first | refine blk_drewN ?_ _ | refine blk_drew ?_ | refine blk_alloc ?_ _)); refine blk_put (cs := #[.int .i64 ((rd_T24 l0 x11_1).f0), .int .i64 0]) ?_ 1 _ rfl; (with_reducible repeat (first | refine blk_drewN ?_ _ | refine blk_drew ?_ | refine blk_alloc ?_ _)); refine blk_put (cs := #[.int .i64 0, .int .i64 0]) ?_ 0 _ rfl; (with_reducible repeat (first | refine blk_drewN ?_ _ | refine blk_drew ?_ | refine blk_alloc ?_ _)); exact BK103.out) hb); have n1_ := Bs1 HB hb GE103.out; clear BK103; clear HB; have BK103 := n0_; have HB := n1_; clear n0_ n1_; (try clear hb)))
        go_ret
        exact ⟨eS, bw1 HB.out GE103.out⟩
      ·rw [if_neg c5] at H
       exact absurd H (by simp)
     ·rw [if_neg c4] at H
      exact absurd H (by simp)
    ·rw [if_neg c3] at H
     have c3b0 : decide (x11_1 < (l0.length : Int)) = false := decide_eq_false c3
     clear c3
     obtain rfl := Option.some.inj H
     go_wp2
     go_ret
     exact ⟨eS, bw0 HB.out⟩
structure FlatK {α : Type} (d : Kd α) (enc : α → List Value) : Prop where
  cel : ∀ W base ok x, d.M W base ok x (enc x)
  op : ∀ {W base ok x cs}, d.M W base ok x cs → cs = enc x
  len : ∀ x, (enc x).length = d.sz
def flatL {α : Type} (enc : α → List Value) (xs : List α) : List Value := xs.flatMap enc
section
variable {α : Type} {d : Kd α} {enc : α → List Value}
theorem flatL_cons (x : α) (xs : List α) : flatL enc (x :: xs) = enc x ++ flatL enc xs := rfl
theorem flatL_app (xs ys : List α) : flatL enc (xs ++ ys) = flatL enc xs ++ flatL enc ys := by simp [flatL]
theorem FlatK.length (F : FlatK d enc) : ∀ xs : List α, (flatL enc xs).length = xs.length * d.sz
  | [] => by simp [flatL]
  | x :: xs => by rw [flatL_cons, List.length_append, F.len, F.length xs, List.length_cons, Nat.succ_mul]; omega
theorem FlatK.one (F : FlatK d enc) (W : World) (xs : List α) : ∀ v ∈ flatL enc xs, v.oneCell' = true := fun v hv => by
  obtain ⟨x, _, h⟩ := List.mem_flatMap.1 hv
  exact d.K_one (d.K_of_M (F.cel W 0 (fun _ => True) x)) v h
theorem FlatK.reps (F : FlatK d enc) (W : World) (base : Nat) (ok : Nat → Prop) : ∀ xs : List α, Reps (d.M W base ok) d.sz xs (flatL enc xs)
  | [] => Reps.none _ _
  | x :: xs => Reps.front (F.cel W base ok x) (F.len x) (F.reps W base ok xs) rfl
theorem FlatK.reps_is (F : FlatK d enc) {W : World} {base : Nat} {ok : Nat → Prop} : ∀ {xs : List α} {inner : List Value}, Reps (d.M W base ok) d.sz xs inner → inner = flatL enc xs
  | [], inner, h => by
    have := h.1
    simp at this
    rw [this]
    rfl
  | x :: xs, inner, h => by
    have h0 := F.op (h.2 0 x rfl)
    simp only [Nat.zero_mul, List.drop_zero] at h0
    have ht : Reps (d.M W base ok) d.sz xs (inner.drop d.sz) := ⟨by rw [List.length_drop, h.1, List.length_cons, Nat.succ_mul]; omega, fun j p hp => by
      have := h.2 (j + 1) p (by simpa using hp)
      rwa [List.drop_drop, show d.sz + j * d.sz = (j + 1) * d.sz by rw [Nat.succ_mul]; omega]⟩
    rw [flatL_cons, ← h0, ← F.reps_is ht, List.take_append_drop]
theorem FlatK.own (F : FlatK d enc) {e : Nat} {W : World} {base : Nat} {ok : Nat → Prop} {ad : Addr} {n c : Nat} {xs : List α} (h : d.R e W base ok (.slice (some ad) n c) xs) :
    ∃ g sp, ad = ⟨g, 0, none⟩ ∧ n = xs.length ∧ base ≤ g ∧ ok g ∧ W.heap[g]? = some (.cells (flatL enc xs ++ sp).toArray e (0, 0)) ∧ xs.length ≤ c ∧ c ≤ maxLen ∧ xs.length * d.sz + sp.length = c * d.sz := by
  obtain ⟨h0, inner, ⟨ho1, ho2⟩, hr⟩ := h
  rcases ho2 with ⟨hv, _⟩ | ⟨g, cap, cur, hv, hb, hh, hnc, hcm, hcs, ht⟩
  · cases hv
  injection hv with ha hn hc
  injection ha with ha
  subst ha; subst hn; subst hc
  have e1 := F.reps_is hr
  subst e1
  refine ⟨g, cur.toList.drop (xs.length * d.sz), rfl, rfl, hb, h0 g rfl, ?_, hnc, hcm, ?_⟩
  · rw [← ht, List.take_append_drop, Array.toArray_toList]
    exact hh
  · have h1 := Nat.mul_le_mul_right d.sz hnc
    have h2 : cur.toList.length = c * d.sz := by rw [← hcs]; exact Array.length_toList
    rw [List.length_drop, h2]
    omega
theorem FlatK.mkOwn (F : FlatK d enc) {e : Nat} {W : World} {base g c : Nat} {ok : Nat → Prop} {xs : List α} {sp : List Value} (hb : base ≤ g) (hok : ok g) (hg : W.heap[g]? = some (.cells (flatL enc xs ++ sp).toArray e (0, 0))) (hn : xs.length ≤ c) (hm : c ≤ maxLen) (hs : xs.length * d.sz + sp.length = c * d.sz) :
    d.R e W base ok (.slice (some ⟨g, 0, none⟩) xs.length c) xs := by
  refine ⟨fun k hk => by obtain rfl := Option.some.inj hk; exact hok, flatL enc xs, ⟨F.length xs, .inr ⟨g, c, _, rfl, hb, hg, hn, hm, ?_, ?_⟩⟩, F.reps _ _ _ xs⟩
  · rw [List.size_toArray, List.length_append, F.length xs, hs]
  · show (flatL enc xs ++ sp).take (xs.length * d.sz) = _
    rw [← F.length xs]
    exact List.take_left
theorem flat_cells {W : World} {g e off : Nat} {L : List Value} (hg : W.heap[g]? = some (.cells L.toArray e (0, 0))) {cs : List Value} (h : ∀ j v, cs[j]? = some v → L[off + j]? = some v) : ∀ j v, cs[j]? = some v → W.cell? ((⟨g, off, none⟩ : Addr).add j) = some v := fun j v hj => by
  have hadd : (⟨g, off, none⟩ : Addr).add j = ⟨g, off + j, none⟩ := by unfold Addr.add; split <;> simp_all
  rw [hadd, blk_cell hg]
  simpa using h j v hj
theorem splice_len {α : Type} (L : List α) (off : Nat) (cs : List α) (h : off + cs.length ≤ L.length) : (splice L off cs).length = L.length := length_splice L off cs h
theorem splice_ins {A X B S : List Value} {k m : Nat} (hA : A.length = k) (hX : X.length = m) (hS : m ≤ S.length) :
    splice (splice (A ++ B ++ S) (k + m) B) k X = A ++ X ++ B ++ S.drop m := by
  subst hA; subst hX
  have e1 : splice (A ++ B ++ S) (A.length + X.length) B = (A ++ B ++ S).take (A.length + X.length) ++ (B ++ S.drop X.length) := by
    unfold splice
    congr 2
    rw [show A.length + X.length + B.length = (A ++ B).length + X.length by rw [List.length_append]; omega, ← List.drop_drop, List.drop_left]
  have hl : ((A ++ B ++ S).take (A.length + X.length)).length = A.length + X.length := by
    rw [List.length_take, List.length_append, List.length_append]
    omega
  rw [e1]
  unfold splice
  have e2 : ((A ++ B ++ S).take (A.length + X.length) ++ (B ++ S.drop X.length)).take A.length = A := by
    rw [List.take_append_of_le_length (by omega), List.take_take, Nat.min_eq_left (by omega), List.append_assoc, List.take_left]
  have e3 : ((A ++ B ++ S).take (A.length + X.length) ++ (B ++ S.drop X.length)).drop (A.length + X.length) = B ++ S.drop X.length := by
    exact List.drop_left' hl
  rw [e2, e3]
  simp only [List.append_assoc]
theorem splice_new {A X B Z : List Value} {k m : Nat} (hA : A.length = k) (hX : X.length = m) (hZ : m + B.length ≤ Z.length) :
    splice (splice (A ++ Z) k X) (k + m) B = A ++ X ++ B ++ Z.drop (m + B.length) := by
  subst hA; subst hX
  have e1 : splice (A ++ Z) A.length X = A ++ X ++ Z.drop X.length := by
    unfold splice
    rw [List.take_left, ← List.drop_drop, List.drop_left, List.append_assoc]
  rw [e1]
  unfold splice
  rw [show A.length + X.length = (A ++ X).length by rw [List.length_append], List.take_left, ← List.drop_drop, List.drop_left, List.drop_drop, List.append_assoc (A ++ X)]
end
theorem run_copy_rowN {P : Program} (w : World) (dT sT ty elem : TypeId) (g o dLen dCap : Nat) (a : Addr) (sLen sCap : Nat) (cur : Array Value) (t : TypeId) (cs : List Value) (sz : Nat)
    (hu : P.underlying dT = some (.slice elem)) (hs : (P.info? elem).map (·.size) = some sz)
    (hg : w.heap[g]? = some (.cells cur t (0, 0))) (hn : cs.length = Nat.min sLen dLen * sz)
    (hsrc : ∀ j v, cs[j]? = some v → w.cell? (a.add j) = some v) (hfit : o + cs.length ≤ cur.size) (h1 : ∀ v ∈ cs, v.oneCell' = true) :
    (Builtin.copy_ #[dT, sT] ty #[.slice (some ⟨g, o, none⟩) dLen dCap, .slice (some a) sLen sCap]).run P w =
      .ok (goInt (Nat.min sLen dLen)) (w.setRow g (cur.toList.take o ++ cs ++ cur.toList.drop (o + cs.length)).toArray) := by
  have hl := run_loadCells_list (P := P) w a cs hsrc
  have hst := run_storeCells_at P g o t cs 0 cur w hg (by simpa using hfit) h1
  cases hq : P.info? elem with
  | none => simp [hq] at hs
  | some i =>
    have hi : i.size = sz := by simpa [hq] using hs
    rw [hn] at hl
    simp [Builtin.copy_, run_underlying hu, Builtin.lenOf, Builtin.firstCells, sizeOf, typeInfo, hq, hi, hl, hst]
theorem run_copy_noneN {P : Program} (w : World) (dT sT ty elem : TypeId) (d a : Option Addr) (dLen dCap sLen sCap sz : Nat) (hu : P.underlying dT = some (.slice elem)) (hs : (P.info? elem).map (·.size) = some sz) (hn : Nat.min sLen dLen = 0) :
    (Builtin.copy_ #[dT, sT] ty #[.slice d dLen dCap, .slice a sLen sCap]).run P w = .ok (goInt 0) w := by
  cases hq : P.info? elem with
  | none => simp [hq] at hs
  | some i =>
    have hl : ∀ (x : Addr), (loadCells x 0).run P w = .ok #[] w := fun x => by simpa using run_loadCells_list (P := P) w x [] (by simp)
    cases d <;> cases a <;> simp [Builtin.copy_, run_underlying hu, Builtin.lenOf, Builtin.firstCells, sizeOf, typeInfo, hq, hn, storeCells, hl]
theorem step_copyN {P : Program} {o : Oper} {a : Act} {w : World} {K : Act → World → Prop} {Q : Exit → Act → World → Prop} (d s : Operand) (dT sT : TypeId)
    (ho : o.op = .call { callee := .builtin .copy, args := #[d, s], argTypes := #[dT, sT] }) (elem : TypeId) (sz : Nat) (hu : P.underlying dT = some (.slice elem)) (hsz : (P.info? elem).map (·.size) = some sz)
    (dp sp : Option Addr) (dLen dCap sLen sCap : Nat) (hd : a.eval d = .slice dp dLen dCap) (hs : a.eval s = .slice sp sLen sCap)
    (g off : Nat) (cur : List Value) (t : TypeId) (hg : w.heap[g]? = some (.cells cur.toArray t (0, 0))) (cs : List Value) (hn : cs.length = Nat.min sLen dLen * sz)
    (hpos : 0 < Nat.min sLen dLen → dp = some ⟨g, off, none⟩ ∧ ∃ ad, sp = some ad ∧ ∀ j v, cs[j]? = some v → w.cell? (ad.add j) = some v)
    (hfit : off + cs.length ≤ cur.length) (h1 : ∀ v ∈ cs, v.oneCell' = true) (B : Nat) (w0 : World) (hb : RowKit.Below B w0 w) (hBg : B ≤ g)
    (h : ∀ w', RowKit.Hid (w'.heap[g]? = some (.cells (splice cur off cs).toArray t (0, 0))) → RowKit.Below B w0 w' → (∀ b, b ≠ g → w'.heap[b]? = w.heap[b]?) → K (a.put o.dst (goInt (Nat.min sLen dLen))) w') :
    Oper.wp P o a w K Q := by
  by_cases h0 : Nat.min sLen dLen = 0
  · obtain rfl : cs = [] := List.eq_nil_of_length_eq_zero (by rw [hn, h0, Nat.zero_mul])
    have hrun := run_copy_noneN (P := P) w dT sT o.type elem dp sp dLen dCap sLen sCap sz hu hsz h0
    unfold Oper.wp
    simp [execOp, ho, resolve, invoke, builtin, hd, hs, hrun, Result.andThen]
    have := h w (show _ = _ by simpa [splice] using hg) hb (fun _ _ => rfl)
    rw [h0] at this
    exact this
  · obtain ⟨rfl, ad, rfl, hsrc⟩ := hpos (by omega)
    have hrun := run_copy_rowN (P := P) w dT sT o.type elem g off dLen dCap ad sLen sCap cur.toArray t cs sz hu hsz hg hn hsrc (by simpa using hfit) h1
    unfold Oper.wp
    simp [execOp, ho, resolve, invoke, builtin, hd, hs, hrun, Result.andThen]
    exact h _ (show _ = _ by simpa [splice] using setRow_heap w g _ _ t _ hg) (below_setRow hb hBg _) (fun b hb => setRow_other w g b _ hb)
theorem step_copyW {P : Program} {ops : Array Oper} {o : Oper} {a : Act} {w : World} {K : Act → World → Prop} {Q : Exit → Act → World → Prop} {E : Prop} (hgd : o.guard = none) (d s : Operand) (dT sT : TypeId)
    (ho : o.op = .call { callee := .builtin .copy, args := #[d, s], argTypes := #[dT, sT] }) (elem : TypeId) (sz : Nat) (hu : P.underlying dT = some (.slice elem)) (hsz : (P.info? elem).map (·.size) = some sz)
    (dp sp : Option Addr) (dLen dCap sLen sCap : Nat) (hd : a.eval d = .slice dp dLen dCap) (hs : a.eval s = .slice sp sLen sCap)
    (g off : Nat) (cur : List Value) (t : TypeId) (hg : w.heap[g]? = some (.cells cur.toArray t (0, 0))) (cs : List Value) (hn : cs.length = Nat.min sLen dLen * sz)
    (hpos : 0 < Nat.min sLen dLen → dp = some ⟨g, off, none⟩ ∧ ∃ ad, sp = some ad ∧ ∀ j v, cs[j]? = some v → w.cell? (ad.add j) = some v)
    (hfit : off + cs.length ≤ cur.length) (h1 : ∀ v ∈ cs, v.oneCell' = true) (B : Nat) (w0 : World) (hb : RowKit.Below B w0 w) (hBg : B ≤ g)
    (h : ∀ w', RowKit.Hid (w'.heap[g]? = some (.cells (splice cur off cs).toArray t (0, 0))) → RowKit.Below B w0 w' → (∀ b, b ≠ g → w'.heap[b]? = w.heap[b]?) → K (a.put o.dst (goInt (Nat.min sLen dLen))) w') :
    if Region.wanted o (yielded ops a.tmps) = true then Oper.wp P o a w K Q else E := by
  have hw : Region.wanted o (yielded ops a.tmps) = true := by simp [Region.wanted, hgd]
  rw [if_pos hw]
  exact step_copyN d s dT sT ho elem sz hu hsz dp sp dLen dCap sLen sCap hd hs g off cur t hg cs hn hpos hfit h1 B w0 hb hBg h
theorem wpList_copyN {P : Program} {w : World} {ops : Array Oper} {rest : List Oper} {o : Oper} {a : Act} {Q : Exit → Act → World → Prop} (hgd : o.guard = none) (d s : Operand) (dT sT : TypeId)
    (ho : o.op = .call { callee := .builtin .copy, args := #[d, s], argTypes := #[dT, sT] }) (elem : TypeId) (sz : Nat) (hu : P.underlying dT = some (.slice elem)) (hsz : (P.info? elem).map (·.size) = some sz)
    (dp sp : Option Addr) (dLen dCap sLen sCap : Nat) (hd : a.eval d = .slice dp dLen dCap) (hs : a.eval s = .slice sp sLen sCap)
    (g off : Nat) (cur : List Value) (t : TypeId) (hg : w.heap[g]? = some (.cells cur.toArray t (0, 0))) (cs : List Value) (hn : cs.length = Nat.min sLen dLen * sz)
    (hpos : 0 < Nat.min sLen dLen → dp = some ⟨g, off, none⟩ ∧ ∃ ad, sp = some ad ∧ ∀ j v, cs[j]? = some v → w.cell? (ad.add j) = some v)
    (hfit : off + cs.length ≤ cur.length) (h1 : ∀ v ∈ cs, v.oneCell' = true) (B : Nat) (w0 : World) (hb : RowKit.Below B w0 w) (hBg : B ≤ g)
    (h : ∀ w', RowKit.Hid (w'.heap[g]? = some (.cells (splice cur off cs).toArray t (0, 0))) → RowKit.Below B w0 w' → (∀ b, b ≠ g → w'.heap[b]? = w.heap[b]?) → wpList P ops Q rest (a.put o.dst (goInt (Nat.min sLen dLen))) w') :
    wpList P ops Q (o :: rest) a w := by
  refine wpList_plain hgd fun K hK => ?_
  exact step_copyN d s dT sT ho elem sz hu hsz dp sp dLen dCap sLen sCap hd hs g off cur t hg cs hn hpos hfit h1 B w0 hb hBg (fun w' h1 h2 h3 => hK _ _ (h w' h1 h2 h3))
def cmpJ (a b : Int) : Int := if a < b then -1 else if b < a then 1 else 0
theorem cmpJ_lt (a b : Int) : decide (cmpJ a b < 0) = decide (a < b) := by unfold cmpJ; (repeat' split) <;> simp <;> omega
theorem cmpJ_eq (a b : Int) : (cmpJ a b == 0) = decide (a = b) := by unfold cmpJ; (repeat' split) <;> simp <;> omega
theorem isnanJ_is (a : Int) (w : World) : Calls Try.prog 37 #[.int .i64 a] w fun e w' => e = .returned (.bool false) ∧ w' = w := by
  go_enter Try.func37, Try.ntmps37
  go_wp2
  repeat (go_quiet (fail); try go_wp2)
  go_ret
  exact ⟨rfl, rfl⟩
theorem cmpJ_is (a b : Int) (w : World) : Calls Try.prog 31 #[.int .i64 a, .int .i64 b] w fun e w' => e = .returned (.int .i64 (cmpJ a b)) ∧ w' = w := by
  unfold cmpJ
  by_cases h : a < b
  · have hd : decide (a < b) = true := decide_eq_true h
    rw [if_pos h]
    clear h
    go_enter Try.func31, Try.ntmps31
    go_wp2_with (go_at_call 37; refine (isnanJ_is _ _).mono ?_; rintro e w' ⟨rfl, rfl⟩)
    go_ret
    exact ⟨rfl, rfl⟩
  · have hd : decide (a < b) = false := decide_eq_false h
    rw [if_neg h]
    clear h
    by_cases h : b < a
    · have hd2 : decide (b < a) = true := decide_eq_true h
      rw [if_pos h]
      clear h
      go_enter Try.func31, Try.ntmps31
      go_wp2_with (go_at_call 37; refine (isnanJ_is _ _).mono ?_; rintro e w' ⟨rfl, rfl⟩)
      go_ret
      exact ⟨rfl, rfl⟩
    · have hd2 : decide (b < a) = false := decide_eq_false h
      rw [if_neg h]
      clear h
      go_enter Try.func31, Try.ntmps31
      go_wp2_with (go_at_call 37; refine (isnanJ_is _ _).mono ?_; rintro e w' ⟨rfl, rfl⟩)
      go_ret
      exact ⟨rfl, rfl⟩
theorem find1_is (n : Int) (x : S24) (w : World) :
    Calls Try.prog 30 #[.agg #[.int .i64 x.f0, .int .i64 x.f1], .int .i64 n] w fun e w' => e = .returned (.int .i64 (cmpJ x.f0 n)) ∧ Below w.heap.size w w' := by
  go_enter Try.func30, Try.ntmps30
  have hb := below_alloc (Below.refl w.heap.size w) (.cells #[.int .i64 x.f0, .int .i64 x.f1] 24)
  go_wp2_with (go_at_call 31; refine (cmpJ_is _ _ _).mono ?_; rintro e w' ⟨rfl, rfl⟩)
  go_ret
  exact ⟨rfl, hb⟩
theorem i64_small (a : Int) (h0 : 0 ≤ a) (h1 : a < 9223372036854775808) : IntKind.i64.wrap a = a := by rw [i64_w]; unfold wrap64; omega
theorem w64_small (a : Int) (h0 : 0 ≤ a) (h1 : a < 9223372036854775808) : wrap64 a = a := by unfold wrap64; omega
theorem u64_small (a : Int) (h0 : 0 ≤ a) (h1 : a < 9223372036854775808) : IntKind.u64.wrap a = a := by
  simp [IntKind.wrap, IntKind.bits, IntKind.signed]
  omega
def bsF (l : List S24) (n : Int) : Nat → Nat → Nat → Nat
  | 0, i, _ => i
  | k + 1, i, j => if i < j then (if (rd_T24 l (((i + j) / 2 : Nat) : Int)).f0 < n then bsF l n k ((i + j) / 2 + 1) j else bsF l n k i ((i + j) / 2)) else i
theorem bsF_le (l : List S24) (n : Int) : ∀ k i j, i ≤ j → bsF l n k i j ≤ j
  | 0, i, j, h => h
  | k + 1, i, j, h => by
    unfold bsF
    split
    · split
      · exact bsF_le l n k _ _ (by omega)
      · exact Nat.le_trans (bsF_le l n k _ _ (by omega)) (by omega)
    · exact h
set_option maxRecDepth 100000 in
set_option maxHeartbeats 4000000 in
theorem search_is (A0 : Option Addr) (c0 : Nat) (l0 : List S24) (n : Int) (hL : l0.length ≤ 4611686018427387903) (w : World) (hr0 : Kd.C k24 w A0 l0.length l0) (hc0 : l0.length ≤ c0) :
    Calls Try.prog 29 #[.slice A0 l0.length c0, .int .i64 n, .func (.func 30) #[] #[]] w fun e w' => e = .returned (.tuple #[.int .i64 (bsF l0 n l0.length 0 l0.length : Nat), .bool (decide (bsF l0 n l0.length 0 l0.length < l0.length ∧ (rd_T24 l0 ((bsF l0 n l0.length 0 l0.length : Nat) : Int)).f0 = n))]) ∧ Below w.heap.size w w' := by
  have HR0 := Aside0.mk hr0
  have HL := Aside0.mk hL
  obtain ⟨r, hr⟩ : ∃ r, bsF l0 n l0.length 0 l0.length = r := ⟨_, rfl⟩
  rw [hr]
  have H0 := Aside0.mk hr
  have HRL := Aside0.mk (show r ≤ l0.length by rw [← hr]; exact bsF_le _ _ _ _ _ (Nat.zero_le _))
  clear hr0 hr hL
  go_enter Try.func29, Try.ntmps29
  go_wp2
  go_loopg [9, 10, 11] l0.length (fun kq v9 v10 v11 w' => ∃ (i j : Nat), v9 = .int .i64 (i : Int) ∧ v10 = .int .i64 (j : Int) ∧ Aside0 (i ≤ j ∧ j ≤ l0.length ∧ kq ≤ l0.length ∧ j - i ≤ kq) ∧ Aside0 (bsF l0 n kq i j = r) ∧ Aside0 (Below w.heap.size w w'))
  case atStart => exact ⟨0, l0.length, rfl, rfl, ⟨by omega⟩, H0, ⟨Below.refl _ _⟩⟩
  case round =>
    clear H0
    obtain ⟨i, j, rfl, rfl, HI, HA, Hb⟩ := hrel
    by_cases hij : i < j
    · have hd : decide ((i : Int) < (j : Int)) = true := decide_eq_true (by omega)
      have hdn : decide (i < j) = true := decide_eq_true hij
      cases gk with
      | zero => exact absurd HI.out (by omega)
      | succ k1 =>
      have ha := HA.out
      simp only [bsF] at ha
      rw [if_pos hij] at ha
      have hL2 := HL.out
      have hI2 := HI.out
      obtain ⟨h, hh⟩ : ∃ h, (i + j) / 2 = h := ⟨_, rfl⟩
      rw [hh] at ha
      have hhl : h < l0.length := by omega
      have HII : Aside0 (i ≤ h ∧ h < j ∧ j - i ≤ k1 + 1 ∧ j ≤ l0.length ∧ k1 + 1 ≤ l0.length) := ⟨by omega⟩
      have p0 : (0 : Int) ≤ (h : Int) := by omega
      have q0 : (h : Int) < (l0.length : Int) := by omega
      have b1 : (0 : Int) ≤ (i : Int) + (j : Int) ∧ (i : Int) + (j : Int) < 9223372036854775808 ∧ (h : Int) < 9223372036854775808 ∧ (0 : Int) ≤ (h : Int) + 1 ∧ (h : Int) + 1 < 9223372036854775808 := by omega
      have wh : ((i : Int) + (j : Int)) / 2 = (h : Int) := by omega
      have w1 := i64_small ((i : Int) + (j : Int)) b1.1 b1.2.1
      have wu := u64_small ((i : Int) + (j : Int)) b1.1 b1.2.1
      have w3 := w64_small (h : Int) p0 b1.2.2.1
      have wh1 := i64_small ((h : Int) + 1) b1.2.2.2.1 b1.2.2.2.2
      clear b1
      obtain ⟨ad, ead, hx0, hx1⟩ := at_T24 (Kd.C_below HR0.out Hb.out) (h : Int) p0 q0
      cases ead
      simp only [Int.toNat_natCast] at hx0 hx1
      generalize rd_T24 l0 (h : Int) = x at *
      replace p0 := eq_true p0
      replace q0 := eq_true q0
      clear HA hh hij hI2 hL2
      by_cases c1 : x.f0 < n
      · rw [if_pos c1] at ha
        have HA2 := Aside0.mk ha
        have d1 : decide (cmpJ x.f0 n < 0) = true := by rw [cmpJ_lt]; exact decide_eq_true c1
        clear ha c1
        go_wp2_with (go_at_call 30; refine (find1_is n x _).mono ?_; rintro e w5 ⟨rfl, hb5⟩; have Hb5 := Aside0.mk (below_step Hb.out hb5); clear hb5)
        go_roundg k1
        case measure => omega
        case rel => exact ⟨h + 1, j, by go_num, rfl, ⟨by have := HII.out; omega⟩, HA2, Hb5⟩
      · rw [if_neg c1] at ha
        have HA2 := Aside0.mk ha
        have d1 : decide (cmpJ x.f0 n < 0) = false := by rw [cmpJ_lt]; exact decide_eq_false c1
        clear ha c1
        go_wp2_with (go_at_call 30; refine (find1_is n x _).mono ?_; rintro e w5 ⟨rfl, hb5⟩; have Hb5 := Aside0.mk (below_step Hb.out hb5); clear hb5)
        go_roundg k1
        case measure => omega
        case rel => exact ⟨i, h, rfl, by first | rfl | go_num, ⟨by have := HII.out; omega⟩, HA2, Hb5⟩
    · have hd : decide ((i : Int) < (j : Int)) = false := decide_eq_false (by omega)
      have hdn : decide (i < j) = false := decide_eq_false hij
      have hr : i = r := by
        have ha := HA.out
        cases gk with
        | zero => exact ha
        | succ k1 =>
          simp only [bsF] at ha
          rw [if_neg hij] at ha
          exact ha
      subst hr
      have hL2 := HL.out
      have hI2 := HI.out
      clear HA hij
      by_cases hn : i < l0.length
      · have e0 : decide ((i : Int) < (l0.length : Int)) = true := decide_eq_true (by omega)
        have e0n : decide (i < l0.length) = true := decide_eq_true hn
        have p0 : (0 : Int) ≤ (i : Int) := by omega
        have q0 : (i : Int) < (l0.length : Int) := by omega
        obtain ⟨ad, ead, hx0, hx1⟩ := at_T24 (Kd.C_below HR0.out Hb.out) (i : Int) p0 q0
        cases ead
        simp only [Int.toNat_natCast] at hx0 hx1
        obtain ⟨x, hx⟩ : ∃ x, rd_T24 l0 (i : Int) = x := ⟨_, rfl⟩
        rw [hx] at hx0 hx1
        have HX := Aside0.mk hx
        clear hx
        replace p0 := eq_true p0
        replace q0 := eq_true q0
        have d1 : (cmpJ x.f0 n == 0) = decide (x.f0 = n) := cmpJ_eq _ _
        have HN := Aside0.mk hn
        clear hn
        go_wp2_with (go_at_call 30; refine (find1_is n x _).mono ?_; rintro e w5 ⟨rfl, hb5⟩; have Hb5 := Aside0.mk (below_step Hb.out hb5); clear hb5)
        go_ret2
        have hx := HX.out
        have hn := HN.out
        exact ⟨by rw [hx]; first | rfl | (simp [hn]; done), Hb5.out⟩
      · have e0 : decide ((i : Int) < (l0.length : Int)) = false := decide_eq_false (by omega)
        have e0n : decide (i < l0.length) = false := decide_eq_false hn
        have HN := Aside0.mk hn
        clear hn
        go_wp2
        go_ret2
        have hn := HN.out
        exact ⟨by first | rfl | (simp [hn]; done), Hb.out⟩
theorem FlatK.readC {α : Type} {d : Kd α} {enc : α → List Value} (F : FlatK d enc) {W : World} {g e : Nat} {ys : List α} {sp : List Value} (hm : ys.length ≤ maxLen) (hg : W.heap[g]? = some (.cells (flatL enc ys ++ sp).toArray e (0, 0))) :
    Kd.C d W (some ⟨g, 0, none⟩) ys.length ys := by
  refine ⟨rfl, hm, fun _ => ⟨_, rfl, fun j p hj => ?_⟩⟩
  refine ⟨enc p, F.len p, d.K_of_M (F.cel W 0 (fun _ => True) p), fun i u hu => ?_⟩
  have hi : i < d.sz := by
    have := (List.getElem?_eq_some_iff.1 hu).1
    rw [F.len] at this
    exact this
  obtain ⟨hjl, hp⟩ := List.getElem?_eq_some_iff.1 hj
  refine flat_cells hg (cs := (flatL enc ys)) (off := 0) (fun j v hv => ?_) (j * d.sz + i) u ?_
  · rw [Nat.zero_add, List.getElem?_append_left (List.getElem?_eq_some_iff.1 hv).1]
    exact hv
  · have e1 : ys = ys.take j ++ p :: ys.drop (j + 1) := by rw [← hp]; exact (List.take_append_drop j ys).symm.trans (by rw [List.drop_eq_getElem_cons hjl])
    have e2 : (flatL enc (ys.take j)).length = j * d.sz := by rw [F.length, List.length_take, Nat.min_eq_left (by omega)]
    rw [e1, flatL_app, flatL_cons, List.getElem?_append_right (by omega), e2, Nat.add_sub_cancel_left, List.getElem?_append_left (by rw [F.len]; exact hi)]
    exact hu
def encLk (x : S24) : List Value := [.int .i64 x.f0, .int .i64 x.f1]
theorem flatLk : FlatK k24 encLk := ⟨fun W base ok x => k24_mkM W base ok x, fun h => k24_openM h, fun _ => rfl⟩
set_option maxRecDepth 100000 in
set_option maxHeartbeats 4000000 in
theorem insert_end (W w0 : World) (base g c : Nat) (xs : List S24) (x : S24) (vb : Nat) (hR : Kd.R k24 24 W base (fun _ => True) (.slice (some ⟨g, 0, none⟩) xs.length c) xs) (hsm : xs.length ≤ 1000000)
    (hv : W.heap[vb]? = some (.cells #[.int .i64 x.f0, .int .i64 x.f1] 24 (0, 0))) (hB : Below base w0 W) (hbase : base ≤ W.heap.size) :
    Calls Try.prog 23 #[.slice (some ⟨g, 0, none⟩) xs.length c, .int .i64 (xs.length : Int), .slice (some ⟨vb, 0, none⟩) 1 1] W fun e w' => ∃ v, e = .returned v ∧ Kd.R k24 24 w' base (fun _ => True) v (xs ++ [x]) ∧ Below base w0 w' := by
  have HR := Aside0.mk hR
  have HC : Aside0 (Kd.C k24 W (some ⟨vb, 0, none⟩) 1 [x]) := ⟨flatLk.readC (ys := [x]) (sp := []) (by simp [maxLen]) hv⟩
  have HB := Aside0.mk hB
  have HBS := Aside0.mk hbase
  have HS := Aside0.mk hsm
  have p0 : (0 ≤ (xs.length : Int)) = True := eq_true (by omega)
  have q0 : ((xs.length : Int) ≤ (xs.length : Int)) = True := eq_true (by omega)
  have tn : ((xs.length : Int)).toNat = xs.length := by omega
  clear hR hv hB hbase hsm
  go_enter Try.func23, Try.ntmps23
  go_wp2_with (first | ((with_reducible refine gate_builtin (b := .append) (xs := #[.tmp 23, .tmp 24]) rfl ?_); at_builtin; refine Kd.R_append_rows k24 (w0 := w0) base rfl (.tmp 23) (.tmp 24) 22 24 (.agg #[(.int .i64 0), (.int .i64 0)]) 16 rfl Try.underlying22 info24 rfl (by decide) (by omega) _ xs [x] _ _ _ (fun _ => True) (fun _ => False) rfl rfl HR.out HC.out (fun _ _ h => h) (fun _ h => h.elim) (fun _ _ => trivial) HB.out HBS.out (by have := HS.out; omega) ?_; intro v2 w2 ho2 hb2 hg2 hat2; have HO2 := Aside0.mk ho2; have HB2 := Aside0.mk hb2; clear ho2 hb2 hg2 hat2))
  all_goals (go_ret; exact ⟨_, rfl, HO2.out, HB2.out⟩)
theorem encLk_one (x : S24) : ∀ v ∈ encLk x, v.oneCell' = true := fun v hv => by
  simp [encLk] at hv
  rcases hv with rfl | rfl <;> rfl
theorem flat_at {α : Type} {d : Kd α} {enc : α → List Value} (F : FlatK d enc) {xs : List α} {i : Nat} (hi : i ≤ xs.length) (sp : List Value) {j : Nat} {v : Value} (h : (flatL enc (xs.drop i))[j]? = some v) : (flatL enc xs ++ sp)[i * d.sz + j]? = some v := by
  have e1 : flatL enc xs = flatL enc (xs.take i) ++ flatL enc (xs.drop i) := by rw [← flatL_app, List.take_append_drop]
  have e2 : (flatL enc (xs.take i)).length = i * d.sz := by rw [F.length, List.length_take, Nat.min_eq_left hi]
  rw [e1, List.append_assoc, List.getElem?_append_right (by omega), e2, Nat.add_sub_cancel_left, List.getElem?_append_left (List.getElem?_eq_some_iff.1 h).1]
  exact h
set_option maxRecDepth 100000 in
set_option maxHeartbeats 4000000 in
theorem insert_room (W w0 : World) (base g c i : Nat) (xs : List S24) (x : S24) (vb : Nat) (sp : List Value) (hg : W.heap[g]? = some (.cells (flatL encLk xs ++ sp).toArray 24 (0, 0))) (hbg : base ≤ g) (hc : xs.length + 1 ≤ c) (hcm : c ≤ maxLen) (hcs : xs.length * 2 + sp.length = c * 2) (hi : i < xs.length) (hsm : xs.length ≤ 1000000)
    (hv : W.heap[vb]? = some (.cells #[.int .i64 x.f0, .int .i64 x.f1] 24 (0, 0))) (hne : vb ≠ g) (hB : Below base w0 W) :
    Calls Try.prog 23 #[.slice (some ⟨g, 0, none⟩) xs.length c, .int .i64 (i : Int), .slice (some ⟨vb, 0, none⟩) 1 1] W fun e w' => ∃ v, e = .returned v ∧ Kd.R k24 24 w' base (fun _ => True) v (xs.take i ++ x :: xs.drop i) ∧ Below base w0 w' := by
  have HG := Aside0.mk hg
  have HV := Aside0.mk hv
  have HB := Aside0.mk hB
  have hov : ∀ lb cb o, (callFunc 32 #[.slice (some ⟨vb, 0, none⟩) 1 1, .slice (some ⟨g, o, none⟩) lb cb]).run Try.prog W = .ok (.value (.bool false)) W := fun lb cb o => by
    rw [run_callFunc_extern Try.func32 (by kernel_rfl) (by kernel_rfl) (by kernel_rfl) (e := Extern.SlicesOverlaps.overlaps #[22, 22] #[4]) (by kernel_rfl),
      Lib.run_overlaps_apart W 22 4 24 Try.underlying22 2 Try.sizeOf24 ⟨vb, 0, none⟩ ⟨g, o, none⟩ 1 1 lb cb hne 24 24 2 (c * 2) (by simp [World.shape?, HV.out]) (by simp [World.shape?, HG.out]; rw [flatLk.length]; exact hcs) (by omega) (blk_frozen HV.out _) (blk_frozen HV.out _)]
    rfl
  have p0 : (0 ≤ (i : Int)) = True := eq_true (by omega)
  have q0 : ((i : Int) ≤ (xs.length : Int)) = True := eq_true (by omega)
  have q1 : ((i : Int) = (xs.length : Int)) = False := eq_false (by omega)
  have e1 : ((i : Int) == (xs.length : Int)) = false := beq_eq_false_iff_ne.mpr (by omega)
  have kc : (c = i) = False := eq_false (by omega)
  have n0 : (xs.length = 0) = False := eq_false (by omega)
  have b1 : (0 : Int) ≤ (xs.length : Int) + 1 ∧ (xs.length : Int) + 1 < 9223372036854775808 ∧ (0 : Int) ≤ (i : Int) + 1 ∧ (i : Int) + 1 < 9223372036854775808 := by omega
  have d1 : decide ((c : Int) < (xs.length : Int) + 1) = false := decide_eq_false (by omega)
  have q2 : (0 ≤ (xs.length : Int) + 1) = True := eq_true (by omega)
  have q3 : ((xs.length : Int) + 1 ≤ (c : Int)) = True := eq_true (by omega)
  have t3 : ((xs.length : Int) + 1).toNat = xs.length + 1 := by omega
  have q4 : (0 ≤ (i : Int) + 1) = True := eq_true (by omega)
  have q5 : ((i : Int) + 1 ≤ (xs.length : Int) + 1) = True := eq_true (by omega)
  have q6 : ((i : Int) ≤ (xs.length : Int) + 1) = True := eq_true (by omega)
  have t4 : ((i : Int) + 1).toNat = i + 1 := by omega
  have kc2 : (c = i + 1) = False := eq_false (by omega)
  have HN := Aside0.mk (And.intro hi (And.intro hc (And.intro hcm (And.intro hcs hsm))))
  have w1 := i64_small ((xs.length : Int) + 1) b1.1 b1.2.1
  have w2 := i64_small ((i : Int) + 1) b1.2.2.1 b1.2.2.2
  clear b1 hi hc hcm hcs hsm hv hB
  go_enter Try.func23, Try.ntmps23
  go_wp2
  refine start_ (n := 9) (S := fun _ => True) (ds := [8]) #[false,false,false,false,false,false,false,false,false] (by kernel_rfl) rfl rfl trivial (fun _ => ?_)
  refine pure_ (i := 0) (N := some 69) (v := ?_) (a' := ?_) #[true,false,false,false,false,false,false,false,false] rfl rfl (by kernel_rfl) (fun _ _ _ h => h) (Or.inl ⟨by rfl, ?_⟩) ?_ ?_
  rotate_left
  · intro w'
    go_simp
    with_reducible rfl
  rotate_left
  · simp only [sP]
    rfl
  refine pure_ (i := 1) (N := some 70) (v := ?_) (a' := ?_) #[true,true,false,false,false,false,false,false,false] rfl rfl (by kernel_rfl) (fun _ _ _ h => h) (Or.inl ⟨by rfl, ?_⟩) ?_ ?_
  rotate_left
  · intro w'
    go_simp
    with_reducible rfl
  rotate_left
  · simp only [sP]
    rfl
  refine pure_ (i := 2) (N := some 71) (v := ?_) (a' := ?_) #[true,true,true,false,false,false,false,false,false] rfl rfl (by kernel_rfl) (fun _ _ _ h => h) (Or.inl ⟨by rfl, ?_⟩) ?_ ?_
  rotate_left
  · intro w'
    go_simp
    with_reducible rfl
  rotate_left
  · simp only [sP]
    rfl
  refine pure_ (i := 3) (N := some 72) (v := ?_) (a' := ?_) #[true,true,true,true,false,false,false,false,false] rfl rfl (by kernel_rfl) (fun _ _ _ h => h) (Or.inl ⟨by rfl, ?_⟩) ?_ ?_
  rotate_left
  · intro w'
    go_simp
    with_reducible rfl
  rotate_left
  · simp only [sP]
    rfl
  refine pure_ (i := 4) (N := some 73) (v := ?_) (a' := ?_) #[true,true,true,true,true,false,false,false,false] rfl rfl (by kernel_rfl) (fun _ _ _ h => h) (Or.inl ⟨by rfl, ?_⟩) ?_ ?_
  rotate_left
  · intro w'
    go_simp
    with_reducible rfl
  rotate_left
  · simp only [sP]
    rfl
  refine pure_ (i := 5) (N := some 74) (v := ?_) (a' := ?_) #[true,true,true,true,true,true,false,false,false] rfl rfl (by kernel_rfl) (fun _ _ _ h => h) (Or.inl ⟨by rfl, ?_⟩) ?_ ?_
  rotate_left
  · intro w'
    go_simp
    with_reducible rfl
  rotate_left
  · simp only [sP]
    rfl
  refine pure_ (i := 6) (N := some 75) (v := ?_) (a' := ?_) #[true,true,true,true,true,true,true,false,false] rfl rfl (by kernel_rfl) (fun _ _ _ h => h) (Or.inl ⟨by rfl, ?_⟩) ?_ ?_
  rotate_left
  · intro w'
    go_simp
    with_reducible rfl
  rotate_left
  · simp only [sP]
    rfl
  refine pure_ (i := 7) (N := some 76) (v := ?_) (a' := ?_) #[true,true,true,true,true,true,true,true,false] rfl rfl (by kernel_rfl) (fun _ _ _ h => h) (Or.inl ⟨by rfl, ?_⟩) ?_ ?_
  rotate_left
  · intro w'
    go_simp
    with_reducible rfl
  rotate_left
  · simp only [sP]
    rfl
  refine last_ (i := 8) (N := some 77) #[true,true,true,true,true,true,true,true,true] rfl rfl (by kernel_rfl) (by decide) (fun K hK => ?_)
  refine step_copyW rfl (.tmp 73) (.tmp 76) 22 22 rfl 24 2 Try.underlying22 (by kernel_rfl) _ _ _ _ _ _ rfl rfl g ((i + 1) * 2) (flatL encLk xs ++ sp) 24 HG.out (flatL encLk (xs.drop i)) ?hn ?hpos ?hfit (flatLk.one W _) base w0 (below_drew1 HB.out) hbg ?_
  case hn =>
    have := HN.out
    rw [flatLk.length, List.length_drop]
    show (xs.length - i) * 2 = min _ _ * 2
    omega
  case hpos => exact fun _ => ⟨rfl, _, rfl, flat_cells (W := W.drew) HG.out (fun j v hv => flat_at flatLk (show i ≤ xs.length by have := HN.out; omega) sp hv)⟩
  case hfit =>
    have := HN.out
    rw [List.length_append, flatLk.length, flatLk.length, List.length_drop]
    show (i + 1) * 2 + (xs.length - i) * 2 ≤ xs.length * 2 + sp.length
    omega
  intro w4 hg4 hb4 hk4
  refine hK _ _ (done_ (by kernel_rfl) ?_)
  have HG4 := Aside0.mk hg4.out
  have HB4 := Aside0.mk hb4
  have HV4 : Aside0 (w4.heap[vb]? = some (.cells #[.int .i64 x.f0, .int .i64 x.f1] 24 (0, 0))) := ⟨(hk4 vb hne).trans HV.out⟩
  clear hg4 hb4 hk4 hov
  have HF4 : Aside0 ((i + 1) * 2 + (flatL encLk (xs.drop i)).length ≤ (flatL encLk xs ++ sp).length) := ⟨by
    have := HN.out
    rw [List.length_append, flatLk.length, flatLk.length, List.length_drop]
    show (i + 1) * 2 + (xs.length - i) * 2 ≤ xs.length * 2 + sp.length
    omega⟩
  have HF5 : Aside0 (i * 2 + (encLk x).length ≤ (flatL encLk xs ++ sp).length) := ⟨by
    have := HN.out
    rw [List.length_append, flatLk.length]
    show i * 2 + 2 ≤ xs.length * 2 + sp.length
    omega⟩
  go_wp2_with ((with_reducible refine gate_builtin (b := .copy) (xs := #[.tmp 80, .tmp 81]) rfl ?_); refine wpList_copyN rfl (.tmp 80) (.tmp 81) 22 22 rfl 24 2 Try.underlying22 (by kernel_rfl) _ _ _ _ _ _ rfl rfl g (i * 2) (splice (flatL encLk xs ++ sp) ((i + 1) * 2) (flatL encLk (xs.drop i))) 24 HG4.out (encLk x) ?hn2 ?hpos2 ?hfit2 ?hone2 base w0 HB4.out hbg ?_; (case hn2 => have := HN.out; show 2 = min 1 (xs.length + 1 - i) * 2; omega); (case hpos2 => exact fun _ => ⟨rfl, _, rfl, flat_cells (L := encLk x) (off := 0) HV4.out (fun j v hj => by rw [Nat.zero_add]; exact hj)⟩); (case hfit2 => rw [splice_len _ _ _ HF4.out]; exact HF5.out); (case hone2 => exact encLk_one x); intro w5 hg5 hb5 hk5; have HG5 := Aside0.mk hg5.out; have HB5 := Aside0.mk hb5; clear hg5 hb5 hk5)
  go_ret
  have hn := HN.out
  have hins := splice_ins (A := flatL encLk (xs.take i)) (X := encLk x) (B := flatL encLk (xs.drop i)) (S := sp) (k := i * 2) (m := 2) (by rw [flatLk.length, List.length_take, Nat.min_eq_left (by omega)]; rfl) rfl (by omega)
  rw [← flatL_app, List.take_append_drop, show i * 2 + 2 = (i + 1) * 2 by omega] at hins
  have hg5 := HG5.out
  rw [hins, show flatL encLk (xs.take i) ++ encLk x ++ flatL encLk (xs.drop i) = flatL encLk (xs.take i ++ x :: xs.drop i) by rw [flatL_app, flatL_cons, List.append_assoc]] at hg5
  have hl : (xs.take i ++ x :: xs.drop i).length = xs.length + 1 := by
    rw [List.length_append, List.length_cons, List.length_take, List.length_drop, Nat.min_eq_left (by omega)]
    omega
  have hR := flatLk.mkOwn (ok := fun _ => True) hbg trivial hg5 (by omega) hn.2.2.1 (show (xs.take i ++ x :: xs.drop i).length * 2 + (sp.drop 2).length = c * 2 by rw [hl, List.length_drop]; omega)
  rw [hl] at hR
  exact ⟨_, rfl, hR, HB5.out⟩
theorem run_append_fresh {P : Program} (w : World) (t ti ty e : TypeId) (i : TypeInfo) (z : Value) (size bytes : Nat) (ht : P.underlying t = some (.slice e)) {k : IntKind} (hti : P.underlying ti = some (.int k)) (hi : P.info? e = some i) (hz : i.zero = some z)
    (hsize : i.size = size) (hby : i.bytes = bytes) (hzs : z.cells.size = size) (hsz : 0 < size) (hb0 : 0 < bytes)
    (g n cap : Nat) (L : List Value) (hg : w.heap[g]? = some (.cells L.toArray e (0, 0))) (hL : n * size ≤ L.length) (kx : IntKind) (m : Nat) (hm : m ≠ 0) (hbytes : (n + m) * bytes ≤ 140737488355328) (hcap : cap < n + m) :
    ∃ c Z, (Builtin.append_ #[t, ti] ty #[.slice (some ⟨g, 0, none⟩) n cap, .int kx m]).run P w = .ok (.slice (some ⟨w.heap.size, 0, none⟩) (n + m) c) (w.drew.alloc (.cells (L.take (n * size) ++ Z).toArray e)) ∧
      n + m ≤ c ∧ c ≤ maxLen ∧ n * size + Z.length = c * size := by
  subst hsize
  subst hby
  have hle : n + m ≤ 140737488355328 := Nat.le_trans (Nat.le_mul_of_pos_right _ hb0) hbytes
  have h63 : n + m ≤ maxLen := by simp only [maxLen]; omega
  have hw : IntKind.i64.wrap (m : Int) = m := by rw [IntKind.wrap_i64]; omega
  have hneg : ¬ ((m : Int) < 0) := by omega
  have hmb : m * i.bytes ≤ 140737488355328 := Nat.le_trans (Nat.mul_le_mul_right _ (Nat.le_add_left m n)) hbytes
  have hbig : ¬ (281474976710656 < (m : Int) * (i.bytes : Int)) := by
    rw [← Int.natCast_mul]
    omega
  have hsn : i.size ≠ 0 := by omega
  have hl : (Builtin.zeroCells z.cells m).size = m * i.size := by rw [size_zeroCells, hzs]
  have htl : (L.take (n * i.size)).length = n * i.size := by rw [List.length_take, Nat.min_eq_left hL]
  have hfo : (Builtin.firstCells i.size n (.slice (some ⟨g, 0, none⟩) n cap)).run P w.drew = .ok (L.take (n * i.size)).toArray w.drew := by
    refine run_firstCells_some (P := P) w.drew i.size n _ n cap (L.take (n * i.size)) htl (fun j u hj => ?_)
    have hadd : (⟨g, 0, none⟩ : Addr).add j = ⟨g, j, none⟩ := by unfold Addr.add; split <;> simp_all
    rw [hadd]
    have := flat_cells (W := w) hg (cs := L.take (n * i.size)) (off := 0) (fun j v hv => by
      rw [Nat.zero_add]
      rw [List.getElem?_take] at hv
      split at hv
      · exact hv
      · cases hv) j u hj
    rw [show (⟨g, 0, none⟩ : Addr).add j = ⟨g, j, none⟩ from hadd] at this
    exact this
  have hn : ¬ (n + m ≤ cap) := by omega
  have h63' : ¬ (9223372036854775807 < ((n : Int) + (m : Int))) := by omega
  have hfit := growslice_fits hcap hbytes
  have h48' : ¬ (281474976710656 < Builtin.nextslicecap (n + m) cap * i.bytes) := by omega
  have hmz : ¬ (m * i.size = 0) := Nat.mul_ne_zero hm hsn
  refine ⟨grownCap w (n + m) cap e, (Builtin.zeroCells z.cells m).toList ++ (Builtin.zeroCells z.cells (grownCap w (n + m) cap e - (n + m))).toList, ?_, grownCap_ge w (n + m) cap e, grownCap_le_maxLen w (n + m) cap e h63, ?_⟩
  · simp [Builtin.append_, run_underlying ht, run_underlying hti, sizeOf, typeInfo, zeroValue, hi, hz, asInt, asIntOf, hw, hneg, hbig, hn, h63', h48', Question.forced, hfo, newRow, grownCap, hmz]
    try (congr 2; apply Array.ext'; simp [List.append_assoc])
  · have := grownCap_ge w (n + m) cap e
    rw [List.length_append, Array.length_toList, Array.length_toList, hl, size_zeroCells, hzs, ← Nat.add_assoc, ← Nat.add_mul, ← Nat.add_mul]
    congr 1
    omega
theorem wpList_append_fresh {P : Program} {ops : Array Oper} {o : Oper} {rest : List Oper} {a : Act} {Q : Exit → Act → World → Prop} {w : World} (hgd : o.guard = none) (s x : Operand) (t ti e : TypeId) (z : Value) (size bytes : Nat)
    (ho : o.op = .call { callee := .builtin .append, args := #[s, x], argTypes := #[t, ti] })
    (ht : P.underlying t = some (.slice e)) {k : IntKind} (hti : P.underlying ti = some (.int k)) (hinfo : (P.info? e).map (fun i => (i.zero, i.size, i.bytes)) = some (some z, size, bytes)) (hzs : z.cells.size = size) (hsz : 0 < size) (hb0 : 0 < bytes)
    (g n cap : Nat) (L : List Value) (hg : w.heap[g]? = some (.cells L.toArray e (0, 0))) (hL : n * size ≤ L.length) (kx : IntKind) (m : Nat) (hs : a.eval s = .slice (some ⟨g, 0, none⟩) n cap) (hx : a.eval x = .int kx m) (hm : m ≠ 0) (hbytes : (n + m) * bytes ≤ 140737488355328) (hcap : cap < n + m)
    (B : Nat) (w0 : World) (hb : Below B w0 w) (hBs : B ≤ w.heap.size)
    (h : ∀ w' c Z, Aside0 (w'.heap[w.heap.size]? = some (.cells (L.take (n * size) ++ Z).toArray e (0, 0))) → n + m ≤ c → c ≤ maxLen → n * size + Z.length = c * size → Below B w0 w' → (∀ b, b < w.heap.size → w'.heap[b]? = w.heap[b]?) → wpList P ops Q rest (a.put o.dst (.slice (some ⟨w.heap.size, 0, none⟩) (n + m) c)) w') :
    wpList P ops Q (o :: rest) a w := by
  obtain ⟨i0, hi, hzz⟩ := Option.map_eq_some_iff.1 hinfo
  simp only [Prod.mk.injEq] at hzz
  obtain ⟨hz0, hz1, hz2⟩ := hzz
  obtain ⟨c, Z, hr1, c1, c2, c3⟩ := run_append_fresh (P := P) w t ti o.type e i0 z size bytes ht hti hi hz0 hz1 hz2 hzs hsz hb0 g n cap L hg hL kx m hm hbytes hcap
  refine wpList_plain hgd fun K hK => ?_
  unfold Oper.wp execOp
  simp only [ho, resolve, invoke, builtin, Sem.run_bind, Sem.run_pure, Result.andThen_ok, List.map_toArray, List.map_cons, List.map_nil, hs, hx, hr1]
  exact hK _ _ (h _ c Z ⟨heap_alloc_new w.drew _⟩ c1 c2 c3 ((below_drew1 hb).alloc hBs _) (fun b hb => heap_alloc_old w.drew _ hb))
theorem flat_take {α : Type} {d : Kd α} {enc : α → List Value} (F : FlatK d enc) {xs : List α} {i : Nat} (hi : i ≤ xs.length) (sp : List Value) : (flatL enc xs ++ sp).take (i * d.sz) = flatL enc (xs.take i) := by
  have e1 : flatL enc xs = flatL enc (xs.take i) ++ flatL enc (xs.drop i) := by rw [← flatL_app, List.take_append_drop]
  have e2 : (flatL enc (xs.take i)).length = i * d.sz := by rw [F.length, List.length_take, Nat.min_eq_left hi]
  rw [e1, List.append_assoc, ← e2, List.take_left]
set_option maxRecDepth 100000 in
set_option maxHeartbeats 4000000 in
theorem insert_grow (W w0 : World) (base g c i : Nat) (xs : List S24) (x : S24) (vb : Nat) (sp : List Value) (hg : W.heap[g]? = some (.cells (flatL encLk xs ++ sp).toArray 24 (0, 0))) (hbs : base ≤ W.heap.size) (hc : c < xs.length + 1) (hxc : xs.length ≤ c) (hi : i < xs.length) (hsm : xs.length ≤ 1000000)
    (hv : W.heap[vb]? = some (.cells #[.int .i64 x.f0, .int .i64 x.f1] 24 (0, 0))) (hB : Below base w0 W) :
    Calls Try.prog 23 #[.slice (some ⟨g, 0, none⟩) xs.length c, .int .i64 (i : Int), .slice (some ⟨vb, 0, none⟩) 1 1] W fun e w' => ∃ v, e = .returned v ∧ Kd.R k24 24 w' base (fun _ => True) v (xs.take i ++ x :: xs.drop i) ∧ Below base w0 w' := by
  have hgl : g < W.heap.size := blk_lt hg
  have hvl : vb < W.heap.size := blk_lt hv
  have HG := Aside0.mk hg
  have HV := Aside0.mk hv
  have HB := Aside0.mk hB
  have HBS := Aside0.mk hbs
  have HL := Aside0.mk (And.intro hgl hvl)
  have p0 : (0 ≤ (i : Int)) = True := eq_true (by omega)
  have q0 : ((i : Int) ≤ (xs.length : Int)) = True := eq_true (by omega)
  have q1 : ((i : Int) = (xs.length : Int)) = False := eq_false (by omega)
  have e1 : ((i : Int) == (xs.length : Int)) = false := beq_eq_false_iff_ne.mpr (by omega)
  have kc : (c = i) = False := eq_false (by omega)
  have n0 : (xs.length = 0) = False := eq_false (by omega)
  have b1 : (0 : Int) ≤ (xs.length : Int) + 1 ∧ (xs.length : Int) + 1 < 9223372036854775808 ∧ (0 : Int) ≤ (i : Int) + 1 ∧ (i : Int) + 1 < 9223372036854775808 ∧ 0 ≤ (xs.length : Int) + 1 - (i : Int) ∧ (xs.length : Int) + 1 - (i : Int) < 9223372036854775808 := by omega
  have d1 : decide ((c : Int) < (xs.length : Int) + 1) = true := decide_eq_true (by omega)
  have hm1 : (xs.length : Int) + 1 - (i : Int) = ((xs.length + 1 - i : Nat) : Int) := by omega
  have hnm : i + (xs.length + 1 - i) = xs.length + 1 := by omega
  have HNM := Aside0.mk hnm
  have q2 : (i ≤ c) = True := eq_true (by omega)
  have q3 : ((i : Int) ≤ (c : Int)) = True := eq_true (by omega)
  have q4 : (0 ≤ (i : Int) + 1) = True := eq_true (by omega)
  have q5 : ((i : Int) + 1 ≤ (xs.length : Int) + 1) = True := eq_true (by omega)
  have q6 : ((i : Int) ≤ (xs.length : Int) + 1) = True := eq_true (by omega)
  have t4 : ((i : Int) + 1).toNat = i + 1 := by omega
  have HN := Aside0.mk (And.intro hi (And.intro hc (And.intro hxc hsm)))
  have w1 := i64_small ((xs.length : Int) + 1) b1.1 b1.2.1
  have w2 := i64_small ((i : Int) + 1) b1.2.2.1 b1.2.2.2.1
  have w3 : wrap64 ((xs.length + 1 - i : Nat) : Int) = ((xs.length + 1 - i : Nat) : Int) := by
    have := i64_small ((xs.length + 1 - i : Nat) : Int) (by rw [← hm1]; exact b1.2.2.2.2.1) (by rw [← hm1]; exact b1.2.2.2.2.2)
    rwa [i64_w] at this
  clear b1 hi hc hsm hv hB hg hbs hgl hvl hxc hnm
  go_enter Try.func23, Try.ntmps23
  go_wp2_with (first | ((with_reducible refine gate_dst (N := 40) rfl ?_); refine wpList_append_fresh rfl (.tmp 34) (.tmp 39) 22 3 24 (.agg #[(.int .i64 0), (.int .i64 0)]) 2 16 rfl Try.underlying22 Try.underlying3 info24 rfl (by omega) (by omega) g i c (flatL encLk xs ++ sp) HG.out ?s1 .i64 (xs.length + 1 - i) rfl ?s2 ?s3 ?s4 ?s5 base w0 HB.out HBS.out ?_; (case s1 => have := HN.out; rw [List.length_append, flatLk.length]; show i * 2 ≤ xs.length * 2 + sp.length; omega); (case s2 => exact congrArg (Value.int .i64) w3); (case s3 => have := HN.out; omega); (case s4 => have := HN.out; omega); (case s5 => have := HN.out; omega); intro w4 c4 Z hg4 hc4 hcm4 hz4 hb4 hk4; rw [HNM.out] at hc4 ⊢; have kc4 : (c4 = i) = False := eq_false (by have := HN.out; omega); have kc5 : (c4 = i + 1) = False := eq_false (by have := HN.out; omega); have HG4 : Aside0 (w4.heap[W.heap.size]? = some (.cells (flatL encLk (xs.take i) ++ Z).toArray 24 (0, 0))) := ⟨by rw [← flat_take flatLk (show i ≤ xs.length by have := HN.out; omega) sp]; exact hg4.out⟩; have HB4 := Aside0.mk hb4; have HC4 := Aside0.mk (And.intro hc4 (And.intro hcm4 hz4)); have HK4 := Aside0.mk hk4; clear hg4 hc4 hcm4 hz4 hb4 hk4) | ((with_reducible refine gate_builtin (b := .copy) (xs := #[.tmp 43, .tmp 44]) rfl ?_); refine wpList_copyN rfl (.tmp 43) (.tmp 44) 22 22 rfl 24 2 Try.underlying22 (by kernel_rfl) _ _ _ _ _ _ rfl rfl W.heap.size (i * 2) (flatL encLk (xs.take i) ++ Z) 24 HG4.out (encLk x) ?hn2 ?hpos2 ?hfit2 ?hone2 base w0 HB4.out HBS.out ?_; (case hn2 => have := HN.out; show 2 = min 1 (xs.length + 1 - i) * 2; omega); (case hpos2 => exact fun _ => ⟨rfl, _, rfl, flat_cells (L := encLk x) (off := 0) ((HK4.out vb HL.out.2).trans HV.out) (fun j v hj => by rw [Nat.zero_add]; exact hj)⟩); (case hfit2 => have := HN.out; have h3 := HC4.out; rw [List.length_append, flatLk.length, List.length_take, Nat.min_eq_left (by omega)]; show i * 2 + 2 ≤ i * 2 + Z.length; omega); (case hone2 => exact encLk_one x); intro w5 hg5 hb5 hk5; have HG5 := Aside0.mk hg5.out; have HB5 := Aside0.mk hb5; have HK5 := Aside0.mk hk5; clear hg5 hb5 hk5))
  refine start_ (n := 9) (S := fun _ => True) (ds := [8]) #[false,false,false,false,false,false,false,false,false] (by kernel_rfl) rfl rfl trivial (fun _ => ?_)
  refine pure_ (i := 0) (N := some 46) (v := ?_) (a' := ?_) #[true,false,false,false,false,false,false,false,false] rfl rfl (by kernel_rfl) (fun _ _ _ h => h) (Or.inl ⟨by rfl, ?_⟩) ?_ ?_
  rotate_left
  · intro w'
    go_simp
    with_reducible rfl
  rotate_left
  · simp only [sP]
    rfl
  refine pure_ (i := 1) (N := some 47) (v := ?_) (a' := ?_) #[true,true,false,false,false,false,false,false,false] rfl rfl (by kernel_rfl) (fun _ _ _ h => h) (Or.inl ⟨by rfl, ?_⟩) ?_ ?_
  rotate_left
  · intro w'
    go_simp
    with_reducible rfl
  rotate_left
  · simp only [sP]
    rfl
  refine pure_ (i := 2) (N := some 48) (v := ?_) (a' := ?_) #[true,true,true,false,false,false,false,false,false] rfl rfl (by kernel_rfl) (fun _ _ _ h => h) (Or.inl ⟨by rfl, ?_⟩) ?_ ?_
  rotate_left
  · intro w'
    go_simp
    with_reducible rfl
  rotate_left
  · simp only [sP]
    rfl
  refine pure_ (i := 3) (N := some 49) (v := ?_) (a' := ?_) #[true,true,true,true,false,false,false,false,false] rfl rfl (by kernel_rfl) (fun _ _ _ h => h) (Or.inl ⟨by rfl, ?_⟩) ?_ ?_
  rotate_left
  · intro w'
    go_simp
    with_reducible rfl
  rotate_left
  · simp only [sP]
    rfl
  refine pure_ (i := 4) (N := some 50) (v := ?_) (a' := ?_) #[true,true,true,true,true,false,false,false,false] rfl rfl (by kernel_rfl) (fun _ _ _ h => h) (Or.inl ⟨by rfl, ?_⟩) ?_ ?_
  rotate_left
  · intro w'
    go_simp
    with_reducible rfl
  rotate_left
  · simp only [sP]
    rfl
  refine pure_ (i := 5) (N := some 51) (v := ?_) (a' := ?_) #[true,true,true,true,true,true,false,false,false] rfl rfl (by kernel_rfl) (fun _ _ _ h => h) (Or.inl ⟨by rfl, ?_⟩) ?_ ?_
  rotate_left
  · intro w'
    go_simp
    with_reducible rfl
  rotate_left
  · simp only [sP]
    rfl
  refine pure_ (i := 6) (N := some 52) (v := ?_) (a' := ?_) #[true,true,true,true,true,true,true,false,false] rfl rfl (by kernel_rfl) (fun _ _ _ h => h) (Or.inl ⟨by rfl, ?_⟩) ?_ ?_
  rotate_left
  · intro w'
    go_simp
    with_reducible rfl
  rotate_left
  · simp only [sP]
    rfl
  refine pure_ (i := 7) (N := some 53) (v := ?_) (a' := ?_) #[true,true,true,true,true,true,true,true,false] rfl rfl (by kernel_rfl) (fun _ _ _ h => h) (Or.inl ⟨by rfl, ?_⟩) ?_ ?_
  rotate_left
  · intro w'
    go_simp
    with_reducible rfl
  rotate_left
  · simp only [sP]
    rfl
  refine last_ (i := 8) (N := some 54) #[true,true,true,true,true,true,true,true,true] rfl rfl (by kernel_rfl) (by decide) (fun K hK => ?_)
  refine step_copyW rfl (.tmp 50) (.tmp 53) 22 22 rfl 24 2 Try.underlying22 (by kernel_rfl) _ _ _ _ _ _ rfl rfl W.heap.size ((i + 1) * 2) (splice (flatL encLk (xs.take i) ++ Z) (i * 2) (encLk x)) 24 HG5.out (flatL encLk (xs.drop i)) ?hn ?hpos ?hfit (flatLk.one W _) base w0 (below_drew1 HB5.out) HBS.out ?_
  case hn =>
    have := HN.out
    rw [flatLk.length, List.length_drop]
    show (xs.length - i) * 2 = min _ _ * 2
    omega
  case hpos =>
    have hgg : w5.heap[g]? = some (.cells (flatL encLk xs ++ sp).toArray 24 (0, 0)) := (HK5.out g (by have := HL.out.1; omega)).trans ((HK4.out g HL.out.1).trans HG.out)
    exact fun _ => ⟨rfl, _, rfl, flat_cells (W := w5.drew) hgg (fun j v hv => flat_at flatLk (show i ≤ xs.length by have := HN.out; omega) sp hv)⟩
  case hfit =>
    have h1 := HN.out
    have h3 := HC4.out
    have h5 : (splice (flatL encLk (xs.take i) ++ Z) (i * 2) (encLk x)).length = i * 2 + Z.length := by
      rw [splice_len, List.length_append, flatLk.length, List.length_take, Nat.min_eq_left (by omega)]
      · rfl
      · rw [List.length_append, flatLk.length, List.length_take, Nat.min_eq_left (by omega)]
        show i * 2 + 2 ≤ i * 2 + Z.length
        omega
    rw [h5, flatLk.length, List.length_drop]
    show (i + 1) * 2 + (xs.length - i) * 2 ≤ i * 2 + Z.length
    omega
  intro w6 hg6 hb6 hk6
  refine hK _ _ (done_ (by kernel_rfl) ?_)
  have HG6 := Aside0.mk hg6.out
  have HB6 := Aside0.mk hb6
  clear hg6 hb6 hk6
  go_wp2
  go_ret
  have hn := HN.out
  have hc4 := HC4.out
  have hl0 : (flatL encLk (xs.take i)).length = i * 2 := by rw [flatLk.length, List.length_take, Nat.min_eq_left (by omega)]; rfl
  have hl1 : (flatL encLk (xs.drop i)).length = (xs.length - i) * 2 := by rw [flatLk.length, List.length_drop]; rfl
  have hins := splice_new (A := flatL encLk (xs.take i)) (X := encLk x) (B := flatL encLk (xs.drop i)) (Z := Z) (k := i * 2) (m := 2) hl0 rfl (by rw [hl1]; omega)
  rw [show i * 2 + 2 = (i + 1) * 2 by omega] at hins
  have hg6 := HG6.out
  rw [hins, show flatL encLk (xs.take i) ++ encLk x ++ flatL encLk (xs.drop i) = flatL encLk (xs.take i ++ x :: xs.drop i) by rw [flatL_app, flatL_cons, List.append_assoc]] at hg6
  have hl : (xs.take i ++ x :: xs.drop i).length = xs.length + 1 := by
    rw [List.length_append, List.length_cons, List.length_take, List.length_drop, Nat.min_eq_left (by omega)]
    omega
  have hR := flatLk.mkOwn (ok := fun _ => True) HBS.out trivial hg6 (by omega) hc4.2.1 (show (xs.take i ++ x :: xs.drop i).length * 2 + (Z.drop (2 + (flatL encLk (xs.drop i)).length)).length = c4 * 2 by rw [hl, List.length_drop, hl1]; omega)
  rw [hl] at hR
  exact ⟨_, rfl, hR, HB6.out⟩
set_option maxRecDepth 100000 in
set_option maxHeartbeats 4000000 in
theorem insert_nil (W w0 : World) (base : Nat) (x : S24) (vb : Nat)
    (hv : W.heap[vb]? = some (.cells #[.int .i64 x.f0, .int .i64 x.f1] 24 (0, 0))) (hB : Below base w0 W) (hbase : base ≤ W.heap.size) :
    Calls Try.prog 23 #[.slice none 0 0, .int .i64 0, .slice (some ⟨vb, 0, none⟩) 1 1] W fun e w' => ∃ v, e = .returned v ∧ Kd.R k24 24 w' base (fun _ => True) v [x] ∧ Below base w0 w' := by
  have HC : Aside0 (Kd.C k24 W (some ⟨vb, 0, none⟩) 1 [x]) := ⟨flatLk.readC (ys := [x]) (sp := []) (by simp [maxLen]) hv⟩
  have HB := Aside0.mk hB
  have HBS := Aside0.mk hbase
  clear hv hB hbase
  go_enter Try.func23, Try.ntmps23
  go_wp2_with (first | ((with_reducible refine gate_builtin (b := .append) (xs := #[.tmp 23, .tmp 24]) rfl ?_); at_builtin; refine Kd.R_append_rows k24 (w0 := w0) base rfl (.tmp 23) (.tmp 24) 22 24 (.agg #[(.int .i64 0), (.int .i64 0)]) 16 rfl Try.underlying22 info24 rfl (by decide) (by omega) _ [] [x] _ _ _ (fun _ => True) (fun _ => False) rfl rfl (Kd.R_nil _ _ _ _ _) HC.out (fun _ _ h => h) (fun _ h => h.elim) (fun _ _ => trivial) HB.out HBS.out (by simp) ?_; intro v2 w2 ho2 hb2 hg2 hat2; have HO2 := Aside0.mk ho2; have HB2 := Aside0.mk hb2; clear ho2 hb2 hg2 hat2))
  all_goals (go_ret; exact ⟨_, rfl, HO2.out, HB2.out⟩)
theorem insert_is (W w0 : World) (base : Nat) (A : Option Addr) (c i : Nat) (xs : List S24) (x : S24) (vb : Nat) (hR : Kd.R k24 24 W base (fun k => k ≠ vb) (.slice A xs.length c) xs) (hi : i ≤ xs.length) (hsm : xs.length ≤ 1000000)
    (hv : W.heap[vb]? = some (.cells #[.int .i64 x.f0, .int .i64 x.f1] 24 (0, 0))) (hB : Below base w0 W) (hbase : base ≤ W.heap.size) :
    Calls Try.prog 23 #[.slice A xs.length c, .int .i64 (i : Int), .slice (some ⟨vb, 0, none⟩) 1 1] W fun e w' => ∃ v, e = .returned v ∧ Kd.R k24 24 w' base (fun _ => True) v (xs.take i ++ x :: xs.drop i) ∧ Below base w0 w' := by
  cases A with
  | none =>
    have hx : xs = [] := by
      cases xs with
      | nil => rfl
      | cons y ys =>
        obtain ⟨ad, e, _⟩ := (Kd.R_reads' hR).2.2.2.2 (Nat.succ_pos _)
        cases e
    subst hx
    obtain rfl : i = 0 := by simpa using hi
    obtain ⟨_, inner, ⟨_, ho2⟩, _⟩ := hR
    rcases ho2 with ⟨hv2, _⟩ | ⟨g, cap, cur, hv2, _⟩
    · injection hv2 with _ _ hc
      subst hc
      exact insert_nil W w0 base x vb hv hB hbase
    · cases hv2
  | some ad =>
    obtain ⟨g, sp, rfl, _, hbg, hok, hg, hnc, hcm, hcs⟩ := flatLk.own hR
    by_cases h1 : i = xs.length
    · subst h1
      rw [List.take_length, List.drop_length]
      exact insert_end W w0 base g c xs x vb (Kd.R_mono hR (fun _ _ => trivial)) hsm hv hB hbase
    · by_cases h2 : xs.length + 1 ≤ c
      · exact insert_room W w0 base g c i xs x vb sp hg hbg h2 hcm hcs (by omega) hsm hv (fun e => hok e.symm) hB
      · exact insert_grow W w0 base g c i xs x vb sp hg hbase (by omega) hnc (by omega) hsm hv hB
theorem step_append_roomW {P : Program} {ops : Array Oper} {o : Oper} {a : Act} {w : World} {K : Act → World → Prop} {Q : Exit → Act → World → Prop} {E : Prop} (hgd : o.guard = none) (s x : Operand) (t e : TypeId) (sz : Nat)
    (ho : o.op = .call { callee := .builtin .append, args := #[s, x], argTypes := #[t, t] })
    (ht : P.underlying t = some (.slice e)) (hsz : (P.info? e).map (·.size) = some sz)
    (g n cap : Nat) (L : List Value) (hg : w.heap[g]? = some (.cells L.toArray e (0, 0))) (hs : a.eval s = .slice (some ⟨g, 0, none⟩) n cap)
    (ad : Addr) (m c : Nat) (hx : a.eval x = .slice (some ad) m c) (cs : List Value) (hl : cs.length = m * sz) (hcs : ∀ j u, cs[j]? = some u → w.cell? (ad.add j) = some u) (h1 : ∀ u ∈ cs, u.oneCell' = true)
    (hroom : n + m ≤ cap) (hfit : n * sz + cs.length ≤ L.length) (B : Nat) (w0 : World) (hb : Below B w0 w) (hBg : B ≤ g)
    (h : ∀ w', Aside0 (w'.heap[g]? = some (.cells (splice L (n * sz) cs).toArray e (0, 0))) → Below B w0 w' → K (a.put o.dst (.slice (some ⟨g, 0, none⟩) (n + m) cap)) w') :
    if Region.wanted o (yielded ops a.tmps) = true then Oper.wp P o a w K Q else E := by
  have hw : Region.wanted o (yielded ops a.tmps) = true := by simp [Region.wanted, hgd]
  rw [if_pos hw]
  obtain ⟨i, hi, hz⟩ := Option.map_eq_some_iff.1 hsz
  subst hz
  have hr := run_append_room (P := P) w t o.type e i ht hi g n cap L.toArray hg ad m c cs hl hcs h1 hroom (by simpa using hfit)
  unfold Oper.wp execOp
  simp only [ho, resolve, invoke, builtin, Sem.run_bind, Sem.run_pure, Result.andThen_ok, List.map_toArray, List.map_cons, List.map_nil, hs, hx, hr]
  exact h _ ⟨by simpa [splice] using setRow_heap w g _ _ e _ hg⟩ (below_setRow hb hBg _)
theorem wpList_clearN {P : Program} {ops : Array Oper} {o : Oper} {rest : List Oper} {a : Act} {Q : Exit → Act → World → Prop} {w : World} (hgd : o.guard = none) (s : Operand) (t e : TypeId) (z : Value) (sz : Nat)
    (ho : o.op = .call { callee := .builtin .clear, args := #[s], argTypes := #[t] }) (ht : P.underlying t = some (.slice e)) (hv : ∀ w, (zeroValue e).run P w = .ok z w) (hzs : z.cells.size = sz) (hz1 : ∀ v ∈ z.cells, v.oneCell' = true)
    (g off n c : Nat) (hs : a.eval s = .slice (some ⟨g, off, none⟩) n c) (hn : 0 < n) (L : List Value) (te : TypeId) (hg : w.heap[g]? = some (.cells L.toArray te (0, 0))) (hfit : off + n * sz ≤ L.length) (B : Nat) (w0 : World) (hb : Below B w0 w) (hBg : B ≤ g)
    (h : ∀ w' Z, Z.length = n * sz → Aside0 (w'.heap[g]? = some (.cells (splice L off Z).toArray te (0, 0))) → Below B w0 w' → wpList P ops Q rest (a.put o.dst (.tuple #[])) w') :
    wpList P ops Q (o :: rest) a w := by
  have hzl : (Builtin.zeroCells z.cells n).toList.length = n * sz := by rw [Array.length_toList, size_zeroCells, hzs]
  have hz : ∀ v ∈ (Builtin.zeroCells z.cells n).toList, v.oneCell' = true := fun v hm => by
    have hm2 := Array.mem_toList_iff.1 hm
    unfold Builtin.zeroCells at hm2
    obtain ⟨i, hi, rfl⟩ := Array.mem_map.1 hm2
    have hin := Array.mem_range.1 hi
    have hlt : i % z.cells.size < z.cells.size := Nat.mod_lt _ (Nat.pos_of_ne_zero (fun h0 => by rw [h0] at hin; omega))
    rw [getElem!_pos z.cells _ hlt]
    exact hz1 _ (Array.getElem_mem hlt)
  have hst := run_storeCells_at P g off te (Builtin.zeroCells z.cells n).toList 0 L.toArray w hg (by rw [hzl]; simpa using hfit) hz
  obtain ⟨m, rfl⟩ : ∃ m, n = m + 1 := ⟨n - 1, by omega⟩
  have hr : (Builtin.clear_ #[t] o.type #[.slice (some ⟨g, off, none⟩) (m + 1) c]).run P w = .ok (.tuple #[]) (w.setRow g ((L.toArray.toList.take (off + 0)) ++ (Builtin.zeroCells z.cells (m + 1)).toList ++ L.toArray.toList.drop (off + 0 + (Builtin.zeroCells z.cells (m + 1)).toList.length)).toArray) := by
    simp only [Builtin.clear_]
    simp [run_underlying ht, hv, hst]
  refine wpList_plain hgd fun K hK => ?_
  unfold Oper.wp execOp
  simp only [ho, resolve, invoke, builtin, Sem.run_bind, Sem.run_pure, Result.andThen_ok, List.map_toArray, List.map_cons, List.map_nil, hs, hr]
  exact hK _ _ (h _ (Builtin.zeroCells z.cells (m + 1)).toList hzl ⟨by simpa [splice] using setRow_heap w g _ _ te _ hg⟩ (below_setRow hb hBg _))
theorem splice_del {A X B S : List Value} {k : Nat} (hA : A.length = k) : splice (A ++ (X ++ B) ++ S) k B = A ++ B ++ (X ++ B ++ S).drop B.length := by
  subst hA
  unfold splice
  rw [List.append_assoc, List.take_left, ← List.drop_drop, List.drop_left, ← List.append_assoc]
theorem del_cut {xs : List S24} {sp : List Value} {i : Nat} (hi : i < xs.length) : splice (flatL encLk xs ++ sp) (i * 2) (flatL encLk (xs.drop (i + 1))) = flatL encLk (xs.take i ++ xs.drop (i + 1)) ++ (encLk xs[i] ++ flatL encLk (xs.drop (i + 1)) ++ sp).drop (flatL encLk (xs.drop (i + 1))).length := by
  have e1 : flatL encLk xs = flatL encLk (xs.take i) ++ (encLk xs[i] ++ flatL encLk (xs.drop (i + 1))) := by
    rw [← flatL_cons, ← List.drop_eq_getElem_cons hi, ← flatL_app, List.take_append_drop]
  rw [e1, splice_del (by rw [flatLk.length, List.length_take, Nat.min_eq_left (by omega)]; rfl), flatL_app]
theorem del_len {xs : List S24} {i : Nat} (hi : i < xs.length) : (xs.take i ++ xs.drop (i + 1)).length = xs.length - 1 := by
  rw [List.length_append, List.length_take, List.length_drop, Nat.min_eq_left (by omega)]
  omega
theorem del_fit {xs : List S24} {sp : List Value} {c i : Nat} (hi : i < xs.length) (hc : xs.length ≤ c) (hcs : xs.length * 2 + sp.length = c * 2) : (xs.length - 1) * 2 + 1 * 2 ≤ (splice (flatL encLk xs ++ sp) (i * 2) (flatL encLk (xs.drop (i + 1)))).length := by
  rw [splice_len]
  · rw [List.length_append, flatLk.length]
    show _ ≤ xs.length * 2 + sp.length
    omega
  · rw [List.length_append, flatLk.length, flatLk.length, List.length_drop]
    show i * 2 + (xs.length - (i + 1)) * 2 ≤ xs.length * 2 + sp.length
    omega
theorem del_own {w5 : World} {base g c i : Nat} {xs : List S24} {sp Z : List Value} (hbg : base ≤ g) (hi : i < xs.length) (hc : xs.length ≤ c) (hcm : c ≤ maxLen) (hcs : xs.length * 2 + sp.length = c * 2) (hz : Z.length = 1 * 2)
    (hg : w5.heap[g]? = some (.cells (splice (splice (flatL encLk xs ++ sp) (i * 2) (flatL encLk (xs.drop (i + 1)))) ((xs.length - 1) * 2) Z).toArray 24 (0, 0))) :
    Kd.R k24 24 w5 base (fun _ => True) (.slice (some ⟨g, 0, none⟩) (xs.length - 1) c) (xs.take i ++ xs.drop (i + 1)) := by
  have hl := del_len hi
  obtain ⟨T, hT⟩ : ∃ T, (encLk xs[i] ++ flatL encLk (xs.drop (i + 1)) ++ sp).drop (flatL encLk (xs.drop (i + 1))).length = T := ⟨_, rfl⟩
  have hTl : T.length = 2 + sp.length := by
    rw [← hT, List.length_drop, List.length_append, List.length_append]
    show 2 + _ + _ - _ = _
    omega
  rw [del_cut hi, hT] at hg
  have hfl : (flatL encLk (xs.take i ++ xs.drop (i + 1))).length = (xs.length - 1) * 2 := by rw [flatLk.length, hl]; rfl
  have key : ∀ F : List Value, F.length = (xs.length - 1) * 2 → splice (F ++ T) ((xs.length - 1) * 2) Z = F ++ (Z ++ T.drop Z.length) := fun F hF => by
    unfold splice
    rw [← hF, List.take_left, ← List.drop_drop, List.drop_left]
  rw [key _ hfl] at hg
  have hR := flatLk.mkOwn (ok := fun _ => True) hbg trivial hg (by omega) hcm (show (xs.take i ++ xs.drop (i + 1)).length * 2 + (Z ++ T.drop Z.length).length = c * 2 by rw [hl, List.length_append, List.length_drop, hz, hTl]; omega)
  rw [hl] at hR
  exact hR
set_option maxRecDepth 100000 in
set_option maxHeartbeats 4000000 in
theorem delete_is (W w0 : World) (base g c i : Nat) (xs : List S24) (sp : List Value) (hg : W.heap[g]? = some (.cells (flatL encLk xs ++ sp).toArray 24 (0, 0))) (hbg : base ≤ g) (hc : xs.length ≤ c) (hcm : c ≤ maxLen) (hcs : xs.length * 2 + sp.length = c * 2) (hi : i < xs.length) (hsm : xs.length ≤ 1000000) (hB : Below base w0 W) :
    Calls Try.prog 26 #[.slice (some ⟨g, 0, none⟩) xs.length c, .int .i64 (i : Int), .int .i64 ((i + 1 : Nat) : Int)] W fun e w' => ∃ v, e = .returned v ∧ Kd.R k24 24 w' base (fun _ => True) v (xs.take i ++ xs.drop (i + 1)) ∧ Below base w0 w' := by
  have HG := Aside0.mk hg
  have HB := Aside0.mk hB
  have e0 : ((i : Int) == ((i + 1 : Nat) : Int)) = false := beq_eq_false_iff_ne.mpr (by omega)
  have e0' : ((i : Int) == (i : Int) + 1) = false := beq_eq_false_iff_ne.mpr (by omega)
  have p0 : (0 ≤ (i : Int)) = True := eq_true (by omega)
  have p1 : ((i : Int) ≤ (i : Int) + 1) = True := eq_true (by omega)
  have p2 : ((i : Int) + 1 ≤ (xs.length : Int)) = True := eq_true (by omega)
  have p3 : ((xs.length : Int) ≤ (c : Int)) = True := eq_true (by omega)
  have p4 : (0 ≤ (i : Int) + 1) = True := eq_true (by omega)
  have p5 : ((i : Int) ≤ (xs.length : Int)) = True := eq_true (by omega)
  have p6 : ((i : Int) ≤ (c : Int)) = True := eq_true (by omega)
  have t1 : ((i : Int) + 1).toNat = i + 1 := by omega
  have kc : (c = i) = False := eq_false (by omega)
  have kx : (xs.length = i) = False := eq_false (by omega)
  have HN := Aside0.mk (And.intro hi (And.intro hc (And.intro hcm (And.intro hcs hsm))))
  have HHI := HN
  clear hi hc hcm hcs hsm hg hB
  have hnm : i + (xs.length - (i + 1)) = xs.length - 1 := by have := HN.out; omega
  have q1 : (0 ≤ ((xs.length - 1 : Nat) : Int)) = True := eq_true (by omega)
  have q2 : (((xs.length - 1 : Nat) : Int) ≤ (xs.length : Int)) = True := eq_true (by omega)
  have q3 : (((xs.length - 1 : Nat) : Int) ≤ (c : Int)) = True := eq_true (by have := HN.out; omega)
  have q4 : (c = xs.length - 1) = False := eq_false (by have := HN.out; omega)
  have q5 : (xs.length - 1 ≤ xs.length) = True := eq_true (by omega)
  have hone : xs.length - (xs.length - 1) = 1 := by have := HN.out; omega
  have HONE := Aside0.mk hone
  have HNM := Aside0.mk hnm
  by_cases hc1 : c = i + 1
  · have k1 : (c = i + 1) = True := eq_true hc1
    clear hc1
    go_enter Try.func26, Try.ntmps26
    go_wp2
    refine start_ (n := 8) (S := fun _ => True) (ds := [6]) #[false,false,false,false,false,false,false,false] (by kernel_rfl) rfl rfl trivial (fun _ => ?_)
    refine pure_ (i := 0) (N := some 20) (v := ?_) (a' := ?_) #[true,false,false,false,false,false,false,false] rfl rfl (by kernel_rfl) (fun _ _ _ h => h) (Or.inl ⟨by rfl, ?_⟩) ?_ ?_
    rotate_left
    · intro w'
      go_simp
      with_reducible rfl
    rotate_left
    · simp only [sP]
      rfl
    refine pure_ (i := 1) (N := some 21) (v := ?_) (a' := ?_) #[true,true,false,false,false,false,false,false] rfl rfl (by kernel_rfl) (fun _ _ _ h => h) (Or.inl ⟨by rfl, ?_⟩) ?_ ?_
    rotate_left
    · intro w'
      go_simp
      with_reducible rfl
    rotate_left
    · simp only [sP]
      rfl
    refine pure_ (i := 2) (N := some 22) (v := ?_) (a' := ?_) #[true,true,true,false,false,false,false,false] rfl rfl (by kernel_rfl) (fun _ _ _ h => h) (Or.inl ⟨by rfl, ?_⟩) ?_ ?_
    rotate_left
    · intro w'
      go_simp
      with_reducible rfl
    rotate_left
    · simp only [sP]
      rfl
    refine pure_ (i := 3) (N := some 23) (v := ?_) (a' := ?_) #[true,true,true,true,false,false,false,false] rfl rfl (by kernel_rfl) (fun _ _ _ h => h) (Or.inl ⟨by rfl, ?_⟩) ?_ ?_
    rotate_left
    · intro w'
      go_simp
      with_reducible rfl
    rotate_left
    · simp only [sP]
      rfl
    refine pure_ (i := 4) (N := some 24) (v := ?_) (a' := ?_) #[true,true,true,true,true,false,false,false] rfl rfl (by kernel_rfl) (fun _ _ _ h => h) (Or.inl ⟨by rfl, ?_⟩) ?_ ?_
    rotate_left
    · intro w'
      go_simp
      with_reducible rfl
    rotate_left
    · simp only [sP]
      rfl
    refine pure_ (i := 5) (N := some 25) (v := ?_) (a' := ?_) #[true,true,true,true,true,true,false,false] rfl rfl (by kernel_rfl) (fun _ _ _ h => h) (Or.inl ⟨by rfl, ?_⟩) ?_ ?_
    rotate_left
    · intro w'
      go_simp
      with_reducible rfl
    rotate_left
    · simp only [sP]
      rfl
    refine last_ (i := 6) (N := some 26) #[true,true,true,true,true,true,true,false] rfl rfl (by kernel_rfl) (by decide) (fun K hK => ?_)
    refine step_append_roomW rfl (.tmp 22) (.tmp 25) 22 24 2 rfl Try.underlying22 (by kernel_rfl) g i c (flatL encLk xs ++ sp) HG.out rfl _ (xs.length - (i + 1)) (c - (i + 1)) rfl (flatL encLk (xs.drop (i + 1))) ?hl ?hcs (flatLk.one W _) ?hroom ?hfit base w0 (below_drew1 HB.out) hbg ?_
    case hl => rw [flatLk.length, List.length_drop]; rfl
    case hcs => exact (fun j u hj => by
      exfalso
      rw [List.drop_eq_nil_of_le (by have := HN.out; have := of_eq_true k1; omega)] at hj
      simp [flatL] at hj)
    case hroom => have := HN.out; omega
    case hfit =>
      have := HN.out
      rw [List.length_append, flatLk.length, flatLk.length, List.length_drop]
      show i * 2 + (xs.length - (i + 1)) * 2 ≤ xs.length * 2 + sp.length
      omega
    intro w4 hg4 hb4
    rw [HNM.out]
    refine hK _ _ ?_
    refine norm_ (a' := ?_) ?_ ?_
    rotate_left
    · show Act.put _ (some 26) _ = _
      simp only [sP]
      rfl
    refine pure_ (i := 7) (N := some 0) (v := ?_) (a' := ?_) #[true,true,true,true,true,true,true,true] rfl rfl (by kernel_rfl) (fun _ _ _ h => h) (Or.inl ⟨by rfl, ?_⟩) ?_ ?_
    rotate_left
    · intro w'
      go_simp
      with_reducible rfl
    rotate_left
    · simp only [sP]
      rfl
    refine done_ (by kernel_rfl) ?_
    have HG4 := hg4
    have HB4 := Aside0.mk hb4
    clear hg4 hb4
    go_wp2_with ((with_reducible refine gate_builtin (b := .clear) (xs := #[.tmp 31]) rfl ?_); refine wpList_clearN rfl (.tmp 31) 22 24 (.agg #[(.int .i64 0), (.int .i64 0)]) 2 rfl Try.underlying22 Try.zeroValue24 rfl (fun v hv => (by simp [Value.cells] at hv; rcases hv with rfl | rfl <;> rfl)) g ((xs.length - 1) * 2) 1 (c - (xs.length - 1)) ?hs2 (by omega) (splice (flatL encLk xs ++ sp) (i * 2) (flatL encLk (xs.drop (i + 1)))) 24 HG4.out ?hfit2 base w0 HB4.out hbg ?_; (case hs2 => rfl); (case hfit2 => exact del_fit HN.out.1 HN.out.2.1 HN.out.2.2.2.1); intro w5 Z hz5 hg5 hb5; have HG5 := hg5; have HB5 := Aside0.mk hb5; have HZ5 := Aside0.mk hz5; clear hg5 hb5 hz5)
    go_ret
    exact ⟨_, rfl, del_own hbg HN.out.1 HN.out.2.1 HN.out.2.2.1 HN.out.2.2.2.1 HZ5.out HG5.out, HB5.out⟩
  · have k1 : (c = i + 1) = False := eq_false hc1
    clear hc1
    go_enter Try.func26, Try.ntmps26
    go_wp2
    refine start_ (n := 8) (S := fun _ => True) (ds := [6]) #[false,false,false,false,false,false,false,false] (by kernel_rfl) rfl rfl trivial (fun _ => ?_)
    refine pure_ (i := 0) (N := some 20) (v := ?_) (a' := ?_) #[true,false,false,false,false,false,false,false] rfl rfl (by kernel_rfl) (fun _ _ _ h => h) (Or.inl ⟨by rfl, ?_⟩) ?_ ?_
    rotate_left
    · intro w'
      go_simp
      with_reducible rfl
    rotate_left
    · simp only [sP]
      rfl
    refine pure_ (i := 1) (N := some 21) (v := ?_) (a' := ?_) #[true,true,false,false,false,false,false,false] rfl rfl (by kernel_rfl) (fun _ _ _ h => h) (Or.inl ⟨by rfl, ?_⟩) ?_ ?_
    rotate_left
    · intro w'
      go_simp
      with_reducible rfl
    rotate_left
    · simp only [sP]
      rfl
    refine pure_ (i := 2) (N := some 22) (v := ?_) (a' := ?_) #[true,true,true,false,false,false,false,false] rfl rfl (by kernel_rfl) (fun _ _ _ h => h) (Or.inl ⟨by rfl, ?_⟩) ?_ ?_
    rotate_left
    · intro w'
      go_simp
      with_reducible rfl
    rotate_left
    · simp only [sP]
      rfl
    refine pure_ (i := 3) (N := some 23) (v := ?_) (a' := ?_) #[true,true,true,true,false,false,false,false] rfl rfl (by kernel_rfl) (fun _ _ _ h => h) (Or.inl ⟨by rfl, ?_⟩) ?_ ?_
    rotate_left
    · intro w'
      go_simp
      with_reducible rfl
    rotate_left
    · simp only [sP]
      rfl
    refine pure_ (i := 4) (N := some 24) (v := ?_) (a' := ?_) #[true,true,true,true,true,false,false,false] rfl rfl (by kernel_rfl) (fun _ _ _ h => h) (Or.inl ⟨by rfl, ?_⟩) ?_ ?_
    rotate_left
    · intro w'
      go_simp
      with_reducible rfl
    rotate_left
    · simp only [sP]
      rfl
    refine pure_ (i := 5) (N := some 25) (v := ?_) (a' := ?_) #[true,true,true,true,true,true,false,false] rfl rfl (by kernel_rfl) (fun _ _ _ h => h) (Or.inl ⟨by rfl, ?_⟩) ?_ ?_
    rotate_left
    · intro w'
      go_simp
      with_reducible rfl
    rotate_left
    · simp only [sP]
      rfl
    refine last_ (i := 6) (N := some 26) #[true,true,true,true,true,true,true,false] rfl rfl (by kernel_rfl) (by decide) (fun K hK => ?_)
    refine step_append_roomW rfl (.tmp 22) (.tmp 25) 22 24 2 rfl Try.underlying22 (by kernel_rfl) g i c (flatL encLk xs ++ sp) HG.out rfl _ (xs.length - (i + 1)) (c - (i + 1)) rfl (flatL encLk (xs.drop (i + 1))) ?hl ?hcs (flatLk.one W _) ?hroom ?hfit base w0 (below_drew1 HB.out) hbg ?_
    case hl => rw [flatLk.length, List.length_drop]; rfl
    case hcs => exact (flat_cells (W := W.drew) HG.out (fun j v hv => flat_at flatLk (show i + 1 ≤ xs.length by have := HN.out; omega) sp hv))
    case hroom => have := HN.out; omega
    case hfit =>
      have := HN.out
      rw [List.length_append, flatLk.length, flatLk.length, List.length_drop]
      show i * 2 + (xs.length - (i + 1)) * 2 ≤ xs.length * 2 + sp.length
      omega
    intro w4 hg4 hb4
    rw [HNM.out]
    refine hK _ _ ?_
    refine norm_ (a' := ?_) ?_ ?_
    rotate_left
    · show Act.put _ (some 26) _ = _
      simp only [sP]
      rfl
    refine pure_ (i := 7) (N := some 0) (v := ?_) (a' := ?_) #[true,true,true,true,true,true,true,true] rfl rfl (by kernel_rfl) (fun _ _ _ h => h) (Or.inl ⟨by rfl, ?_⟩) ?_ ?_
    rotate_left
    · intro w'
      go_simp
      with_reducible rfl
    rotate_left
    · simp only [sP]
      rfl
    refine done_ (by kernel_rfl) ?_
    have HG4 := hg4
    have HB4 := Aside0.mk hb4
    clear hg4 hb4
    go_wp2_with ((with_reducible refine gate_builtin (b := .clear) (xs := #[.tmp 31]) rfl ?_); refine wpList_clearN rfl (.tmp 31) 22 24 (.agg #[(.int .i64 0), (.int .i64 0)]) 2 rfl Try.underlying22 Try.zeroValue24 rfl (fun v hv => (by simp [Value.cells] at hv; rcases hv with rfl | rfl <;> rfl)) g ((xs.length - 1) * 2) 1 (c - (xs.length - 1)) ?hs2 (by omega) (splice (flatL encLk xs ++ sp) (i * 2) (flatL encLk (xs.drop (i + 1)))) 24 HG4.out ?hfit2 base w0 HB4.out hbg ?_; (case hs2 => rfl); (case hfit2 => exact del_fit HN.out.1 HN.out.2.1 HN.out.2.2.2.1); intro w5 Z hz5 hg5 hb5; have HG5 := hg5; have HB5 := Aside0.mk hb5; have HZ5 := Aside0.mk hz5; clear hg5 hb5 hz5)
    go_ret
    exact ⟨_, rfl, del_own hbg HN.out.1 HN.out.2.1 HN.out.2.2.1 HN.out.2.2.2.1 HZ5.out HG5.out, HB5.out⟩
theorem infoLk : (Try.prog.info? 24).map (fun i => (i.zero, i.size, i.bytes)) = some (some (.agg #[(.int .i64 0), (.int .i64 0)]), 2, 16) := by kernel_rfl
set_option maxRecDepth 100000 in
set_option maxHeartbeats 4000000 in
theorem cloneL_is (A : Option Addr) (c : Nat) (l : List S24) (hL : l.length * 16 ≤ 140737488355328) (w : World) (hr : Kd.C k24 w A l.length l) (hc : l.length ≤ c) :
    Calls Try.prog 21 #[.slice A l.length c] w fun e w' => ∃ v : Value, e = .returned v ∧ Kd.R k24 24 w' w.heap.size (fun _ => True) v l ∧ Below w.heap.size w w' := by
  have HR := Aside0.mk hr
  have HM := Aside0.mk (Kd.C_max hr)
  have HL := Aside0.mk hL
  clear hr hL
  have q : ∀ (w : World) (a : Option Addr) (n c : Nat), (binOp .eql 22 (.slice a n c) (.slice none 0 0)).run Try.prog w = .ok (.bool a.isNone) w := fun w a n c => Lib.run_eql_slice_nil w 22 24 a n c 0 0 Try.underlying22
  go_enter Try.func21, Try.ntmps21
  cases A with
  | none =>
    have hl : l = [] := by
      cases l with
      | nil => rfl
      | cons x xs =>
        obtain ⟨ad, e, _⟩ := HR.out.2.2 (Nat.succ_pos _)
        cases e
    subst hl
    go_wp2
    go_ret
    exact ⟨_, rfl, Kd.R_nil _ _ _ _ _, Below.refl _ _⟩
  | some ad =>
    go_wp2_with (first | ((with_reducible refine gate_dst (N := 5) rfl ?_); refine Kd.R_lit k24 _ 24 ?hg (N := 5) ?hd (xs := ([] : List (S24))) (inner := []) (ok := fun _ => True) (okp := fun _ => True) ?hr ?hp (fun _ hk => hk) trivial (Below.refl _ _) (Nat.le_refl _) (by simp) ?_; (case hd => rfl); (case hg => rfl); (case hr => first | (go_simp; done) | (go_simp; rfl)); (case hp => exact (Reps.none _ _)); intro v1 w1 ho1 hb1 hg_ hnew_; clear hg_ hnew_; have HO1 := Aside0.mk ho1; have HB1 := Aside0.mk hb1; clear ho1 hb1) | ((with_reducible refine gate_builtin (b := .append) (xs := #[.tmp 5, .tmp 6]) rfl ?_); at_builtin; refine Kd.R_append_rows k24 (w0 := w) w.heap.size rfl (.tmp 5) (.tmp 6) 22 24 (.agg #[(.int .i64 0), (.int .i64 0)]) 16 rfl Try.underlying22 infoLk rfl (by decide) (by omega) v1 [] l _ _ _ (fun _ => True) (fun _ => False) rfl rfl HO1.out (Kd.C_below HR.out HB1.out) (fun _ _ h => h) (fun _ h => h.elim) (fun _ _ => trivial) HB1.out HB1.out.size (by have := HL.out; simpa using this) ?_; intro v2 w2 ho2 hb2 hg2 hat2; have HO2 := Aside0.mk ho2; have HB2 := Aside0.mk hb2; clear ho2 hb2 hg2 hat2))
    go_ret
    exact ⟨_, rfl, HO2.out, HB2.out⟩
def links_find.f (k : Nat) (l0 : List S24) (a1 : Int) : Option (Int × Bool) := if l0.length ≤ 4611686018427387903 then some ((bsF l0 a1 l0.length 0 l0.length : Nat), decide (bsF l0 a1 l0.length 0 l0.length < l0.length ∧ (rd_T24 l0 ((bsF l0 a1 l0.length 0 l0.length : Nat) : Int)).f0 = a1)) else none
theorem links_find.mono : ∀ a0 a1 k, LeO (links_find.f k a0 a1) (links_find.f (k + 1) a0 a1) := fun _ _ _ => LeO.refl _
set_option maxRecDepth 100000 in
theorem find_is (k : Nat) (A0 : Option Addr) (c0 : Nat) (l0 : List S24) (a1 : Int) (r1 : Int) (r2 : Bool) (w : World) (hr0 : Kd.C k24 w A0 l0.length l0) (hc0 : l0.length ≤ c0) (h : links_find.f k l0 a1 = some (r1, r2)) :
    Calls Try.prog 22 #[.slice A0 l0.length c0, .int .i64 a1] w fun e w' => e = .returned (.tuple #[.int .i64 r1, .bool r2]) ∧ Below w.heap.size w w' := by
  unfold links_find.f at h
  by_cases hL : l0.length ≤ 4611686018427387903
  case neg => rw [if_neg hL] at h; cases h
  rw [if_pos hL] at h
  obtain ⟨e1, e2⟩ := Prod.mk.inj (Option.some.inj h)
  have HS := Aside0.mk (search_is A0 c0 l0 a1 hL w hr0 hc0)
  rw [e2, e1] at HS
  clear h e1 e2 hr0 hc0 hL
  go_enter Try.func22, Try.ntmps22
  go_wp2_with (go_at_call 29; refine HS.out.mono ?_; rintro e w5 ⟨rfl, hb5⟩; have HB5 := Aside0.mk hb5; clear hb5)
  go_ret2
  exact ⟨rfl, HB5.out⟩
theorem links_find.calls (k : Nat) (A0 : Option Addr) (c0 : Nat) (l0 : List (S24)) (a1 : Int) (r1 : Int) (r2 : Bool) (w : World) (hr0 : Kd.C k24 w A0 l0.length l0) (hc0 : l0.length ≤ c0) (h : links_find.f k l0 a1 = some (r1, r2)) :
    Calls Try.prog 22 #[.slice A0 l0.length c0, .int .i64 a1] w fun e w' => e = .returned (.tuple #[.int .i64 r1, .bool r2]) ∧ Below w.heap.size w w' := by
  exact find_is k A0 c0 l0 a1 r1 r2 w hr0 hc0 h
end Go.Proofs.Ytalkiicjdafhdaa.Q
end
section
namespace Go.Proofs.Ytalkiicjdafhdaa.Q
open Go.RowKit Go.Proofs.YtalkiicjdafhdaaW.PrintWords Go.Proofs.YtalkiicjdafhdaaW.PrintLast Go.Proofs.YtalkiicjdafhdaaW.PrintMore
attribute [local go_sem] max2_int min2_int max_two min_two max_three min_three max_four min_four   -- for this text's walks alone
set_option linter.unusedVariables false
set_option linter.unusedSimpArgs false
theorem flat_set {xs : List S24} {p : Nat} (hp : p < xs.length) (x : S24) (sp : List Value) :
    ((flatL encLk xs ++ sp).set (p * 2) (.int .i64 x.f0)).set (p * 2 + 1) (.int .i64 x.f1) = flatL encLk (xs.set p x) ++ sp := by
  have e1 : flatL encLk xs = flatL encLk (xs.take p) ++ (encLk xs[p] ++ flatL encLk (xs.drop (p + 1))) := by
    rw [← flatL_cons, ← List.drop_eq_getElem_cons hp, ← flatL_app, List.take_append_drop]
  have e2 : flatL encLk (xs.set p x) = flatL encLk (xs.take p) ++ (encLk x ++ flatL encLk (xs.drop (p + 1))) := by
    rw [← flatL_cons, ← flatL_app, List.set_eq_take_append_cons_drop, if_pos hp]
  have hl : (flatL encLk (xs.take p)).length = p * 2 := by rw [flatLk.length, List.length_take, Nat.min_eq_left (by omega)]; rfl
  rw [e1, e2, List.append_assoc, List.append_assoc, List.set_append_right _ _ (by omega), hl, Nat.sub_self, List.set_append_right _ _ (by omega), hl, Nat.add_sub_cancel_left]
  simp [encLk]
theorem put_row {W : World} {base g c : Nat} {xs : List S24} {sp : List Value} (hbg : base ≤ g) (hg : W.heap[g]? = some (.cells (flatL encLk xs ++ sp).toArray 24 (0, 0))) (hc : xs.length ≤ c) (hcm : c ≤ maxLen) (hcs : xs.length * 2 + sp.length = c * 2) {p : Nat} (hp : p < xs.length) (x : S24) :
    Kd.R k24 24 ((W.setCell ⟨g, p * 2, none⟩ (.int .i64 x.f0)).setCell ⟨g, p * 2 + 1, none⟩ (.int .i64 x.f1)) base (fun _ => True) (.slice (some ⟨g, 0, none⟩) xs.length c) (xs.set p x) := by
  have h1 := blk_set (blk_set hg (p * 2) (.int .i64 x.f0)) (p * 2 + 1) (.int .i64 x.f1)
  have h2 : ((W.setCell ⟨g, p * 2, none⟩ (.int .i64 x.f0)).setCell ⟨g, p * 2 + 1, none⟩ (.int .i64 x.f1)).heap[g]? = some (.cells (flatL encLk (xs.set p x) ++ sp).toArray 24 (0, 0)) := by
    rw [h1, ← flat_set hp x sp]
    simp
  have hR := flatLk.mkOwn (ok := fun _ => True) hbg trivial h2 (by rw [List.length_set]; exact hc) hcm (show (xs.set p x).length * 2 + sp.length = c * 2 by rw [List.length_set]; exact hcs)
  rw [List.length_set] at hR
  exact hR
theorem put_cell {W : World} {g : Nat} {xs : List S24} {sp : List Value} (hg : W.heap[g]? = some (.cells (flatL encLk xs ++ sp).toArray 24 (0, 0))) {p : Nat} (hp : p < xs.length) (j : Nat) (hj : j < 2) : ∃ u, W.cell? ⟨g, p * 2 + j, none⟩ = some u := by
  have hl : p * 2 + j < (flatL encLk xs ++ sp).length := by
    rw [List.length_append, flatLk.length]
    show p * 2 + j < xs.length * 2 + sp.length
    omega
  exact ⟨_, (blk_cell hg _).trans (by rw [List.getElem?_toArray]; exact List.getElem?_eq_getElem hl)⟩
theorem R_ne {W : World} {base : Nat} {v : Value} {xs : List S24} (h : Kd.R k24 24 W base (fun _ => True) v xs) (o : Obj) : Kd.R k24 24 (W.alloc o) base (fun k => k ≠ W.heap.size) v xs :=
  Kd.R_mono (Kd.R_tight rfl (Kd.R_below h (below_alloc (Below.refl _ _) o))) (fun k hk e => Kd.fresh' (Kd.R_lt h) k (by omega) hk)
def putL (l : List S24) (x : S24) : List S24 × Int :=
  if bsF l x.f0 l.length 0 l.length < l.length ∧ (rd_T24 l ((bsF l x.f0 l.length 0 l.length : Nat) : Int)).f0 = x.f0 then (l.set (bsF l x.f0 l.length 0 l.length) x, 0)
  else if l.length = 32 then (l, 8) else (l.take (bsF l x.f0 l.length 0 l.length) ++ x :: l.drop (bsF l x.f0 l.length 0 l.length), 0)
def links_Put.f (k : Nat) (l0 : List S24) (a1_0 a1_1 : Int) : Option (List S24 × Int) := (links_Check.f k l0).bind fun y => if y ≠ 0 then some ([], 2) else (links_right.f a1_0 a1_1).bind fun t => if t = true then some (putL l0 ⟨a1_0, a1_1⟩) else some ([], 2)
theorem links_Put.mono : ∀ a0 a1 a2 k, LeO (links_Put.f k a0 a1 a2) (links_Put.f (k + 1) a0 a1 a2) := by
  intro a0 a1 a2 k
  unfold links_Put.f
  exact LeO.bind (links_Check.mono _ _) (fun _ => LeO.refl _)
theorem check_len {k : Nat} {l : List S24} (h : links_Check.f k l = some 0) : l.length ≤ 32 := by
  unfold links_Check.f at h
  by_cases c : (l.length : Int) > 32
  · rw [if_pos c] at h
    exact absurd (Option.some.inj h) (by decide)
  · omega
set_option maxRecDepth 100000 in
set_option maxHeartbeats 8000000 in
theorem links_Put.calls (k : Nat) (A0 : Option Addr) (c0 : Nat) (l0 : List (S24)) (a1_0 : Int) (a1_1 : Int) (r1 : List (S24)) (r2 : Int) (w : World) (hr0 : Kd.C k24 w A0 l0.length l0) (hc0 : l0.length ≤ c0) (h : links_Put.f k l0 a1_0 a1_1 = some (r1, r2)) :
    Calls Try.prog 7 #[.slice A0 l0.length c0, .agg #[.int .i64 a1_0, .int .i64 a1_1]] w fun e w' => ∃ v0_ : Value, e = .returned (.tuple #[v0_, .int .i64 r2]) ∧ Kd.R k24 24 w' w.heap.size (fun _ => True) v0_ r1 ∧ Below w.heap.size w w' := by
  obtain ⟨y, hy, h⟩ := Option.bind_eq_some_iff.mp h
  have HY := Aside0.mk hy
  have HC0 := Aside0.mk hc0
  have HR0 := Aside0.mk hr0
  have HB1 := Aside0.mk (below_alloc (Below.refl w.heap.size w) (.cells #[.int .i64 a1_0, .int .i64 a1_1] 24))
  have HX1 : Aside0 ((w.alloc (.cells #[.int .i64 a1_0, .int .i64 a1_1] 24)).heap[w.heap.size]? = some (.cells #[.int .i64 a1_0, .int .i64 a1_1] 24 (0, 0))) := ⟨heap_alloc_new w _⟩
  clear hy hr0 hc0
  go_enter Try.func7, Try.ntmps7
  by_cases cy : y ≠ 0
  · rw [if_pos cy] at h
    obtain ⟨e1, e2⟩ := Prod.mk.inj (Option.some.inj h)
    subst e1
    subst e2
    have d0 : (y != 0) = true := bne_iff_ne.mpr cy
    clear cy h
    go_wp2_with (go_at_call 12; refine (links_Check.calls k _ _ l0 y _ (Kd.C_below HR0.out HB1.out) HC0.out HY.out).mono ?_; rintro e w5 ⟨rfl, hb5⟩; have HB5 := Aside0.mk (below_step HB1.out hb5); clear hb5)
    go_ret2
    exact ⟨_, rfl, Kd.R_nil _ _ _ _ _, HB5.out⟩
  · have cy0 : y = 0 := Decidable.not_not.mp cy
    subst cy0
    rw [if_neg cy] at h
    clear cy
    have d0 : ((0 : Int) != 0) = false := rfl
    obtain ⟨t, ht, h⟩ := Option.bind_eq_some_iff.mp h
    have HT := Aside0.mk ht
    have HLL := Aside0.mk (check_len HY.out)
    clear ht
    cases t with
    | false =>
      rw [if_neg (by decide)] at h
      obtain ⟨e1, e2⟩ := Prod.mk.inj (Option.some.inj h)
      subst e1
      subst e2
      clear h
      go_wp2_with (first | (go_at_call 12; refine (links_Check.calls k _ _ l0 0 _ (Kd.C_below HR0.out HB1.out) HC0.out HY.out).mono ?_; rintro e w5 ⟨rfl, hb5⟩; have HB5 := Aside0.mk (below_step HB1.out hb5); have HX5 := Aside0.mk (blk_below HX1.out hb5); have ca5 : w5.cell? ⟨w.heap.size, 0, none⟩ = some (.int .i64 a1_0) := (blk_cell HX5.out 0).trans rfl; have cb5 : w5.cell? ⟨w.heap.size, 1, none⟩ = some (.int .i64 a1_1) := (blk_cell HX5.out 1).trans rfl; clear hb5)
                         | (go_at_call 20; refine (links_right.calls a1_0 a1_1 false _ HT.out).mono ?_; rintro e w6 ⟨rfl, hb6⟩; have HB6 := Aside0.mk (below_step HB5.out hb6); clear hb6))
      go_ret2
      exact ⟨_, rfl, Kd.R_nil _ _ _ _ _, HB6.out⟩
    | true =>
      rw [if_pos rfl] at h
      have hL := HLL.out
      obtain ⟨p, hp⟩ : ∃ p, bsF l0 a1_0 l0.length 0 l0.length = p := ⟨_, rfl⟩
      have hpl : p ≤ l0.length := by rw [← hp]; exact bsF_le _ _ _ _ _ (Nat.zero_le _)
      have hv := Option.some.inj h
      unfold putL at hv
      have hF : links_find.f k l0 a1_0 = some ((p : Int), decide (p < l0.length ∧ (rd_T24 l0 (p : Int)).f0 = a1_0)) := by
        unfold links_find.f
        rw [if_pos (by omega), hp]
      rw [show (⟨a1_0, a1_1⟩ : S24).f0 = a1_0 from rfl, hp] at hv
      have HPL := Aside0.mk hpl
      clear h hp
      by_cases cf : p < l0.length ∧ (rd_T24 l0 (p : Int)).f0 = a1_0
      · rw [if_pos cf] at hv
        rw [decide_eq_true cf] at hF
        obtain ⟨e1, e2⟩ := Prod.mk.inj hv
        subst e1
        subst e2
        have HF := Aside0.mk hF
        have HP := Aside0.mk cf.1
        have q0 : (0 ≤ (p : Int)) = True := eq_true (by omega)
        have q1 : ((p : Int) < (l0.length : Int)) = True := eq_true (by omega)
        clear hv hF cf hpl hL
        go_wp2_with (first | (go_at_call 12; refine (links_Check.calls k _ _ l0 0 _ (Kd.C_below HR0.out HB1.out) HC0.out HY.out).mono ?_; rintro e w5 ⟨rfl, hb5⟩; have HB5 := Aside0.mk (below_step HB1.out hb5); have HX5 := Aside0.mk (blk_below HX1.out hb5); have ca5 : w5.cell? ⟨w.heap.size, 0, none⟩ = some (.int .i64 a1_0) := (blk_cell HX5.out 0).trans rfl; have cb5 : w5.cell? ⟨w.heap.size, 1, none⟩ = some (.int .i64 a1_1) := (blk_cell HX5.out 1).trans rfl; clear hb5) | (go_at_call 20; refine (links_right.calls a1_0 a1_1 true _ HT.out).mono ?_; rintro e w6 ⟨rfl, hb6⟩; have HB6 := Aside0.mk (below_step HB5.out hb6); have HX6 := Aside0.mk (blk_below HX5.out hb6); have ca6 : w6.cell? ⟨w.heap.size, 0, none⟩ = some (.int .i64 a1_0) := (blk_cell HX6.out 0).trans rfl; have cb6 : w6.cell? ⟨w.heap.size, 1, none⟩ = some (.int .i64 a1_1) := (blk_cell HX6.out 1).trans rfl; clear hb6) | (go_at_call 21; refine (cloneL_is _ _ l0 (by have := HLL.out; omega) _ (Kd.C_below HR0.out HB6.out) HC0.out).mono ?_; rintro e w7 ⟨v7, rfl, ho7, hb7⟩; have HB7 := Aside0.mk (below_step HB6.out hb7); have HX7 := Aside0.mk (blk_below HX6.out hb7); have ca7 : w7.cell? ⟨w.heap.size, 0, none⟩ = some (.int .i64 a1_0) := (blk_cell HX7.out 0).trans rfl; have cb7 : w7.cell? ⟨w.heap.size, 1, none⟩ = some (.int .i64 a1_1) := (blk_cell HX7.out 1).trans rfl; obtain ⟨A7, c7, rfl⟩ := Kd.R_slice ho7; have HO7 := Aside0.mk (Kd.R_lower ho7 HB6.out.size); clear hb7 ho7) | (go_at_call 22; refine (find_is k _ _ l0 a1_0 _ _ _ (Kd.R_reads' HO7.out).2.2 (Kd.R_reads' HO7.out).2.1 HF.out).mono ?_; rintro e w8 ⟨rfl, hb8⟩; have HB8 := Aside0.mk (below_step HB7.out hb8); have HX8 := Aside0.mk (blk_below HX7.out hb8); have ca8 : w8.cell? ⟨w.heap.size, 0, none⟩ = some (.int .i64 a1_0) := (blk_cell HX8.out 0).trans rfl; have cb8 : w8.cell? ⟨w.heap.size, 1, none⟩ = some (.int .i64 a1_1) := (blk_cell HX8.out 1).trans rfl; have HO8 := Aside0.mk (Kd.R_below HO7.out hb8); clear hb8; obtain ⟨ad, ead, _⟩ := (Kd.R_reads' HO8.out).2.2.2.2 (by have := HP.out; omega); subst ead; obtain ⟨g, sp, rfl, _, hbg, _, hg, hnc, hcm, hcs⟩ := flatLk.own HO8.out; have hs0 : ∃ u, w8.cell? ⟨g, p * 2, none⟩ = some u := put_cell hg HP.out 0 (by omega); have hs1 := put_cell hg HP.out 1 (by omega); obtain ⟨u0, hu0⟩ := hs0; obtain ⟨u1, hu1⟩ := hs1; have hf0 : w8.frozen? ⟨g, p * 2, none⟩ = false := blk_frozen hg _; have hf1 : w8.frozen? ⟨g, p * 2 + 1, none⟩ = false := blk_frozen hg _; have HR9 := Aside0.mk (put_row hbg hg hnc hcm hcs HP.out ⟨a1_0, a1_1⟩); have HB9 := Aside0.mk ((HB8.out.setCell (p := ⟨g, p * 2, none⟩) hbg (.int .i64 a1_0)).setCell (p := ⟨g, p * 2 + 1, none⟩) hbg (.int .i64 a1_1)); clear hg hnc hcm hcs hbg))
        go_ret2
        exact ⟨_, rfl, HR9.out, HB9.out⟩
      · rw [if_neg cf] at hv
        rw [decide_eq_false cf] at hF
        have HF := Aside0.mk hF
        clear hF cf
        by_cases c32 : l0.length = 32
        · rw [if_pos c32] at hv
          obtain ⟨e1, e2⟩ := Prod.mk.inj hv
          subst e1
          subst e2
          have d32 : ((l0.length : Int) == 32) = true := beq_iff_eq.mpr (by omega)
          clear hv c32 hpl hL
          go_wp2_with (first | (go_at_call 12; refine (links_Check.calls k _ _ l0 0 _ (Kd.C_below HR0.out HB1.out) HC0.out HY.out).mono ?_; rintro e w5 ⟨rfl, hb5⟩; have HB5 := Aside0.mk (below_step HB1.out hb5); have HX5 := Aside0.mk (blk_below HX1.out hb5); have ca5 : w5.cell? ⟨w.heap.size, 0, none⟩ = some (.int .i64 a1_0) := (blk_cell HX5.out 0).trans rfl; have cb5 : w5.cell? ⟨w.heap.size, 1, none⟩ = some (.int .i64 a1_1) := (blk_cell HX5.out 1).trans rfl; clear hb5) | (go_at_call 20; refine (links_right.calls a1_0 a1_1 true _ HT.out).mono ?_; rintro e w6 ⟨rfl, hb6⟩; have HB6 := Aside0.mk (below_step HB5.out hb6); have HX6 := Aside0.mk (blk_below HX5.out hb6); have ca6 : w6.cell? ⟨w.heap.size, 0, none⟩ = some (.int .i64 a1_0) := (blk_cell HX6.out 0).trans rfl; have cb6 : w6.cell? ⟨w.heap.size, 1, none⟩ = some (.int .i64 a1_1) := (blk_cell HX6.out 1).trans rfl; clear hb6) | (go_at_call 21; refine (cloneL_is _ _ l0 (by have := HLL.out; omega) _ (Kd.C_below HR0.out HB6.out) HC0.out).mono ?_; rintro e w7 ⟨v7, rfl, ho7, hb7⟩; have HB7 := Aside0.mk (below_step HB6.out hb7); have HX7 := Aside0.mk (blk_below HX6.out hb7); have ca7 : w7.cell? ⟨w.heap.size, 0, none⟩ = some (.int .i64 a1_0) := (blk_cell HX7.out 0).trans rfl; have cb7 : w7.cell? ⟨w.heap.size, 1, none⟩ = some (.int .i64 a1_1) := (blk_cell HX7.out 1).trans rfl; obtain ⟨A7, c7, rfl⟩ := Kd.R_slice ho7; have HO7 := Aside0.mk (Kd.R_lower ho7 HB6.out.size); clear hb7 ho7) | (go_at_call 22; refine (find_is k _ _ l0 a1_0 _ _ _ (Kd.R_reads' HO7.out).2.2 (Kd.R_reads' HO7.out).2.1 HF.out).mono ?_; rintro e w8 ⟨rfl, hb8⟩; have HB8 := Aside0.mk (below_step HB7.out hb8); have HX8 := Aside0.mk (blk_below HX7.out hb8); have ca8 : w8.cell? ⟨w.heap.size, 0, none⟩ = some (.int .i64 a1_0) := (blk_cell HX8.out 0).trans rfl; have cb8 : w8.cell? ⟨w.heap.size, 1, none⟩ = some (.int .i64 a1_1) := (blk_cell HX8.out 1).trans rfl; have HO8 := Aside0.mk (Kd.R_below HO7.out hb8); clear hb8))
          go_ret2
          exact ⟨_, rfl, HO8.out, HB8.out⟩
        · rw [if_neg c32] at hv
          obtain ⟨e1, e2⟩ := Prod.mk.inj hv
          subst e1
          subst e2
          have d32 : ((l0.length : Int) == 32) = false := beq_eq_false_iff_ne.mpr (by omega)
          clear hv c32 hpl hL
          go_wp2_with (first | (go_at_call 12; refine (links_Check.calls k _ _ l0 0 _ (Kd.C_below HR0.out HB1.out) HC0.out HY.out).mono ?_; rintro e w5 ⟨rfl, hb5⟩; have HB5 := Aside0.mk (below_step HB1.out hb5); have HX5 := Aside0.mk (blk_below HX1.out hb5); have ca5 : w5.cell? ⟨w.heap.size, 0, none⟩ = some (.int .i64 a1_0) := (blk_cell HX5.out 0).trans rfl; have cb5 : w5.cell? ⟨w.heap.size, 1, none⟩ = some (.int .i64 a1_1) := (blk_cell HX5.out 1).trans rfl; clear hb5) | (go_at_call 20; refine (links_right.calls a1_0 a1_1 true _ HT.out).mono ?_; rintro e w6 ⟨rfl, hb6⟩; have HB6 := Aside0.mk (below_step HB5.out hb6); have HX6 := Aside0.mk (blk_below HX5.out hb6); have ca6 : w6.cell? ⟨w.heap.size, 0, none⟩ = some (.int .i64 a1_0) := (blk_cell HX6.out 0).trans rfl; have cb6 : w6.cell? ⟨w.heap.size, 1, none⟩ = some (.int .i64 a1_1) := (blk_cell HX6.out 1).trans rfl; clear hb6) | (go_at_call 21; refine (cloneL_is _ _ l0 (by have := HLL.out; omega) _ (Kd.C_below HR0.out HB6.out) HC0.out).mono ?_; rintro e w7 ⟨v7, rfl, ho7, hb7⟩; have HB7 := Aside0.mk (below_step HB6.out hb7); have HX7 := Aside0.mk (blk_below HX6.out hb7); have ca7 : w7.cell? ⟨w.heap.size, 0, none⟩ = some (.int .i64 a1_0) := (blk_cell HX7.out 0).trans rfl; have cb7 : w7.cell? ⟨w.heap.size, 1, none⟩ = some (.int .i64 a1_1) := (blk_cell HX7.out 1).trans rfl; obtain ⟨A7, c7, rfl⟩ := Kd.R_slice ho7; have HO7 := Aside0.mk (Kd.R_lower ho7 HB6.out.size); clear hb7 ho7) | (go_at_call 22; refine (find_is k _ _ l0 a1_0 _ _ _ (Kd.R_reads' HO7.out).2.2 (Kd.R_reads' HO7.out).2.1 HF.out).mono ?_; rintro e w8 ⟨rfl, hb8⟩; have HB8 := Aside0.mk (below_step HB7.out hb8); have HX8 := Aside0.mk (blk_below HX7.out hb8); have ca8 : w8.cell? ⟨w.heap.size, 0, none⟩ = some (.int .i64 a1_0) := (blk_cell HX8.out 0).trans rfl; have cb8 : w8.cell? ⟨w.heap.size, 1, none⟩ = some (.int .i64 a1_1) := (blk_cell HX8.out 1).trans rfl; have HO8 := Aside0.mk (Kd.R_below HO7.out hb8); clear hb8) | (go_at_call 23; refine (insert_is _ w w.heap.size A7 c7 p l0 ⟨a1_0, a1_1⟩ w8.heap.size (R_ne HO8.out _) HPL.out (by have := HLL.out; omega) (heap_alloc_new w8 _) (below_step HB8.out (below_alloc (Below.refl _ _) _)) (by have := HB8.out.size; simp; omega)).mono ?_; rintro e w9 ⟨v9, rfl, ho9, hb9⟩; have HO9 := Aside0.mk ho9; have HB9 := Aside0.mk hb9; clear ho9 hb9))
          go_ret2
          exact ⟨_, rfl, HO9.out, HB9.out⟩
def spoorref16_one.f (a0_0 : Int) (a0_1 : Int) : Option (Bool) := if a0_0 ≥ 0 then (if a0_0 ≤ 65536 then (if a0_1 ≥ 0 then (some (decide (a0_1 ≤ 1048576))) else (some false)) else (some false)) else (some false)
set_option maxHeartbeats 8000000 in
set_option maxRecDepth 100000 in
theorem spoorref16_one.calls (a0_0 : Int) (a0_1 : Int) (r : Bool) (w : World) (h : spoorref16_one.f a0_0 a0_1 = some r) :
  Calls Try.prog 24 #[.agg #[.int .i64 a0_0, .int .i64 a0_1]] w fun e w' => e = .returned (.bool r) ∧ Below w.heap.size w w' := by
 have hu24 := Try.underlying24
 have HB := Ax (Below.refl w.heap.size w)
 have H : (if a0_0 ≥ 0 then (if a0_0 ≤ 65536 then (if a0_1 ≥ 0 then (some (decide (a0_1 ≤ 1048576))) else (some false)) else (some false)) else (some false)) = some r := h
 clear h
 by_cases c2 : a0_0 ≥ 0
 ·rw [if_pos c2] at H
  have c2b0 : decide (0 ≤ a0_0) = true := decide_eq_true c2
  clear c2
  by_cases c3 : a0_0 ≤ 65536
  ·rw [if_pos c3] at H
   have c3b0 : decide (a0_0 ≤ 65536) = true := decide_eq_true c3
   clear c3
   by_cases c4 : a0_1 ≥ 0
   ·rw [if_pos c4] at H
    have c4b0 : decide (0 ≤ a0_1) = true := decide_eq_true c4
    clear c4
    obtain rfl := Option.some.inj H
    go_enter Try.func24, Try.ntmps24
    go_wp2_with (first | ((with_reducible refine gate_dst (N := 1) rfl ?_); refine box_event ?hg (N := 1) ?hd (cs := #[.int .i64 a0_0, .int .i64 a0_1]) (t := 24) ?hr ?_; (case hd => rfl); (case hg => rfl); (case hr => first | (go_simp; done) | (go_simp; rfl)); intro gb120 hg w5 hbox hb; have n0_ := Bs0 HB hb; have n1_ := Ax (hbox); have n2_ := Gw0 HB hg; have n3_ := Gw0 HB hg; clear HB; have HB := n0_; have BK120 := n1_; have GW120 := n2_; have GE120 := n3_; clear n0_ n1_ n2_ n3_; clear hb hbox hg; obtain ⟨hcz6_0, hcz6_1, hfz6_0, hfz6_1⟩ := cl2 BK120))
    go_ret
    exact ⟨eS, bw1 HB.out GE120.out⟩
   ·rw [if_neg c4] at H
    have c4b0 : decide (0 ≤ a0_1) = false := decide_eq_false c4
    clear c4
    obtain rfl := Option.some.inj H
    go_enter Try.func24, Try.ntmps24
    go_wp2_with (first | ((with_reducible refine gate_dst (N := 1) rfl ?_); refine box_event ?hg (N := 1) ?hd (cs := #[.int .i64 a0_0, .int .i64 a0_1]) (t := 24) ?hr ?_; (case hd => rfl); (case hg => rfl); (case hr => first | (go_simp; done) | (go_simp; rfl)); intro gb120 hg w7 hbox hb; have n0_ := Bs0 HB hb; have n1_ := Ax (hbox); have n2_ := Gw0 HB hg; have n3_ := Gw0 HB hg; clear HB; have HB := n0_; have BK120 := n1_; have GW120 := n2_; have GE120 := n3_; clear n0_ n1_ n2_ n3_; clear hb hbox hg; obtain ⟨hcz8_0, hcz8_1, hfz8_0, hfz8_1⟩ := cl2 BK120))
    go_ret
    exact ⟨eS, bw1 HB.out GE120.out⟩
  ·rw [if_neg c3] at H
   have c3b0 : decide (a0_0 ≤ 65536) = false := decide_eq_false c3
   clear c3
   obtain rfl := Option.some.inj H
   go_enter Try.func24, Try.ntmps24
   go_wp2_with (first | ((with_reducible refine gate_dst (N := 1) rfl ?_); refine box_event ?hg (N := 1) ?hd (cs := #[.int .i64 a0_0, .int .i64 a0_1]) (t := 24) ?hr ?_; (case hd => rfl); (case hg => rfl); (case hr => first | (go_simp; done) | (go_simp; rfl)); intro gb120 hg w9 hbox hb; have n0_ := Bs0 HB hb; have n1_ := Ax (hbox); have n2_ := Gw0 HB hg; have n3_ := Gw0 HB hg; clear HB; have HB := n0_; have BK120 := n1_; have GW120 := n2_; have GE120 := n3_; clear n0_ n1_ n2_ n3_; clear hb hbox hg; obtain ⟨hcz10_0, hcz10_1, hfz10_0, hfz10_1⟩ := cl2 BK120))
   go_ret
   exact ⟨eS, bw1 HB.out GE120.out⟩
 ·rw [if_neg c2] at H
  have c2b0 : decide (0 ≤ a0_0) = false := decide_eq_false c2
  clear c2
  obtain rfl := Option.some.inj H
  go_enter Try.func24, Try.ntmps24
  go_wp2_with (first | ((with_reducible refine gate_dst (N := 1) rfl ?_); refine box_event ?hg (N := 1) ?hd (cs := #[.int .i64 a0_0, .int .i64 a0_1]) (t := 24) ?hr ?_; (case hd => rfl); (case hg => rfl); (case hr => first | (go_simp; done) | (go_simp; rfl)); intro gb120 hg w11 hbox hb; have n0_ := Bs0 HB hb; have n1_ := Ax (hbox); have n2_ := Gw0 HB hg; have n3_ := Gw0 HB hg; clear HB; have HB := n0_; have BK120 := n1_; have GW120 := n2_; have GE120 := n3_; clear n0_ n1_ n2_ n3_; clear hb hbox hg; obtain ⟨hcz12_0, hcz12_1, hfz12_0, hfz12_1⟩ := cl2 BK120))
  go_ret
  exact ⟨eS, bw1 HB.out GE120.out⟩
def spoorref16_Check.l0 : Nat → List (S24) → List (S24) → Int → Int → Option (Int)
 | 0, _, _, _, _ => none
 | k + 1, x0, x8, x9, x10 => if x10 < x9 then (if 0 ≤ x10 then (if x10 < (x8.length : Int) then ((spoorref16_one.f ((rd_T24 x8 x10).f0) ((rd_T24 x8 x10).f1)).bind fun t123 => (if t123 = true then (if x10 > 0 then (if 0 ≤ (wrap64 (x10 - 1)) then (if (wrap64 (x10 - 1)) < (x0.length : Int) then (if ((rd_T24 x0 (wrap64 (x10 - 1))).f0) ≥ ((rd_T24 x8 x10).f0) then (some 2) else (spoorref16_Check.l0 k x0 x8 x9 (wrap64 (x10 + 1)))) else (none)) else (none)) else (spoorref16_Check.l0 k x0 x8 x9 (wrap64 (x10 + 1)))) else (some 2))) else (none)) else (none)) else (some 0)
def spoorref16_Check.f (k : Nat) (l0 : List (S24)) : Option (Int) := if (l0.length : Int) > 32 then (some 2) else (spoorref16_Check.l0 k l0 l0 (l0.length : Int) 0)
def spoorref16_Check.T6 : Bool × List (List Nat × List Nat) := (true, [([], []), ([0], [0]), ([1], [1]), ([2, 1], [2]), ([3], [3]), ([4, 3], [3, 4]), ([5, 3, 3], [3, 5]), ([6], [6]), ([6], [6]), ([8, 6], [6, 8]), ([7, 9, 6], [6, 7, 9]), ([10, 6], [6, 10]), ([11, 6], [6, 11]), ([6], [6]), ([13, 6], [6, 13]), ([12, 14, 6], [6, 12, 14]), ([6, 15, 3], [3, 6, 15]), ([3, 16], [3, 16])])
def spoorref16_Check.B6 : List Nat := [0, 1, 3, 7, 15, 31, 63, 127, 127, 383, 1023, 2047, 4095, 127, 8319, 32767, 65535, 131071]
theorem spoorref16_Check.tab6 : rtab .any (opsOf Try.f13 6) = spoorref16_Check.T6 := by kernel_rfl
theorem spoorref16_Check.bits6 : waitsOk spoorref16_Check.T6.2 spoorref16_Check.B6 = true := by kernel_rfl
set_option maxHeartbeats 8000000 in
set_option maxRecDepth 100000 in
theorem spoorref16_Check.calls (k : Nat) (A0 : Option Addr) (c0 : Nat) (l0 : List (S24)) (r : Int) (w : World) (hr0 : Kd.C k24 w A0 l0.length l0) (hc0 : l0.length ≤ c0) (h : spoorref16_Check.f k l0 = some r) :
  Calls Try.prog 13 #[.slice A0 l0.length c0] w fun e w' => e = .returned (.int .i64 r) ∧ Below w.heap.size w w' := by
 have hu24 := Try.underlying24
 have HR0 := Ax hr0
 have HC0 := Ax hc0
 clear hr0 hc0
 have HB := Ax (Below.refl w.heap.size w)
 have H : (if (l0.length : Int) > 32 then (some 2) else (spoorref16_Check.l0 k l0 l0 (l0.length : Int) 0)) = some r := h
 clear h
 by_cases c2 : (l0.length : Int) > 32
 ·rw [if_pos c2] at H
  have c2b0 : decide (32 < (l0.length : Int)) = true := decide_eq_true c2
  have c2b1 : decide (32 < l0.length) = true := decide_eq_true (by omega)
  clear c2
  obtain rfl := Option.some.inj H
  go_enter Try.func13, Try.ntmps13
  go_wp2
  go_ret
  exact ⟨eS, bw0 HB.out⟩
 ·rw [if_neg c2] at H
  have c2b0 : decide (32 < (l0.length : Int)) = false := decide_eq_false c2
  have c2b1 : decide (32 < l0.length) = false := decide_eq_false (by omega)
  clear c2
  have H' := Ax H
  clear H
  go_enter Try.func13, Try.ntmps13
  go_wp2
  go_loopg [10] k (fun kq v10 w' => ∃ (x10_1 : Int), v10 = .int .i64 x10_1 ∧ Aside0 (spoorref16_Check.l0 kq l0 l0 (l0.length : Int) x10_1 = some r) ∧ Aside0 (kq ≤ k) ∧ Aside0 (Below w.heap.size w w'))
  case atStart => exact ⟨(0), rS, H', ⟨Nat.le_refl _⟩, ⟨bw0 HB.out⟩⟩
  case round =>
   clear H'
   try clear c1
   try clear c2
   try clear c2b0
   try clear c2b1
   try clear p2
   obtain ⟨x10_1, rfl, HA, HK1, HB⟩ := hrel
   cases gk with
   | zero => exact absurd HA.out (by simp [spoorref16_Check.l0])
   | succ k1 =>
    have H := HA.out
    clear HA
    simp only [spoorref16_Check.l0] at H
    by_cases c3 : x10_1 < (l0.length : Int)
    ·rw [if_pos c3] at H
     have c3b0 : decide (x10_1 < (l0.length : Int)) = true := decide_eq_true c3
     clear c3
     by_cases c4 : 0 ≤ x10_1
     ·rw [if_pos c4] at H
      have c4b0 : decide (0 ≤ x10_1) = true := decide_eq_true c4
      clear c4
      by_cases c5 : x10_1 < (l0.length : Int)
      ·rw [if_pos c5] at H
       have c5b0 : decide (x10_1 < (l0.length : Int)) = true := decide_eq_true c5
       clear c5
       replace H := Option.bind_eq_some_iff.mp H
       obtain ⟨t123, A60, H⟩ := H
       replace H : (if t123 = true then (if x10_1 > 0 then (if 0 ≤ (wrap64 (x10_1 - 1)) then (if (wrap64 (x10_1 - 1)) < (l0.length : Int) then (if ((rd_T24 l0 (wrap64 (x10_1 - 1))).f0) ≥ ((rd_T24 l0 x10_1).f0) then (some 2) else (spoorref16_Check.l0 k1 l0 l0 (l0.length : Int) (wrap64 (x10_1 + 1)))) else (none)) else (none)) else (spoorref16_Check.l0 k1 l0 l0 (l0.length : Int) (wrap64 (x10_1 + 1)))) else (some 2)) = some r := H
       have A6 := Ax A60
       clear A60
       by_cases c7 : t123 = true
       ·subst c7
        have H1 : (if x10_1 > 0 then (if 0 ≤ (wrap64 (x10_1 - 1)) then (if (wrap64 (x10_1 - 1)) < (l0.length : Int) then (if ((rd_T24 l0 (wrap64 (x10_1 - 1))).f0) ≥ ((rd_T24 l0 x10_1).f0) then (some 2) else (spoorref16_Check.l0 k1 l0 l0 (l0.length : Int) (wrap64 (x10_1 + 1)))) else (none)) else (none)) else (spoorref16_Check.l0 k1 l0 l0 (l0.length : Int) (wrap64 (x10_1 + 1)))) = some r := by rw [if_pos rfl] at H; exact H
        clear H
        have H := H1
        clear H1
        by_cases c8 : x10_1 > 0
        ·rw [if_pos c8] at H
         have c8b0 : decide (0 < x10_1) = true := decide_eq_true c8
         clear c8
         obtain ⟨ji9, hji9⟩ : ∃ j_ : Int, (wrap64 (x10_1 - 1)) = j_ := ⟨_, rfl⟩
         replace H : (if 0 ≤ (ji9) then (if (ji9) < (l0.length : Int) then (if ((rd_T24 l0 (ji9)).f0) ≥ ((rd_T24 l0 x10_1).f0) then (some 2) else (spoorref16_Check.l0 k1 l0 l0 (l0.length : Int) (wrap64 (x10_1 + 1)))) else (none)) else (none)) = some r := by first | (rw [hji9] at H; exact H) | (simp only [hji9] at H ⊢; exact H)
         (try rw [hji9] at A6)
         have hji9w : (IntKind.i64.wrap (x10_1 - 1)) = ji9 := (i64_w _).trans hji9
         by_cases c10 : 0 ≤ (ji9)
         ·rw [if_pos c10] at H
          have c10b0 : decide (0 ≤ (ji9)) = true := decide_eq_true c10
          clear c10
          by_cases c11 : (ji9) < (l0.length : Int)
          ·rw [if_pos c11] at H
           have c11b0 : decide ((ji9) < (l0.length : Int)) = true := decide_eq_true c11
           clear c11
           by_cases c12 : ((rd_T24 l0 (ji9)).f0) ≥ ((rd_T24 l0 x10_1).f0)
           ·rw [if_pos c12] at H
            have c12b0 : decide (((rd_T24 l0 x10_1).f0) ≤ ((rd_T24 l0 (ji9)).f0)) = true := decide_eq_true c12
            clear c12
            obtain rfl := Option.some.inj H
            have p121 : 0 ≤ (x10_1 : Int) := of_decide_eq_true (by first | (with_reducible assumption) | assumption)
            have q121 : x10_1 < (l0.length : Int) := of_decide_eq_true (by first | (with_reducible assumption) | assumption)
            obtain ⟨ad121, e121, hx121_0, hx121_1⟩ := at_T24 HR0.out x10_1 p121 q121
            cases e121
            replace hx121_0 := (HB.out.cell (World.block_lt_of_cell? w _ hx121_0)).trans hx121_0
            replace hx121_1 := (HB.out.cell (World.block_lt_of_cell? w _ hx121_1)).trans hx121_1
            replace p121 := eq_true p121
            replace q121 := eq_true q121
            try go_wp2_with (first | ((with_reducible refine gate_dst (N := 4) rfl ?_); refine box_event ?hg (N := 4) ?hd (cs := #[.int .i64 0, .int .i64 0]) (t := 24) ?hr ?_; (case hd => rfl); (case hg => rfl); (case hr => first | (go_simp; done) | (go_simp; rfl)); intro gb122 hg w13 hbox hb; have n0_ := Bs0 HB hb; have n1_ := Ax (hbox); have n2_ := Gw0 HB hg; have n3_ := Gw0 HB hg; clear HB; have HB := n0_; have BK122 := n1_; have GW122 := n2_; have GE122 := n3_; clear n0_ n1_ n2_ n3_; clear hb hbox hg; obtain ⟨hcz14_0, hcz14_1, hfz14_0, hfz14_1⟩ := cl2 BK122))
            have n0_ : Aside0 (((w13.setCell ⟨gb122, 0, none⟩ (.int .i64 ((rd_T24 l0 x10_1).f0))).setCell ⟨gb122, 1, none⟩ (.int .i64 ((rd_T24 l0 x10_1).f1))).heap[gb122]? = some (.cells #[.int .i64 ((rd_T24 l0 x10_1).f0), .int .i64 ((rd_T24 l0 x10_1).f1)] 24 (0, 0))) := ⟨by (with_reducible repeat (first | refine blk_drewN ?_ _ | refine blk_drew ?_ | refine blk_alloc ?_ _)); refine blk_put (cs := #[.int .i64 ((rd_T24 l0 x10_1).f0), .int .i64 0]) ?_ 1 _ rfl; (with_reducible repeat (first | refine blk_drewN ?_ _ | refine blk_drew ?_ | refine blk_alloc ?_ _)); refine blk_put (cs := #[.int .i64 0, .int .i64 0]) ?_ 0 _ rfl; (with_reducible repeat (first | refine blk_drewN ?_ _ | refine blk_drew ?_ | refine blk_alloc ?_ _)); exact BK122.out⟩
            have n1_ : Aside0 (Below w.heap.size w ((w13.setCell ⟨gb122, 0, none⟩ (.int .i64 ((rd_T24 l0 x10_1).f0))).setCell ⟨gb122, 1, none⟩ (.int .i64 ((rd_T24 l0 x10_1).f1)))) := ⟨bw1 HB.out GE122.out⟩
            (try clear BK122)
            (try clear HB)
            generalize ((w13.setCell ⟨gb122, 0, none⟩ (.int .i64 ((rd_T24 l0 x10_1).f0))).setCell ⟨gb122, 1, none⟩ (.int .i64 ((rd_T24 l0 x10_1).f1))) = w15 at n0_ n1_ ⊢
            have BK122 := n0_
            have HB := n1_
            clear n0_ n1_
            replace BK122 := Ax (blk_drew BK122.out)
            replace HB := Ax (below_drew1 HB.out)
            have p124 : 0 ≤ ((ji9) : Int) := of_decide_eq_true (by first | (with_reducible assumption) | assumption)
            have q124 : (ji9) < (l0.length : Int) := of_decide_eq_true (by first | (with_reducible assumption) | assumption)
            obtain ⟨ad124, e124, hx124_0, hx124_1⟩ := at_T24 HR0.out (ji9) p124 q124
            have hw124_1 := hx124_1
            have hw124_0 := hx124_0
            obtain rfl : ad121 = ad124 := (by injection e124)
            replace hx124_0 := (HB.out.cell (World.block_lt_of_cell? w _ hx124_0)).trans hx124_0
            replace hx124_1 := (HB.out.cell (World.block_lt_of_cell? w _ hx124_1)).trans hx124_1
            replace p124 := eq_true p124
            replace q124 := eq_true q124
            refine start_ (n := 18) (S := fun w' => w'.cell? ⟨gb122, 0, none⟩ = some (.int .i64 ((rd_T24 l0 x10_1).f0)) ∧ w'.cell? ⟨gb122, 1, none⟩ = some (.int .i64 ((rd_T24 l0 x10_1).f1)) ∧ w'.cell? (ad121.add (((ji9)).toNat * 2)) = some (.int .i64 ((rd_T24 l0 (ji9)).f0)) ∧ w'.cell? ⟨(ad121.add (((ji9)).toNat * 2)).block, (ad121.add (((ji9)).toNat * 2)).off + 1, none⟩ = some (.int .i64 ((rd_T24 l0 (ji9)).f1))) (ds := []) #[fa,fa,fa,fa,fa,fa,fa,fa,fa,fa,fa,fa,fa,fa,fa,fa,fa,fa] (by kernel_rfl) rfl rfl ⟨(blk_cell BK122.out 0).trans rfl, (blk_cell BK122.out 1).trans rfl, ((HB.out.cell (World.block_lt_of_cell? w _ hw124_0)).trans hw124_0), ((HB.out.cell (World.block_lt_of_cell? w _ hw124_1)).trans hw124_1)⟩ (fun hHeld => ?_); refine with_tabW spoorref16_Check.tab6 spoorref16_Check.bits6 (fun HT_ HW_ => ?_)
            generalize w15.drew = w16 at BK122 HB hx124_0 hx124_1 hHeld ⊢
            refine take_ (i := 0) (N := some 15) (v := ?_) (a' := ?_) #[tr,fa,fa,fa,fa,fa,fa,fa,fa,fa,fa,fa,fa,fa,fa,fa,fa,fa] rfl rfl (take_ofW HT_.out HW_.out (by kernel_rfl)) (fun _ _ _ h => h) (Or.inl ⟨by rfl, ?_⟩) hHeld ?_ ?_
            rotate_left
            ·rintro w' ⟨s0, s1, s2, s3⟩
             go_simp
             with_reducible rfl
            rotate_left
            ·simp only [sP]
             rfl
            refine one_ (i := 1) (N := some 16) #[tr,tr,fa,fa,fa,fa,fa,fa,fa,fa,fa,fa,fa,fa,fa,fa,fa,fa] rfl rfl (one_of HT_.out (by kernel_rfl)) (by decide) (fun K hK => ?_)
            refine goes_ Try.func24 (by kernel_rfl) rfl #[.agg #[.int .i64 ((rd_T24 l0 x10_1).f0), .int .i64 ((rd_T24 l0 x10_1).f1)]] (by rfl) rfl rfl gS ?_
            with_reducible refine (spoorref16_one.calls ((rd_T24 l0 x10_1).f0) ((rd_T24 l0 x10_1).f1) true _ A6.out).mono ?_
            rintro e w17 ⟨rfl, hb⟩
            refine ⟨_, rfl, ?_⟩
            replace BK122 := Bx0 BK122 hb
            replace HB := Bs1 HB hb GE122.out
            (try clear hb)
            refine hK.out _ _ ⟨(blk_cell BK122.out 0).trans rfl, (blk_cell BK122.out 1).trans rfl, ((HB.out.cell (World.block_lt_of_cell? w _ hw124_0)).trans hw124_0), ((HB.out.cell (World.block_lt_of_cell? w _ hw124_1)).trans hw124_1)⟩ (fun hHeld => ?_)
            clear hK K
            refine norm_ (a' := ?_) ?_ ?_
            rotate_left
            ·show Act.put _ (some 16) _ = _
             simp only [sP]
             rfl
            refine pure_ (i := 2) (N := some 17) (v := ?_) (a' := ?_) #[tr,tr,tr,fa,fa,fa,fa,fa,fa,fa,fa,fa,fa,fa,fa,fa,fa,fa] rfl rfl (any_of HT_.out (by kernel_rfl)) (fun _ _ _ h => h) (Or.inl ⟨by rfl, ?_⟩) ?_ ?_
            rotate_left
            ·intro w'
             go_simp
             with_reducible rfl
            rotate_left
            ·simp only [sP]
             rfl
            refine pure_ (i := 3) (N := some 18) (v := ?_) (a' := ?_) #[tr,tr,tr,tr,fa,fa,fa,fa,fa,fa,fa,fa,fa,fa,fa,fa,fa,fa] rfl rfl (any_of HT_.out (by kernel_rfl)) (fun _ _ _ h => h) (Or.inl ⟨by rfl, ?_⟩) ?_ ?_
            rotate_left
            ·intro w'
             go_simp
             with_reducible rfl
            rotate_left
            ·simp only [sP]
             rfl
            refine pure_ (i := 4) (N := some 19) (v := ?_) (a' := ?_) #[tr,tr,tr,tr,tr,fa,fa,fa,fa,fa,fa,fa,fa,fa,fa,fa,fa,fa] rfl rfl (any_of HT_.out (by kernel_rfl)) (fun _ _ _ h => h) (Or.inl ⟨by rfl, ?_⟩) ?_ ?_
            rotate_left
            ·intro w'
             go_simp
             with_reducible rfl
            rotate_left
            ·simp only [sP]
             rfl
            refine pure_ (i := 5) (N := some 20) (v := ?_) (a' := ?_) #[tr,tr,tr,tr,tr,tr,fa,fa,fa,fa,fa,fa,fa,fa,fa,fa,fa,fa] rfl rfl (any_of HT_.out (by kernel_rfl)) (fun _ _ _ h => h) (Or.inl ⟨by rfl, ?_⟩) ?_ ?_
            rotate_left
            ·intro w'
             go_simp
             with_reducible rfl
            rotate_left
            ·simp only [sP]
             rfl
            refine pure_ (i := 6) (N := some 21) (v := ?_) (a' := ?_) #[tr,tr,tr,tr,tr,tr,tr,fa,fa,fa,fa,fa,fa,fa,fa,fa,fa,fa] rfl rfl (any_of HT_.out (by kernel_rfl)) (fun _ _ _ h => h) (Or.inl ⟨by rfl, ?_⟩) ?_ ?_
            rotate_left
            ·intro w'
             go_simp
             with_reducible rfl
            rotate_left
            ·simp only [sP]
             rfl
            refine pure_ (i := 7) (N := some 22) (v := ?_) (a' := ?_) #[tr,tr,tr,tr,tr,tr,tr,tr,fa,fa,fa,fa,fa,fa,fa,fa,fa,fa] rfl rfl (any_of HT_.out (by kernel_rfl)) (fun _ _ _ h => h) (Or.inl ⟨by rfl, ?_⟩) ?_ ?_
            rotate_left
            ·intro w'
             go_simp
             with_reducible rfl
            rotate_left
            ·simp only [sP]
             rfl
            refine pure_ (i := 8) (N := some 23) (v := ?_) (a' := ?_) #[tr,tr,tr,tr,tr,tr,tr,tr,tr,fa,fa,fa,fa,fa,fa,fa,fa,fa] rfl rfl (any_of HT_.out (by kernel_rfl)) (fun _ _ _ h => h) (Or.inl ⟨by rfl, ?_⟩) ?_ ?_
            rotate_left
            ·intro w'
             go_simp
             with_reducible rfl
            rotate_left
            ·simp only [sP]
             rfl
            refine pure_ (i := 9) (N := some 24) (v := ?_) (a' := ?_) #[tr,tr,tr,tr,tr,tr,tr,tr,tr,tr,fa,fa,fa,fa,fa,fa,fa,fa] rfl rfl (any_of HT_.out (by kernel_rfl)) (fun _ _ _ h => h) (Or.inl ⟨by rfl, ?_⟩) ?_ ?_
            rotate_left
            ·intro w'
             go_simp
             with_reducible rfl
            rotate_left
            ·simp only [sP]
             rfl
            refine pure_ (i := 10) (N := some 25) (v := ?_) (a' := ?_) #[tr,tr,tr,tr,tr,tr,tr,tr,tr,tr,tr,fa,fa,fa,fa,fa,fa,fa] rfl rfl (any_of HT_.out (by kernel_rfl)) (fun _ _ _ h => h) (Or.inl ⟨by rfl, ?_⟩) ?_ ?_
            rotate_left
            ·intro w'
             go_simp
             with_reducible rfl
            rotate_left
            ·simp only [sP]
             rfl
            refine pure_ (i := 11) (N := some 26) (v := ?_) (a' := ?_) #[tr,tr,tr,tr,tr,tr,tr,tr,tr,tr,tr,tr,fa,fa,fa,fa,fa,fa] rfl rfl (any_of HT_.out (by kernel_rfl)) (fun _ _ _ h => h) (Or.inl ⟨by rfl, ?_⟩) ?_ ?_
            rotate_left
            ·intro w'
             go_simp
             with_reducible rfl
            rotate_left
            ·simp only [sP]
             rfl
            refine pure_ (i := 13) (N := some 28) (v := ?_) (a' := ?_) #[tr,tr,tr,tr,tr,tr,tr,tr,tr,tr,tr,tr,fa,tr,fa,fa,fa,fa] rfl rfl (any_of HT_.out (by kernel_rfl)) (fun _ _ _ h => h) (Or.inl ⟨by rfl, ?_⟩) ?_ ?_
            rotate_left
            ·intro w'
             go_simp
             with_reducible rfl
            rotate_left
            ·simp only [sP]
             rfl
            refine take_ (i := 12) (N := some 27) (v := ?_) (a' := ?_) #[tr,tr,tr,tr,tr,tr,tr,tr,tr,tr,tr,tr,tr,tr,fa,fa,fa,fa] rfl rfl (take_ofW HT_.out HW_.out (by kernel_rfl)) (fun _ _ _ h => h) (Or.inl ⟨by rfl, ?_⟩) hHeld ?_ ?_
            rotate_left
            ·rintro w' ⟨s0, s1, s2, s3⟩
             go_simp
             with_reducible rfl
            rotate_left
            ·simp only [sP]
             rfl
            refine take_ (i := 14) (N := some 29) (v := ?_) (a' := ?_) #[tr,tr,tr,tr,tr,tr,tr,tr,tr,tr,tr,tr,tr,tr,tr,fa,fa,fa] rfl rfl (take_ofW HT_.out HW_.out (by kernel_rfl)) (fun _ _ _ h => h) (Or.inl ⟨by rfl, ?_⟩) hHeld ?_ ?_
            rotate_left
            ·rintro w' ⟨s0, s1, s2, s3⟩
             go_simp
             with_reducible rfl
            rotate_left
            ·simp only [sP]
             rfl
            refine pure_ (i := 15) (N := some 30) (v := ?_) (a' := ?_) #[tr,tr,tr,tr,tr,tr,tr,tr,tr,tr,tr,tr,tr,tr,tr,tr,fa,fa] rfl rfl (any_of HT_.out (by kernel_rfl)) (fun _ _ _ h => h) (Or.inl ⟨by rfl, ?_⟩) ?_ ?_
            rotate_left
            ·intro w'
             go_simp
             with_reducible rfl
            rotate_left
            ·simp only [sP]
             rfl
            refine pure_ (i := 16) (N := some 31) (v := ?_) (a' := ?_) #[tr,tr,tr,tr,tr,tr,tr,tr,tr,tr,tr,tr,tr,tr,tr,tr,tr,fa] rfl rfl (any_of HT_.out (by kernel_rfl)) (fun _ _ _ h => h) (Or.inl ⟨by rfl, ?_⟩) ?_ ?_
            rotate_left
            ·intro w'
             go_simp
             with_reducible rfl
            rotate_left
            ·simp only [sP]
             rfl
            refine pure_ (i := 17) (N := some 32) (v := ?_) (a' := ?_) #[tr,tr,tr,tr,tr,tr,tr,tr,tr,tr,tr,tr,tr,tr,tr,tr,tr,tr] rfl rfl (any_of HT_.out (by kernel_rfl)) (fun _ _ _ h => h) (Or.inl ⟨by rfl, ?_⟩) ?_ ?_
            rotate_left
            ·intro w'
             go_simp
             with_reducible rfl
            rotate_left
            ·simp only [sP]
             rfl
            refine done_ (done_of HT_.out (by kernel_rfl)) ?_
            try go_wp2
            go_ret
            exact ⟨by first | rfl | (simp [errW_none, errW_some] <;> rfl) | (simp only [← hji9]; first | rfl | (simp [errW_none, errW_some] <;> rfl)) | (simp [*, errW_none, errW_some] <;> rfl), bw1 HB.out GE122.out⟩
           ·rw [if_neg c12] at H
            have c12b0 : decide (((rd_T24 l0 x10_1).f0) ≤ ((rd_T24 l0 (ji9)).f0)) = false := decide_eq_false c12
            clear c12
            have H' := Ax H
            clear H
            have p121 : 0 ≤ (x10_1 : Int) := of_decide_eq_true (by first | (with_reducible assumption) | assumption)
            have q121 : x10_1 < (l0.length : Int) := of_decide_eq_true (by first | (with_reducible assumption) | assumption)
            obtain ⟨ad121, e121, hx121_0, hx121_1⟩ := at_T24 HR0.out x10_1 p121 q121
            cases e121
            replace hx121_0 := (HB.out.cell (World.block_lt_of_cell? w _ hx121_0)).trans hx121_0
            replace hx121_1 := (HB.out.cell (World.block_lt_of_cell? w _ hx121_1)).trans hx121_1
            replace p121 := eq_true p121
            replace q121 := eq_true q121
            try go_wp2_with (first | ((with_reducible refine gate_dst (N := 4) rfl ?_); refine box_event ?hg (N := 4) ?hd (cs := #[.int .i64 0, .int .i64 0]) (t := 24) ?hr ?_; (case hd => rfl); (case hg => rfl); (case hr => first | (go_simp; done) | (go_simp; rfl)); intro gb122 hg w18 hbox hb; have n0_ := Bs0 HB hb; have n1_ := Ax (hbox); have n2_ := Gw0 HB hg; have n3_ := Gw0 HB hg; clear HB; have HB := n0_; have BK122 := n1_; have GW122 := n2_; have GE122 := n3_; clear n0_ n1_ n2_ n3_; clear hb hbox hg; obtain ⟨hcz19_0, hcz19_1, hfz19_0, hfz19_1⟩ := cl2 BK122))
            have n0_ : Aside0 (((w18.setCell ⟨gb122, 0, none⟩ (.int .i64 ((rd_T24 l0 x10_1).f0))).setCell ⟨gb122, 1, none⟩ (.int .i64 ((rd_T24 l0 x10_1).f1))).heap[gb122]? = some (.cells #[.int .i64 ((rd_T24 l0 x10_1).f0), .int .i64 ((rd_T24 l0 x10_1).f1)] 24 (0, 0))) := ⟨by (with_reducible repeat (first | refine blk_drewN ?_ _ | refine blk_drew ?_ | refine blk_alloc ?_ _)); refine blk_put (cs := #[.int .i64 ((rd_T24 l0 x10_1).f0), .int .i64 0]) ?_ 1 _ rfl; (with_reducible repeat (first | refine blk_drewN ?_ _ | refine blk_drew ?_ | refine blk_alloc ?_ _)); refine blk_put (cs := #[.int .i64 0, .int .i64 0]) ?_ 0 _ rfl; (with_reducible repeat (first | refine blk_drewN ?_ _ | refine blk_drew ?_ | refine blk_alloc ?_ _)); exact BK122.out⟩
            have n1_ : Aside0 (Below w.heap.size w ((w18.setCell ⟨gb122, 0, none⟩ (.int .i64 ((rd_T24 l0 x10_1).f0))).setCell ⟨gb122, 1, none⟩ (.int .i64 ((rd_T24 l0 x10_1).f1)))) := ⟨bw1 HB.out GE122.out⟩
            (try clear BK122)
            (try clear HB)
            generalize ((w18.setCell ⟨gb122, 0, none⟩ (.int .i64 ((rd_T24 l0 x10_1).f0))).setCell ⟨gb122, 1, none⟩ (.int .i64 ((rd_T24 l0 x10_1).f1))) = w20 at n0_ n1_ ⊢
            have BK122 := n0_
            have HB := n1_
            clear n0_ n1_
            replace BK122 := Ax (blk_drew BK122.out)
            replace HB := Ax (below_drew1 HB.out)
            have p124 : 0 ≤ ((ji9) : Int) := of_decide_eq_true (by first | (with_reducible assumption) | assumption)
            have q124 : (ji9) < (l0.length : Int) := of_decide_eq_true (by first | (with_reducible assumption) | assumption)
            obtain ⟨ad124, e124, hx124_0, hx124_1⟩ := at_T24 HR0.out (ji9) p124 q124
            have hw124_1 := hx124_1
            have hw124_0 := hx124_0
            obtain rfl : ad121 = ad124 := (by injection e124)
            replace hx124_0 := (HB.out.cell (World.block_lt_of_cell? w _ hx124_0)).trans hx124_0
            replace hx124_1 := (HB.out.cell (World.block_lt_of_cell? w _ hx124_1)).trans hx124_1
            replace p124 := eq_true p124
            replace q124 := eq_true q124
            refine start_ (n := 18) (S := fun w' => w'.cell? ⟨gb122, 0, none⟩ = some (.int .i64 ((rd_T24 l0 x10_1).f0)) ∧ w'.cell? ⟨gb122, 1, none⟩ = some (.int .i64 ((rd_T24 l0 x10_1).f1)) ∧ w'.cell? (ad121.add (((ji9)).toNat * 2)) = some (.int .i64 ((rd_T24 l0 (ji9)).f0)) ∧ w'.cell? ⟨(ad121.add (((ji9)).toNat * 2)).block, (ad121.add (((ji9)).toNat * 2)).off + 1, none⟩ = some (.int .i64 ((rd_T24 l0 (ji9)).f1))) (ds := []) #[fa,fa,fa,fa,fa,fa,fa,fa,fa,fa,fa,fa,fa,fa,fa,fa,fa,fa] (by kernel_rfl) rfl rfl ⟨(blk_cell BK122.out 0).trans rfl, (blk_cell BK122.out 1).trans rfl, ((HB.out.cell (World.block_lt_of_cell? w _ hw124_0)).trans hw124_0), ((HB.out.cell (World.block_lt_of_cell? w _ hw124_1)).trans hw124_1)⟩ (fun hHeld => ?_); refine with_tabW spoorref16_Check.tab6 spoorref16_Check.bits6 (fun HT_ HW_ => ?_)
            generalize w20.drew = w21 at BK122 HB hx124_0 hx124_1 hHeld ⊢
            refine take_ (i := 0) (N := some 15) (v := ?_) (a' := ?_) #[tr,fa,fa,fa,fa,fa,fa,fa,fa,fa,fa,fa,fa,fa,fa,fa,fa,fa] rfl rfl (take_ofW HT_.out HW_.out (by kernel_rfl)) (fun _ _ _ h => h) (Or.inl ⟨by rfl, ?_⟩) hHeld ?_ ?_
            rotate_left
            ·rintro w' ⟨s0, s1, s2, s3⟩
             go_simp
             with_reducible rfl
            rotate_left
            ·simp only [sP]
             rfl
            refine one_ (i := 1) (N := some 16) #[tr,tr,fa,fa,fa,fa,fa,fa,fa,fa,fa,fa,fa,fa,fa,fa,fa,fa] rfl rfl (one_of HT_.out (by kernel_rfl)) (by decide) (fun K hK => ?_)
            refine goes_ Try.func24 (by kernel_rfl) rfl #[.agg #[.int .i64 ((rd_T24 l0 x10_1).f0), .int .i64 ((rd_T24 l0 x10_1).f1)]] (by rfl) rfl rfl gS ?_
            with_reducible refine (spoorref16_one.calls ((rd_T24 l0 x10_1).f0) ((rd_T24 l0 x10_1).f1) true _ A6.out).mono ?_
            rintro e w22 ⟨rfl, hb⟩
            refine ⟨_, rfl, ?_⟩
            replace BK122 := Bx0 BK122 hb
            replace HB := Bs1 HB hb GE122.out
            (try clear hb)
            refine hK.out _ _ ⟨(blk_cell BK122.out 0).trans rfl, (blk_cell BK122.out 1).trans rfl, ((HB.out.cell (World.block_lt_of_cell? w _ hw124_0)).trans hw124_0), ((HB.out.cell (World.block_lt_of_cell? w _ hw124_1)).trans hw124_1)⟩ (fun hHeld => ?_)
            clear hK K
            refine norm_ (a' := ?_) ?_ ?_
            rotate_left
            ·show Act.put _ (some 16) _ = _
             simp only [sP]
             rfl
            refine pure_ (i := 2) (N := some 17) (v := ?_) (a' := ?_) #[tr,tr,tr,fa,fa,fa,fa,fa,fa,fa,fa,fa,fa,fa,fa,fa,fa,fa] rfl rfl (any_of HT_.out (by kernel_rfl)) (fun _ _ _ h => h) (Or.inl ⟨by rfl, ?_⟩) ?_ ?_
            rotate_left
            ·intro w'
             go_simp
             with_reducible rfl
            rotate_left
            ·simp only [sP]
             rfl
            refine pure_ (i := 3) (N := some 18) (v := ?_) (a' := ?_) #[tr,tr,tr,tr,fa,fa,fa,fa,fa,fa,fa,fa,fa,fa,fa,fa,fa,fa] rfl rfl (any_of HT_.out (by kernel_rfl)) (fun _ _ _ h => h) (Or.inl ⟨by rfl, ?_⟩) ?_ ?_
            rotate_left
            ·intro w'
             go_simp
             with_reducible rfl
            rotate_left
            ·simp only [sP]
             rfl
            refine pure_ (i := 4) (N := some 19) (v := ?_) (a' := ?_) #[tr,tr,tr,tr,tr,fa,fa,fa,fa,fa,fa,fa,fa,fa,fa,fa,fa,fa] rfl rfl (any_of HT_.out (by kernel_rfl)) (fun _ _ _ h => h) (Or.inl ⟨by rfl, ?_⟩) ?_ ?_
            rotate_left
            ·intro w'
             go_simp
             with_reducible rfl
            rotate_left
            ·simp only [sP]
             rfl
            refine pure_ (i := 5) (N := some 20) (v := ?_) (a' := ?_) #[tr,tr,tr,tr,tr,tr,fa,fa,fa,fa,fa,fa,fa,fa,fa,fa,fa,fa] rfl rfl (any_of HT_.out (by kernel_rfl)) (fun _ _ _ h => h) (Or.inl ⟨by rfl, ?_⟩) ?_ ?_
            rotate_left
            ·intro w'
             go_simp
             with_reducible rfl
            rotate_left
            ·simp only [sP]
             rfl
            refine pure_ (i := 6) (N := some 21) (v := ?_) (a' := ?_) #[tr,tr,tr,tr,tr,tr,tr,fa,fa,fa,fa,fa,fa,fa,fa,fa,fa,fa] rfl rfl (any_of HT_.out (by kernel_rfl)) (fun _ _ _ h => h) (Or.inl ⟨by rfl, ?_⟩) ?_ ?_
            rotate_left
            ·intro w'
             go_simp
             with_reducible rfl
            rotate_left
            ·simp only [sP]
             rfl
            refine pure_ (i := 7) (N := some 22) (v := ?_) (a' := ?_) #[tr,tr,tr,tr,tr,tr,tr,tr,fa,fa,fa,fa,fa,fa,fa,fa,fa,fa] rfl rfl (any_of HT_.out (by kernel_rfl)) (fun _ _ _ h => h) (Or.inl ⟨by rfl, ?_⟩) ?_ ?_
            rotate_left
            ·intro w'
             go_simp
             with_reducible rfl
            rotate_left
            ·simp only [sP]
             rfl
            refine pure_ (i := 8) (N := some 23) (v := ?_) (a' := ?_) #[tr,tr,tr,tr,tr,tr,tr,tr,tr,fa,fa,fa,fa,fa,fa,fa,fa,fa] rfl rfl (any_of HT_.out (by kernel_rfl)) (fun _ _ _ h => h) (Or.inl ⟨by rfl, ?_⟩) ?_ ?_
            rotate_left
            ·intro w'
             go_simp
             with_reducible rfl
            rotate_left
            ·simp only [sP]
             rfl
            refine pure_ (i := 9) (N := some 24) (v := ?_) (a' := ?_) #[tr,tr,tr,tr,tr,tr,tr,tr,tr,tr,fa,fa,fa,fa,fa,fa,fa,fa] rfl rfl (any_of HT_.out (by kernel_rfl)) (fun _ _ _ h => h) (Or.inl ⟨by rfl, ?_⟩) ?_ ?_
            rotate_left
            ·intro w'
             go_simp
             with_reducible rfl
            rotate_left
            ·simp only [sP]
             rfl
            refine pure_ (i := 10) (N := some 25) (v := ?_) (a' := ?_) #[tr,tr,tr,tr,tr,tr,tr,tr,tr,tr,tr,fa,fa,fa,fa,fa,fa,fa] rfl rfl (any_of HT_.out (by kernel_rfl)) (fun _ _ _ h => h) (Or.inl ⟨by rfl, ?_⟩) ?_ ?_
            rotate_left
            ·intro w'
             go_simp
             with_reducible rfl
            rotate_left
            ·simp only [sP]
             rfl
            refine pure_ (i := 11) (N := some 26) (v := ?_) (a' := ?_) #[tr,tr,tr,tr,tr,tr,tr,tr,tr,tr,tr,tr,fa,fa,fa,fa,fa,fa] rfl rfl (any_of HT_.out (by kernel_rfl)) (fun _ _ _ h => h) (Or.inl ⟨by rfl, ?_⟩) ?_ ?_
            rotate_left
            ·intro w'
             go_simp
             with_reducible rfl
            rotate_left
            ·simp only [sP]
             rfl
            refine pure_ (i := 13) (N := some 28) (v := ?_) (a' := ?_) #[tr,tr,tr,tr,tr,tr,tr,tr,tr,tr,tr,tr,fa,tr,fa,fa,fa,fa] rfl rfl (any_of HT_.out (by kernel_rfl)) (fun _ _ _ h => h) (Or.inl ⟨by rfl, ?_⟩) ?_ ?_
            rotate_left
            ·intro w'
             go_simp
             with_reducible rfl
            rotate_left
            ·simp only [sP]
             rfl
            refine take_ (i := 12) (N := some 27) (v := ?_) (a' := ?_) #[tr,tr,tr,tr,tr,tr,tr,tr,tr,tr,tr,tr,tr,tr,fa,fa,fa,fa] rfl rfl (take_ofW HT_.out HW_.out (by kernel_rfl)) (fun _ _ _ h => h) (Or.inl ⟨by rfl, ?_⟩) hHeld ?_ ?_
            rotate_left
            ·rintro w' ⟨s0, s1, s2, s3⟩
             go_simp
             with_reducible rfl
            rotate_left
            ·simp only [sP]
             rfl
            refine take_ (i := 14) (N := some 29) (v := ?_) (a' := ?_) #[tr,tr,tr,tr,tr,tr,tr,tr,tr,tr,tr,tr,tr,tr,tr,fa,fa,fa] rfl rfl (take_ofW HT_.out HW_.out (by kernel_rfl)) (fun _ _ _ h => h) (Or.inl ⟨by rfl, ?_⟩) hHeld ?_ ?_
            rotate_left
            ·rintro w' ⟨s0, s1, s2, s3⟩
             go_simp
             with_reducible rfl
            rotate_left
            ·simp only [sP]
             rfl
            refine pure_ (i := 15) (N := some 30) (v := ?_) (a' := ?_) #[tr,tr,tr,tr,tr,tr,tr,tr,tr,tr,tr,tr,tr,tr,tr,tr,fa,fa] rfl rfl (any_of HT_.out (by kernel_rfl)) (fun _ _ _ h => h) (Or.inl ⟨by rfl, ?_⟩) ?_ ?_
            rotate_left
            ·intro w'
             go_simp
             with_reducible rfl
            rotate_left
            ·simp only [sP]
             rfl
            refine pure_ (i := 16) (N := some 31) (v := ?_) (a' := ?_) #[tr,tr,tr,tr,tr,tr,tr,tr,tr,tr,tr,tr,tr,tr,tr,tr,tr,fa] rfl rfl (any_of HT_.out (by kernel_rfl)) (fun _ _ _ h => h) (Or.inl ⟨by rfl, ?_⟩) ?_ ?_
            rotate_left
            ·intro w'
             go_simp
             with_reducible rfl
            rotate_left
            ·simp only [sP]
             rfl
            refine pure_ (i := 17) (N := some 32) (v := ?_) (a' := ?_) #[tr,tr,tr,tr,tr,tr,tr,tr,tr,tr,tr,tr,tr,tr,tr,tr,tr,tr] rfl rfl (any_of HT_.out (by kernel_rfl)) (fun _ _ _ h => h) (Or.inl ⟨by rfl, ?_⟩) ?_ ?_
            rotate_left
            ·intro w'
             go_simp
             with_reducible rfl
            rotate_left
            ·simp only [sP]
             rfl
            refine done_ (done_of HT_.out (by kernel_rfl)) ?_
            try go_wp2
            go_roundg k1
            case measure => have := HK1.out; omega
            case rel => exact ⟨(wrap64 (x10_1 + 1)), rS, H', ⟨by have := HK1.out; omega⟩, ⟨bw1 HB.out GE122.out⟩⟩
          ·rw [if_neg c11] at H
           exact absurd H (by simp)
         ·rw [if_neg c10] at H
          exact absurd H (by simp)
        ·rw [if_neg c8] at H
         have c8b0 : decide (0 < x10_1) = false := decide_eq_false c8
         clear c8
         have H' := Ax H
         clear H
         have p121 : 0 ≤ (x10_1 : Int) := of_decide_eq_true (by first | (with_reducible assumption) | assumption)
         have q121 : x10_1 < (l0.length : Int) := of_decide_eq_true (by first | (with_reducible assumption) | assumption)
         obtain ⟨ad121, e121, hx121_0, hx121_1⟩ := at_T24 HR0.out x10_1 p121 q121
         cases e121
         replace hx121_0 := (HB.out.cell (World.block_lt_of_cell? w _ hx121_0)).trans hx121_0
         replace hx121_1 := (HB.out.cell (World.block_lt_of_cell? w _ hx121_1)).trans hx121_1
         replace p121 := eq_true p121
         replace q121 := eq_true q121
         try go_wp2_with (first | ((with_reducible refine gate_dst (N := 4) rfl ?_); refine box_event ?hg (N := 4) ?hd (cs := #[.int .i64 0, .int .i64 0]) (t := 24) ?hr ?_; (case hd => rfl); (case hg => rfl); (case hr => first | (go_simp; done) | (go_simp; rfl)); intro gb122 hg w23 hbox hb; have n0_ := Bs0 HB hb; have n1_ := Ax (hbox); have n2_ := Gw0 HB hg; have n3_ := Gw0 HB hg; clear HB; have HB := n0_; have BK122 := n1_; have GW122 := n2_; have GE122 := n3_; clear n0_ n1_ n2_ n3_; clear hb hbox hg; obtain ⟨hcz24_0, hcz24_1, hfz24_0, hfz24_1⟩ := cl2 BK122))
         have n0_ : Aside0 (((w23.setCell ⟨gb122, 0, none⟩ (.int .i64 ((rd_T24 l0 x10_1).f0))).setCell ⟨gb122, 1, none⟩ (.int .i64 ((rd_T24 l0 x10_1).f1))).heap[gb122]? = some (.cells #[.int .i64 ((rd_T24 l0 x10_1).f0), .int .i64 ((rd_T24 l0 x10_1).f1)] 24 (0, 0))) := ⟨by (with_reducible repeat (first | refine blk_drewN ?_ _ | refine blk_drew ?_ | refine blk_alloc ?_ _)); refine blk_put (cs := #[.int .i64 ((rd_T24 l0 x10_1).f0), .int .i64 0]) ?_ 1 _ rfl; (with_reducible repeat (first | refine blk_drewN ?_ _ | refine blk_drew ?_ | refine blk_alloc ?_ _)); refine blk_put (cs := #[.int .i64 0, .int .i64 0]) ?_ 0 _ rfl; (with_reducible repeat (first | refine blk_drewN ?_ _ | refine blk_drew ?_ | refine blk_alloc ?_ _)); exact BK122.out⟩
         have n1_ : Aside0 (Below w.heap.size w ((w23.setCell ⟨gb122, 0, none⟩ (.int .i64 ((rd_T24 l0 x10_1).f0))).setCell ⟨gb122, 1, none⟩ (.int .i64 ((rd_T24 l0 x10_1).f1)))) := ⟨bw1 HB.out GE122.out⟩
         (try clear BK122)
         (try clear HB)
         generalize ((w23.setCell ⟨gb122, 0, none⟩ (.int .i64 ((rd_T24 l0 x10_1).f0))).setCell ⟨gb122, 1, none⟩ (.int .i64 ((rd_T24 l0 x10_1).f1))) = w25 at n0_ n1_ ⊢
         have BK122 := n0_
         have HB := n1_
         clear n0_ n1_
         replace BK122 := Ax (blk_drew BK122.out)
         replace HB := Ax (below_drew1 HB.out)
         refine start_ (n := 18) (S := fun w' => w'.cell? ⟨gb122, 0, none⟩ = some (.int .i64 ((rd_T24 l0 x10_1).f0)) ∧ w'.cell? ⟨gb122, 1, none⟩ = some (.int .i64 ((rd_T24 l0 x10_1).f1))) (ds := []) #[fa,fa,fa,fa,fa,fa,fa,fa,fa,fa,fa,fa,fa,fa,fa,fa,fa,fa] (by kernel_rfl) rfl rfl ⟨(blk_cell BK122.out 0).trans rfl, (blk_cell BK122.out 1).trans rfl⟩ (fun hHeld => ?_); refine with_tabW spoorref16_Check.tab6 spoorref16_Check.bits6 (fun HT_ HW_ => ?_)
         generalize w25.drew = w26 at BK122 HB hHeld ⊢
         refine take_ (i := 0) (N := some 15) (v := ?_) (a' := ?_) #[tr,fa,fa,fa,fa,fa,fa,fa,fa,fa,fa,fa,fa,fa,fa,fa,fa,fa] rfl rfl (take_ofW HT_.out HW_.out (by kernel_rfl)) (fun _ _ _ h => h) (Or.inl ⟨by rfl, ?_⟩) hHeld ?_ ?_
         rotate_left
         ·rintro w' ⟨s0, s1⟩
          go_simp
          with_reducible rfl
         rotate_left
         ·simp only [sP]
          rfl
         refine one_ (i := 1) (N := some 16) #[tr,tr,fa,fa,fa,fa,fa,fa,fa,fa,fa,fa,fa,fa,fa,fa,fa,fa] rfl rfl (one_of HT_.out (by kernel_rfl)) (by decide) (fun K hK => ?_)
         refine goes_ Try.func24 (by kernel_rfl) rfl #[.agg #[.int .i64 ((rd_T24 l0 x10_1).f0), .int .i64 ((rd_T24 l0 x10_1).f1)]] (by rfl) rfl rfl gS ?_
         with_reducible refine (spoorref16_one.calls ((rd_T24 l0 x10_1).f0) ((rd_T24 l0 x10_1).f1) true _ A6.out).mono ?_
         rintro e w27 ⟨rfl, hb⟩
         refine ⟨_, rfl, ?_⟩
         replace BK122 := Bx0 BK122 hb
         replace HB := Bs1 HB hb GE122.out
         (try clear hb)
         refine hK.out _ _ ⟨(blk_cell BK122.out 0).trans rfl, (blk_cell BK122.out 1).trans rfl⟩ (fun hHeld => ?_)
         clear hK K
         refine norm_ (a' := ?_) ?_ ?_
         rotate_left
         ·show Act.put _ (some 16) _ = _
          simp only [sP]
          rfl
         refine pure_ (i := 2) (N := some 17) (v := ?_) (a' := ?_) #[tr,tr,tr,fa,fa,fa,fa,fa,fa,fa,fa,fa,fa,fa,fa,fa,fa,fa] rfl rfl (any_of HT_.out (by kernel_rfl)) (fun _ _ _ h => h) (Or.inl ⟨by rfl, ?_⟩) ?_ ?_
         rotate_left
         ·intro w'
          go_simp
          with_reducible rfl
         rotate_left
         ·simp only [sP]
          rfl
         refine pure_ (i := 3) (N := some 18) (v := ?_) (a' := ?_) #[tr,tr,tr,tr,fa,fa,fa,fa,fa,fa,fa,fa,fa,fa,fa,fa,fa,fa] rfl rfl (any_of HT_.out (by kernel_rfl)) (fun _ _ _ h => h) (Or.inl ⟨by rfl, ?_⟩) ?_ ?_
         rotate_left
         ·intro w'
          go_simp
          with_reducible rfl
         rotate_left
         ·simp only [sP]
          rfl
         refine pure_ (i := 4) (N := some 19) (v := ?_) (a' := ?_) #[tr,tr,tr,tr,tr,fa,fa,fa,fa,fa,fa,fa,fa,fa,fa,fa,fa,fa] rfl rfl (any_of HT_.out (by kernel_rfl)) (fun _ _ _ h => h) (Or.inl ⟨by rfl, ?_⟩) ?_ ?_
         rotate_left
         ·intro w'
          go_simp
          with_reducible rfl
         rotate_left
         ·simp only [sP]
          rfl
         refine pure_ (i := 5) (N := some 20) (v := ?_) (a' := ?_) #[tr,tr,tr,tr,tr,tr,fa,fa,fa,fa,fa,fa,fa,fa,fa,fa,fa,fa] rfl rfl (any_of HT_.out (by kernel_rfl)) (fun _ _ _ h => h) (Or.inl ⟨by rfl, ?_⟩) ?_ ?_
         rotate_left
         ·intro w'
          go_simp
          with_reducible rfl
         rotate_left
         ·simp only [sP]
          rfl
         refine pure_ (i := 6) (N := some 21) (v := ?_) (a' := ?_) #[tr,tr,tr,tr,tr,tr,tr,fa,fa,fa,fa,fa,fa,fa,fa,fa,fa,fa] rfl rfl (any_of HT_.out (by kernel_rfl)) (fun _ _ _ h => h) (Or.inl ⟨by rfl, ?_⟩) ?_ ?_
         rotate_left
         ·intro w'
          go_simp
          with_reducible rfl
         rotate_left
         ·simp only [sP]
          rfl
         refine pure_ (i := 7) (N := some 22) (v := undef) (a' := ?_) #[tr,tr,tr,tr,tr,tr,tr,tr,fa,fa,fa,fa,fa,fa,fa,fa,fa,fa] rfl rfl (any_of HT_.out (by kernel_rfl)) (fun _ _ _ h => h) (Or.inr ⟨by rfl, rfl⟩) ?_ ?_
         rotate_left
         ·simp only [sP]
          rfl
         refine pure_ (i := 8) (N := some 23) (v := undef) (a' := ?_) #[tr,tr,tr,tr,tr,tr,tr,tr,tr,fa,fa,fa,fa,fa,fa,fa,fa,fa] rfl rfl (any_of HT_.out (by kernel_rfl)) (fun _ _ _ h => h) (Or.inr ⟨by rfl, rfl⟩) ?_ ?_
         rotate_left
         ·simp only [sP]
          rfl
         refine pure_ (i := 9) (N := some 24) (v := undef) (a' := ?_) #[tr,tr,tr,tr,tr,tr,tr,tr,tr,tr,fa,fa,fa,fa,fa,fa,fa,fa] rfl rfl (any_of HT_.out (by kernel_rfl)) (fun _ _ _ h => h) (Or.inr ⟨by rfl, rfl⟩) ?_ ?_
         rotate_left
         ·simp only [sP]
          rfl
         refine pure_ (i := 10) (N := some 25) (v := undef) (a' := ?_) #[tr,tr,tr,tr,tr,tr,tr,tr,tr,tr,tr,fa,fa,fa,fa,fa,fa,fa] rfl rfl (any_of HT_.out (by kernel_rfl)) (fun _ _ _ h => h) (Or.inr ⟨by rfl, rfl⟩) ?_ ?_
         rotate_left
         ·simp only [sP]
          rfl
         refine pure_ (i := 11) (N := some 26) (v := undef) (a' := ?_) #[tr,tr,tr,tr,tr,tr,tr,tr,tr,tr,tr,tr,fa,fa,fa,fa,fa,fa] rfl rfl (any_of HT_.out (by kernel_rfl)) (fun _ _ _ h => h) (Or.inr ⟨by rfl, rfl⟩) ?_ ?_
         rotate_left
         ·simp only [sP]
          rfl
         refine pure_ (i := 12) (N := some 27) (v := undef) (a' := ?_) #[tr,tr,tr,tr,tr,tr,tr,tr,tr,tr,tr,tr,tr,fa,fa,fa,fa,fa] rfl rfl (any_of HT_.out (by kernel_rfl)) (fun _ _ _ h => h) (Or.inr ⟨by rfl, rfl⟩) ?_ ?_
         rotate_left
         ·simp only [sP]
          rfl
         refine pure_ (i := 13) (N := some 28) (v := undef) (a' := ?_) #[tr,tr,tr,tr,tr,tr,tr,tr,tr,tr,tr,tr,tr,tr,fa,fa,fa,fa] rfl rfl (any_of HT_.out (by kernel_rfl)) (fun _ _ _ h => h) (Or.inr ⟨by rfl, rfl⟩) ?_ ?_
         rotate_left
         ·simp only [sP]
          rfl
         refine pure_ (i := 14) (N := some 29) (v := undef) (a' := ?_) #[tr,tr,tr,tr,tr,tr,tr,tr,tr,tr,tr,tr,tr,tr,tr,fa,fa,fa] rfl rfl (any_of HT_.out (by kernel_rfl)) (fun _ _ _ h => h) (Or.inr ⟨by rfl, rfl⟩) ?_ ?_
         rotate_left
         ·simp only [sP]
          rfl
         refine pure_ (i := 15) (N := some 30) (v := undef) (a' := ?_) #[tr,tr,tr,tr,tr,tr,tr,tr,tr,tr,tr,tr,tr,tr,tr,tr,fa,fa] rfl rfl (any_of HT_.out (by kernel_rfl)) (fun _ _ _ h => h) (Or.inr ⟨by rfl, rfl⟩) ?_ ?_
         rotate_left
         ·simp only [sP]
          rfl
         refine pure_ (i := 16) (N := some 31) (v := ?_) (a' := ?_) #[tr,tr,tr,tr,tr,tr,tr,tr,tr,tr,tr,tr,tr,tr,tr,tr,tr,fa] rfl rfl (any_of HT_.out (by kernel_rfl)) (fun _ _ _ h => h) (Or.inl ⟨by rfl, ?_⟩) ?_ ?_
         rotate_left
         ·intro w'
          go_simp
          with_reducible rfl
         rotate_left
         ·simp only [sP]
          rfl
         refine pure_ (i := 17) (N := some 32) (v := ?_) (a' := ?_) #[tr,tr,tr,tr,tr,tr,tr,tr,tr,tr,tr,tr,tr,tr,tr,tr,tr,tr] rfl rfl (any_of HT_.out (by kernel_rfl)) (fun _ _ _ h => h) (Or.inl ⟨by rfl, ?_⟩) ?_ ?_
         rotate_left
         ·intro w'
          go_simp
          with_reducible rfl
         rotate_left
         ·simp only [sP]
          rfl
         refine done_ (done_of HT_.out (by kernel_rfl)) ?_
         try go_wp2
         go_roundg k1
         case measure => have := HK1.out; omega
         case rel => exact ⟨(wrap64 (x10_1 + 1)), rS, H', ⟨by have := HK1.out; omega⟩, ⟨bw1 HB.out GE122.out⟩⟩
       ·replace c7 := Bool.eq_false_iff.mpr c7
        subst c7
        have H1 : (some 2) = some r := by rw [if_neg (show ¬ (false = true) by decide)] at H; exact H
        clear H
        have H := H1
        clear H1
        obtain rfl := Option.some.inj H
        have p121 : 0 ≤ (x10_1 : Int) := of_decide_eq_true (by first | (with_reducible assumption) | assumption)
        have q121 : x10_1 < (l0.length : Int) := of_decide_eq_true (by first | (with_reducible assumption) | assumption)
        obtain ⟨ad121, e121, hx121_0, hx121_1⟩ := at_T24 HR0.out x10_1 p121 q121
        cases e121
        replace hx121_0 := (HB.out.cell (World.block_lt_of_cell? w _ hx121_0)).trans hx121_0
        replace hx121_1 := (HB.out.cell (World.block_lt_of_cell? w _ hx121_1)).trans hx121_1
        replace p121 := eq_true p121
        replace q121 := eq_true q121
        try go_wp2_with (first | ((with_reducible refine gate_dst (N := 4) rfl ?_); refine box_event ?hg (N := 4) ?hd (cs := #[.int .i64 0, .int .i64 0]) (t := 24) ?hr ?_; (case hd => rfl); (case hg => rfl); (case hr => first | (go_simp; done) | (go_simp; rfl)); intro gb122 hg w28 hbox hb; have n0_ := Bs0 HB hb; have n1_ := Ax (hbox); have n2_ := Gw0 HB hg; have n3_ := Gw0 HB hg; clear HB; have HB := n0_; have BK122 := n1_; have GW122 := n2_; have GE122 := n3_; clear n0_ n1_ n2_ n3_; clear hb hbox hg; obtain ⟨hcz29_0, hcz29_1, hfz29_0, hfz29_1⟩ := cl2 BK122))
        have n0_ : Aside0 (((w28.setCell ⟨gb122, 0, none⟩ (.int .i64 ((rd_T24 l0 x10_1).f0))).setCell ⟨gb122, 1, none⟩ (.int .i64 ((rd_T24 l0 x10_1).f1))).heap[gb122]? = some (.cells #[.int .i64 ((rd_T24 l0 x10_1).f0), .int .i64 ((rd_T24 l0 x10_1).f1)] 24 (0, 0))) := ⟨by (with_reducible repeat (first | refine blk_drewN ?_ _ | refine blk_drew ?_ | refine blk_alloc ?_ _)); refine blk_put (cs := #[.int .i64 ((rd_T24 l0 x10_1).f0), .int .i64 0]) ?_ 1 _ rfl; (with_reducible repeat (first | refine blk_drewN ?_ _ | refine blk_drew ?_ | refine blk_alloc ?_ _)); refine blk_put (cs := #[.int .i64 0, .int .i64 0]) ?_ 0 _ rfl; (with_reducible repeat (first | refine blk_drewN ?_ _ | refine blk_drew ?_ | refine blk_alloc ?_ _)); exact BK122.out⟩
        have n1_ : Aside0 (Below w.heap.size w ((w28.setCell ⟨gb122, 0, none⟩ (.int .i64 ((rd_T24 l0 x10_1).f0))).setCell ⟨gb122, 1, none⟩ (.int .i64 ((rd_T24 l0 x10_1).f1)))) := ⟨bw1 HB.out GE122.out⟩
        (try clear BK122)
        (try clear HB)
        generalize ((w28.setCell ⟨gb122, 0, none⟩ (.int .i64 ((rd_T24 l0 x10_1).f0))).setCell ⟨gb122, 1, none⟩ (.int .i64 ((rd_T24 l0 x10_1).f1))) = w30 at n0_ n1_ ⊢
        have BK122 := n0_
        have HB := n1_
        clear n0_ n1_
        replace BK122 := Ax (blk_drew BK122.out)
        replace HB := Ax (below_drew1 HB.out)
        refine start_ (n := 18) (S := fun w' => w'.cell? ⟨gb122, 0, none⟩ = some (.int .i64 ((rd_T24 l0 x10_1).f0)) ∧ w'.cell? ⟨gb122, 1, none⟩ = some (.int .i64 ((rd_T24 l0 x10_1).f1))) (ds := []) #[fa,fa,fa,fa,fa,fa,fa,fa,fa,fa,fa,fa,fa,fa,fa,fa,fa,fa] (by kernel_rfl) rfl rfl ⟨(blk_cell BK122.out 0).trans rfl, (blk_cell BK122.out 1).trans rfl⟩ (fun hHeld => ?_); refine with_tabW spoorref16_Check.tab6 spoorref16_Check.bits6 (fun HT_ HW_ => ?_)
        generalize w30.drew = w31 at BK122 HB hHeld ⊢
        refine take_ (i := 0) (N := some 15) (v := ?_) (a' := ?_) #[tr,fa,fa,fa,fa,fa,fa,fa,fa,fa,fa,fa,fa,fa,fa,fa,fa,fa] rfl rfl (take_ofW HT_.out HW_.out (by kernel_rfl)) (fun _ _ _ h => h) (Or.inl ⟨by rfl, ?_⟩) hHeld ?_ ?_
        rotate_left
        ·rintro w' ⟨s0, s1⟩
         go_simp
         with_reducible rfl
        rotate_left
        ·simp only [sP]
         rfl
        refine one_ (i := 1) (N := some 16) #[tr,tr,fa,fa,fa,fa,fa,fa,fa,fa,fa,fa,fa,fa,fa,fa,fa,fa] rfl rfl (one_of HT_.out (by kernel_rfl)) (by decide) (fun K hK => ?_)
        refine goes_ Try.func24 (by kernel_rfl) rfl #[.agg #[.int .i64 ((rd_T24 l0 x10_1).f0), .int .i64 ((rd_T24 l0 x10_1).f1)]] (by rfl) rfl rfl gS ?_
        with_reducible refine (spoorref16_one.calls ((rd_T24 l0 x10_1).f0) ((rd_T24 l0 x10_1).f1) false _ A6.out).mono ?_
        rintro e w32 ⟨rfl, hb⟩
        refine ⟨_, rfl, ?_⟩
        replace BK122 := Bx0 BK122 hb
        replace HB := Bs1 HB hb GE122.out
        (try clear hb)
        refine hK.out _ _ ⟨(blk_cell BK122.out 0).trans rfl, (blk_cell BK122.out 1).trans rfl⟩ (fun hHeld => ?_)
        clear hK K
        refine norm_ (a' := ?_) ?_ ?_
        rotate_left
        ·show Act.put _ (some 16) _ = _
         simp only [sP]
         rfl
        refine pure_ (i := 2) (N := some 17) (v := ?_) (a' := ?_) #[tr,tr,tr,fa,fa,fa,fa,fa,fa,fa,fa,fa,fa,fa,fa,fa,fa,fa] rfl rfl (any_of HT_.out (by kernel_rfl)) (fun _ _ _ h => h) (Or.inl ⟨by rfl, ?_⟩) ?_ ?_
        rotate_left
        ·intro w'
         go_simp
         with_reducible rfl
        rotate_left
        ·simp only [sP]
         rfl
        refine pure_ (i := 3) (N := some 18) (v := ?_) (a' := ?_) #[tr,tr,tr,tr,fa,fa,fa,fa,fa,fa,fa,fa,fa,fa,fa,fa,fa,fa] rfl rfl (any_of HT_.out (by kernel_rfl)) (fun _ _ _ h => h) (Or.inl ⟨by rfl, ?_⟩) ?_ ?_
        rotate_left
        ·intro w'
         go_simp
         with_reducible rfl
        rotate_left
        ·simp only [sP]
         rfl
        refine pure_ (i := 4) (N := some 19) (v := undef) (a' := ?_) #[tr,tr,tr,tr,tr,fa,fa,fa,fa,fa,fa,fa,fa,fa,fa,fa,fa,fa] rfl rfl (any_of HT_.out (by kernel_rfl)) (fun _ _ _ h => h) (Or.inr ⟨by rfl, rfl⟩) ?_ ?_
        rotate_left
        ·simp only [sP]
         rfl
        refine pure_ (i := 5) (N := some 20) (v := undef) (a' := ?_) #[tr,tr,tr,tr,tr,tr,fa,fa,fa,fa,fa,fa,fa,fa,fa,fa,fa,fa] rfl rfl (any_of HT_.out (by kernel_rfl)) (fun _ _ _ h => h) (Or.inr ⟨by rfl, rfl⟩) ?_ ?_
        rotate_left
        ·simp only [sP]
         rfl
        refine pure_ (i := 6) (N := some 21) (v := undef) (a' := ?_) #[tr,tr,tr,tr,tr,tr,tr,fa,fa,fa,fa,fa,fa,fa,fa,fa,fa,fa] rfl rfl (any_of HT_.out (by kernel_rfl)) (fun _ _ _ h => h) (Or.inr ⟨by rfl, rfl⟩) ?_ ?_
        rotate_left
        ·simp only [sP]
         rfl
        refine pure_ (i := 7) (N := some 22) (v := undef) (a' := ?_) #[tr,tr,tr,tr,tr,tr,tr,tr,fa,fa,fa,fa,fa,fa,fa,fa,fa,fa] rfl rfl (any_of HT_.out (by kernel_rfl)) (fun _ _ _ h => h) (Or.inr ⟨by rfl, rfl⟩) ?_ ?_
        rotate_left
        ·simp only [sP]
         rfl
        refine pure_ (i := 8) (N := some 23) (v := undef) (a' := ?_) #[tr,tr,tr,tr,tr,tr,tr,tr,tr,fa,fa,fa,fa,fa,fa,fa,fa,fa] rfl rfl (any_of HT_.out (by kernel_rfl)) (fun _ _ _ h => h) (Or.inr ⟨by rfl, rfl⟩) ?_ ?_
        rotate_left
        ·simp only [sP]
         rfl
        refine pure_ (i := 9) (N := some 24) (v := undef) (a' := ?_) #[tr,tr,tr,tr,tr,tr,tr,tr,tr,tr,fa,fa,fa,fa,fa,fa,fa,fa] rfl rfl (any_of HT_.out (by kernel_rfl)) (fun _ _ _ h => h) (Or.inr ⟨by rfl, rfl⟩) ?_ ?_
        rotate_left
        ·simp only [sP]
         rfl
        refine pure_ (i := 10) (N := some 25) (v := undef) (a' := ?_) #[tr,tr,tr,tr,tr,tr,tr,tr,tr,tr,tr,fa,fa,fa,fa,fa,fa,fa] rfl rfl (any_of HT_.out (by kernel_rfl)) (fun _ _ _ h => h) (Or.inr ⟨by rfl, rfl⟩) ?_ ?_
        rotate_left
        ·simp only [sP]
         rfl
        refine pure_ (i := 11) (N := some 26) (v := undef) (a' := ?_) #[tr,tr,tr,tr,tr,tr,tr,tr,tr,tr,tr,tr,fa,fa,fa,fa,fa,fa] rfl rfl (any_of HT_.out (by kernel_rfl)) (fun _ _ _ h => h) (Or.inr ⟨by rfl, rfl⟩) ?_ ?_
        rotate_left
        ·simp only [sP]
         rfl
        refine pure_ (i := 12) (N := some 27) (v := undef) (a' := ?_) #[tr,tr,tr,tr,tr,tr,tr,tr,tr,tr,tr,tr,tr,fa,fa,fa,fa,fa] rfl rfl (any_of HT_.out (by kernel_rfl)) (fun _ _ _ h => h) (Or.inr ⟨by rfl, rfl⟩) ?_ ?_
        rotate_left
        ·simp only [sP]
         rfl
        refine pure_ (i := 13) (N := some 28) (v := undef) (a' := ?_) #[tr,tr,tr,tr,tr,tr,tr,tr,tr,tr,tr,tr,tr,tr,fa,fa,fa,fa] rfl rfl (any_of HT_.out (by kernel_rfl)) (fun _ _ _ h => h) (Or.inr ⟨by rfl, rfl⟩) ?_ ?_
        rotate_left
        ·simp only [sP]
         rfl
        refine pure_ (i := 14) (N := some 29) (v := undef) (a' := ?_) #[tr,tr,tr,tr,tr,tr,tr,tr,tr,tr,tr,tr,tr,tr,tr,fa,fa,fa] rfl rfl (any_of HT_.out (by kernel_rfl)) (fun _ _ _ h => h) (Or.inr ⟨by rfl, rfl⟩) ?_ ?_
        rotate_left
        ·simp only [sP]
         rfl
        refine pure_ (i := 15) (N := some 30) (v := undef) (a' := ?_) #[tr,tr,tr,tr,tr,tr,tr,tr,tr,tr,tr,tr,tr,tr,tr,tr,fa,fa] rfl rfl (any_of HT_.out (by kernel_rfl)) (fun _ _ _ h => h) (Or.inr ⟨by rfl, rfl⟩) ?_ ?_
        rotate_left
        ·simp only [sP]
         rfl
        refine pure_ (i := 16) (N := some 31) (v := undef) (a' := ?_) #[tr,tr,tr,tr,tr,tr,tr,tr,tr,tr,tr,tr,tr,tr,tr,tr,tr,fa] rfl rfl (any_of HT_.out (by kernel_rfl)) (fun _ _ _ h => h) (Or.inr ⟨by rfl, rfl⟩) ?_ ?_
        rotate_left
        ·simp only [sP]
         rfl
        refine pure_ (i := 17) (N := some 32) (v := ?_) (a' := ?_) #[tr,tr,tr,tr,tr,tr,tr,tr,tr,tr,tr,tr,tr,tr,tr,tr,tr,tr] rfl rfl (any_of HT_.out (by kernel_rfl)) (fun _ _ _ h => h) (Or.inl ⟨by rfl, ?_⟩) ?_ ?_
        rotate_left
        ·intro w'
         go_simp
         with_reducible rfl
        rotate_left
        ·simp only [sP]
         rfl
        refine done_ (done_of HT_.out (by kernel_rfl)) ?_
        try go_wp2
        go_ret
        exact ⟨eS, bw1 HB.out GE122.out⟩
      ·rw [if_neg c5] at H
       exact absurd H (by simp)
     ·rw [if_neg c4] at H
      exact absurd H (by simp)
    ·rw [if_neg c3] at H
     have c3b0 : decide (x10_1 < (l0.length : Int)) = false := decide_eq_false c3
     clear c3
     obtain rfl := Option.some.inj H
     go_wp2
     go_ret
     exact ⟨eS, bw0 HB.out⟩
def spoorref16_parts.l0 : Nat → Int → List (S24) → List (S24) → List (S24) → List (S24) → Int → Int → Option ((List (S24)) × (List (S24)) × (List (S24)))
 | 0, _, _, _, _, _, _, _ => none
 | k + 1, x1, x7, x8, x9, x12, x13, x14 => if x14 < x13 then (if 0 ≤ x14 then (if x14 < (x12.length : Int) then (if ((rd_T24 x12 x14).f0) < x1 then (if x7.length < 8796093022208 then (spoorref16_parts.l0 k x1 (x7 ++ [(⟨(rd_T24 x12 x14).f0, (rd_T24 x12 x14).f1⟩ : S24)]) x8 x9 x12 x13 (wrap64 (x14 + 1))) else (none)) else (if ((rd_T24 x12 x14).f0) = x1 then (if x8.length < 8796093022208 then (spoorref16_parts.l0 k x1 x7 (x8 ++ [(⟨(rd_T24 x12 x14).f0, (rd_T24 x12 x14).f1⟩ : S24)]) x9 x12 x13 (wrap64 (x14 + 1))) else (none)) else (if x9.length < 8796093022208 then (spoorref16_parts.l0 k x1 x7 x8 (x9 ++ [(⟨(rd_T24 x12 x14).f0, (rd_T24 x12 x14).f1⟩ : S24)]) x12 x13 (wrap64 (x14 + 1))) else (none)))) else (none)) else (none)) else (some (x7, x8, x9))
def spoorref16_parts.f (k : Nat) (l0 : List (S24)) (a1 : Int) : Option ((List (S24)) × (List (S24)) × (List (S24))) := spoorref16_parts.l0 k a1 ([] : List (S24)) ([] : List (S24)) ([] : List (S24)) l0 (l0.length : Int) 0
set_option maxHeartbeats 8000000 in
set_option maxRecDepth 100000 in
theorem spoorref16_parts.calls (k : Nat) (A0 : Option Addr) (c0 : Nat) (l0 : List (S24)) (a1 : Int) (r1 : List (S24)) (r2 : List (S24)) (r3 : List (S24)) (w : World) (hr0 : Kd.C k24 w A0 l0.length l0) (hc0 : l0.length ≤ c0) (h : spoorref16_parts.f k l0 a1 = some (r1, r2, r3)) :
  Calls Try.prog 25 #[.slice A0 l0.length c0, .int .i64 a1] w fun e w' => ∃ v0_ v1_ v2_ : Value, e = .returned (.tuple #[v0_, v1_, v2_]) ∧ Kd.R k24 24 w' w.heap.size (fun k_ => some k_ ≠ (v1_ : Value).ownBlock ∧ some k_ ≠ (v2_ : Value).ownBlock) v0_ r1 ∧ Kd.R k24 24 w' w.heap.size (fun k_ => some k_ ≠ (v0_ : Value).ownBlock ∧ some k_ ≠ (v2_ : Value).ownBlock) v1_ r2 ∧ Kd.R k24 24 w' w.heap.size (fun k_ => some k_ ≠ (v0_ : Value).ownBlock ∧ some k_ ≠ (v1_ : Value).ownBlock) v2_ r3 ∧ Below w.heap.size w w' := by
 have hu24 := Try.underlying24
 have HR0 := Ax hr0
 have HC0 := Ax hc0
 clear hr0 hc0
 have HB := Ax (Below.refl w.heap.size w)
 have H : (spoorref16_parts.l0 k a1 ([] : List (S24)) ([] : List (S24)) ([] : List (S24)) l0 (l0.length : Int) 0) = some (r1, r2, r3) := h
 clear h
 have H' := Ax H
 clear H
 go_enter Try.func25, Try.ntmps25
 go_wp2
 go_loopg [7, 8, 9, 14] k (fun kq v7 v8 v9 v14 w' => ∃ (x7_1 : List (S24)) (x8_1 : List (S24)) (x9_1 : List (S24)) (x14_1 : Int), v14 = .int .i64 x14_1 ∧ Aside0 (spoorref16_parts.l0 kq a1 x7_1 x8_1 x9_1 l0 (l0.length : Int) x14_1 = some (r1, r2, r3)) ∧ Aside0 (kq ≤ k) ∧ Aside0 (Kd.R k24 24 w' w.heap.size (fun k_ => some k_ ≠ (v8 : Value).ownBlock ∧ some k_ ≠ (v9 : Value).ownBlock) v7 x7_1) ∧ Aside0 (Kd.R k24 24 w' w.heap.size (fun k_ => some k_ ≠ (v7 : Value).ownBlock ∧ some k_ ≠ (v9 : Value).ownBlock) v8 x8_1) ∧ Aside0 (Kd.R k24 24 w' w.heap.size (fun k_ => some k_ ≠ (v7 : Value).ownBlock ∧ some k_ ≠ (v8 : Value).ownBlock) v9 x9_1) ∧ Aside0 (Below w.heap.size w w'))
 case atStart => exact ⟨(([] : List (S24))), (([] : List (S24))), (([] : List (S24))), (0), rS, H', ⟨Nat.le_refl _⟩, ⟨by first | exact Kd.R_nil _ _ _ _ _ | exact Kd.N_nil _ _ _ _ _ | exact Kd.V_nil _ _ _ _ _ | exact Kd.Q_nil _ _ _ _ _ | exact Kd.S_nil _ _ _ _ _⟩, ⟨by first | exact Kd.R_nil _ _ _ _ _ | exact Kd.N_nil _ _ _ _ _ | exact Kd.V_nil _ _ _ _ _ | exact Kd.Q_nil _ _ _ _ _ | exact Kd.S_nil _ _ _ _ _⟩, ⟨by first | exact Kd.R_nil _ _ _ _ _ | exact Kd.N_nil _ _ _ _ _ | exact Kd.V_nil _ _ _ _ _ | exact Kd.Q_nil _ _ _ _ _ | exact Kd.S_nil _ _ _ _ _⟩, ⟨bw0 HB.out⟩⟩
 case round =>
  clear H'
  try clear c2
  try clear p2
  obtain ⟨x7_1, x8_1, x9_1, x14_1, rfl, HA, HK1, HO_7, HO_8, HO_9, HB⟩ := hrel
  cases gk with
  | zero => exact absurd HA.out (by simp [spoorref16_parts.l0])
  | succ k1 =>
   have H := HA.out
   clear HA
   simp only [spoorref16_parts.l0] at H
   by_cases c3 : x14_1 < (l0.length : Int)
   ·rw [if_pos c3] at H
    have c3b0 : decide (x14_1 < (l0.length : Int)) = true := decide_eq_true c3
    clear c3
    by_cases c4 : 0 ≤ x14_1
    ·rw [if_pos c4] at H
     have c4b0 : decide (0 ≤ x14_1) = true := decide_eq_true c4
     clear c4
     by_cases c5 : x14_1 < (l0.length : Int)
     ·rw [if_pos c5] at H
      have c5b0 : decide (x14_1 < (l0.length : Int)) = true := decide_eq_true c5
      clear c5
      by_cases c6 : ((rd_T24 l0 x14_1).f0) < a1
      ·rw [if_pos c6] at H
       have c6b0 : decide (((rd_T24 l0 x14_1).f0) < a1) = true := decide_eq_true c6
       clear c6
       by_cases c7 : x7_1.length < 8796093022208
       ·rw [if_pos c7] at H
        have LMc7 := Ax c7
        clear c7
        obtain ⟨y127, hy127⟩ : ∃ y_ : List (S24), y_ = (x7_1 ++ [(⟨(rd_T24 l0 x14_1).f0, (rd_T24 l0 x14_1).f1⟩ : S24)]) := ⟨_, rfl⟩
        replace H : (spoorref16_parts.l0 k1 a1 y127 x8_1 x9_1 l0 (l0.length : Int) (wrap64 (x14_1 + 1))) = some (r1, r2, r3) := by first | (rw [hy127]; with_reducible exact H) | (have H2_ := (Option.bind_some _ _).symm.trans H; rw [hy127]; with_reducible exact H2_) | (have H2_ := (Option.bind_some _ _).symm.trans H; with_reducible exact H2_) | with_reducible exact H | (rw [hy127]; exact H) | exact H
        have Ny127 := Ax hy127
        clear hy127
        have H' := Ax H
        clear H
        have p125 : 0 ≤ (x14_1 : Int) := of_decide_eq_true (by first | (with_reducible assumption) | assumption)
        have q125 : x14_1 < (l0.length : Int) := of_decide_eq_true (by first | (with_reducible assumption) | assumption)
        obtain ⟨ad125, e125, hx125_0, hx125_1⟩ := at_T24 HR0.out x14_1 p125 q125
        cases e125
        replace hx125_0 := (HB.out.cell (World.block_lt_of_cell? w _ hx125_0)).trans hx125_0
        replace hx125_1 := (HB.out.cell (World.block_lt_of_cell? w _ hx125_1)).trans hx125_1
        replace p125 := eq_true p125
        replace q125 := eq_true q125
        go_wp2_with (first | ((with_reducible refine gate_dst (N := 11) rfl ?_); refine box_event ?hg (N := 11) ?hd (cs := #[.int .i64 0, .int .i64 0]) (t := 24) ?hr ?_; (case hd => rfl); (case hg => rfl); (case hr => first | (go_simp; done) | (go_simp; rfl)); intro gb126 hg w8 hbox hb; have n0_ := Ax (Kd.R_below (Kd.R_elderB (by (with_reducible repeat (first | apply Kd.R_alloc | apply Kd.R_drewN | apply Kd.R_drew)); exact HO_7.out) gb126 (Nat.le_of_eq hg.symm)) hb); have n1_ := Ax (Kd.R_below (Kd.R_elderB (by (with_reducible repeat (first | apply Kd.R_alloc | apply Kd.R_drewN | apply Kd.R_drew)); exact HO_8.out) gb126 (Nat.le_of_eq hg.symm)) hb); have n2_ := Ax (Kd.R_below (Kd.R_elderB (by (with_reducible repeat (first | apply Kd.R_alloc | apply Kd.R_drewN | apply Kd.R_drew)); exact HO_9.out) gb126 (Nat.le_of_eq hg.symm)) hb); have n3_ := Bs0 HB hb; have n4_ := Ax (hbox); have n5_ := Gw0 HB hg; have n6_ := Gw0 HB hg; clear HO_7; clear HO_8; clear HO_9; clear HB; have HO_7 := n0_; have HO_8 := n1_; have HO_9 := n2_; have HB := n3_; have BK126 := n4_; have GW126 := n5_; have GE126 := n6_; clear n0_ n1_ n2_ n3_ n4_ n5_ n6_; clear hb hbox hg; obtain ⟨hcz9_0, hcz9_1, hfz9_0, hfz9_1⟩ := cl2 BK126) | ((with_reducible refine gate_builtin (b := .append) (xs := #[.tmp 27, .tmp 29]) rfl ?_); at_builtin; refine Kd.R_append k24 (w0 := w) w.heap.size rfl (.tmp 27) (.tmp 29) 22 24 (.agg #[(.int .i64 0), (.int .i64 0)]) 16 rfl Try.underlying22 info24 rfl (by decide) (by omega) u7 x7_1 (⟨(rd_T24 l0 x14_1).f0, (rd_T24 l0 x14_1).f1⟩ : S24) [.int .i64 ((rd_T24 l0 x14_1).f0), .int .i64 ((rd_T24 l0 x14_1).f1)] (fun k_ => some k_ ≠ (u8 : Value).ownBlock ∧ some k_ ≠ (u9 : Value).ownBlock ∧ k_ ≠ gb126) (fun _ => False) rfl (by first | (go_simp; done) | (go_simp; rfl)) ?aP (fun _ hk => hk.elim) ?aF ?aO ?aB ?aS ?aL ?_; (case aP => exact k24_mkM _ _ _ (⟨(rd_T24 l0 x14_1).f0, (rd_T24 l0 x14_1).f1⟩ : S24)); (case aB => exact (bw1 HB.out GE126.out)); (case aF => exact (fun k_ hk => ⟨Kd.fresh' (Kd.R_lt (by (with_reducible repeat (first | apply Kd.R_alloc | apply Kd.R_drewN | apply Kd.R_drew)); exact (Kd.R_mono (Kd.R_far (p := ⟨gb126, 1, none⟩) (Kd.R_far (p := ⟨gb126, 0, none⟩) (Kd.R_mono HO_8.out (fun k_ hk => (⟨hk, hk.2⟩ : _ ∧ k_ ≠ gb126))) (fun _ hk => hk.2) (.int .i64 ((rd_T24 l0 x14_1).f0))) (fun _ hk => hk.2) (.int .i64 ((rd_T24 l0 x14_1).f1))) (fun _ h_ => h_.1)))) k_ hk, Kd.fresh' (Kd.R_lt (by (with_reducible repeat (first | apply Kd.R_alloc | apply Kd.R_drewN | apply Kd.R_drew)); exact (Kd.R_mono (Kd.R_far (p := ⟨gb126, 1, none⟩) (Kd.R_far (p := ⟨gb126, 0, none⟩) (Kd.R_mono HO_9.out (fun k_ hk => (⟨hk, hk.2⟩ : _ ∧ k_ ≠ gb126))) (fun _ hk => hk.2) (.int .i64 ((rd_T24 l0 x14_1).f0))) (fun _ hk => hk.2) (.int .i64 ((rd_T24 l0 x14_1).f1))) (fun _ h_ => h_.1)))) k_ hk, Kd.freshB (g := gb126) (o := .cells #[.int .i64 ((rd_T24 l0 x14_1).f0), .int .i64 ((rd_T24 l0 x14_1).f1)] 24 (0, 0)) (by (with_reducible repeat (first | refine blk_drewN ?_ _ | refine blk_drew ?_ | refine blk_alloc ?_ _)); refine blk_put (cs := #[.int .i64 ((rd_T24 l0 x14_1).f0), .int .i64 0]) ?_ 1 _ rfl; (with_reducible repeat (first | refine blk_drewN ?_ _ | refine blk_drew ?_ | refine blk_alloc ?_ _)); refine blk_put (cs := #[.int .i64 0, .int .i64 0]) ?_ 0 _ rfl; (with_reducible repeat (first | refine blk_drewN ?_ _ | refine blk_drew ?_ | refine blk_alloc ?_ _)); exact BK126.out) k_ hk⟩)); (case aO => exact (by (with_reducible repeat (first | apply Kd.R_alloc | apply Kd.R_drewN | apply Kd.R_drew)); exact Kd.R_mono (Kd.R_far (p := ⟨gb126, 1, none⟩) (Kd.R_far (p := ⟨gb126, 0, none⟩) (Kd.R_mono HO_7.out (fun k_ hk => (⟨hk, hk.2⟩ : _ ∧ k_ ≠ gb126))) (fun _ hk => hk.2) (.int .i64 ((rd_T24 l0 x14_1).f0))) (fun _ hk => hk.2) (.int .i64 ((rd_T24 l0 x14_1).f1))) (fun _ hk => ⟨hk.1.1.1, ⟨hk.1.1.2, hk.1.2⟩⟩))); (case aS => exact (below_size (bw1 HB.out GE126.out))); (case aL => have := LMc7.out; omega); intro v128 w10 ho hb hg hat; rw [← Ny127.out] at ho; have n0_ := Ax (Kd.R_after (ok := (fun k_ => some k_ ≠ (u9 : Value).ownBlock ∧ k_ ≠ gb126)) (by (with_reducible repeat (first | apply Kd.R_alloc | apply Kd.R_drewN | apply Kd.R_drew)); exact Kd.R_mono (Kd.R_far (p := ⟨gb126, 1, none⟩) (Kd.R_far (p := ⟨gb126, 0, none⟩) (Kd.R_mono HO_8.out (fun k_ hk => (⟨hk, hk.2⟩ : _ ∧ k_ ≠ gb126))) (fun _ hk => hk.2) (.int .i64 ((rd_T24 l0 x14_1).f0))) (fun _ hk => hk.2) (.int .i64 ((rd_T24 l0 x14_1).f1))) (fun _ hk => ⟨⟨hk.1.1.2, hk.1.2⟩, hk.1.1.1⟩)) hg hat); have n1_ := Ax (Kd.R_after (ok := (fun k_ => some k_ ≠ (u8 : Value).ownBlock ∧ k_ ≠ gb126)) (by (with_reducible repeat (first | apply Kd.R_alloc | apply Kd.R_drewN | apply Kd.R_drew)); exact Kd.R_mono (Kd.R_far (p := ⟨gb126, 1, none⟩) (Kd.R_far (p := ⟨gb126, 0, none⟩) (Kd.R_mono HO_9.out (fun k_ hk => (⟨hk, hk.2⟩ : _ ∧ k_ ≠ gb126))) (fun _ hk => hk.2) (.int .i64 ((rd_T24 l0 x14_1).f0))) (fun _ hk => hk.2) (.int .i64 ((rd_T24 l0 x14_1).f1))) (fun _ hk => ⟨⟨hk.1.1.2, hk.1.2⟩, hk.1.1.1⟩)) hg hat); have n2_ := Ax (blk_grown (g := gb126) (o := .cells #[.int .i64 ((rd_T24 l0 x14_1).f0), .int .i64 ((rd_T24 l0 x14_1).f1)] 24 (0, 0)) (by (with_reducible repeat (first | refine blk_drewN ?_ _ | refine blk_drew ?_ | refine blk_alloc ?_ _)); refine blk_put (cs := #[.int .i64 ((rd_T24 l0 x14_1).f0), .int .i64 0]) ?_ 1 _ rfl; (with_reducible repeat (first | refine blk_drewN ?_ _ | refine blk_drew ?_ | refine blk_alloc ?_ _)); refine blk_put (cs := #[.int .i64 0, .int .i64 0]) ?_ 0 _ rfl; (with_reducible repeat (first | refine blk_drewN ?_ _ | refine blk_drew ?_ | refine blk_alloc ?_ _)); exact BK126.out) hg (Kd.R_away HO_7.out (fun _ hk => hk.2))); have n3_ := Ax (hb); have n4_ := Ax (ho); clear HO_8; clear HO_9; clear BK126; clear HB; clear HO_7; have HO_8 := n0_; have HO_9 := n1_; have BK126 := n2_; have HB := n3_; have HO129 := n4_; clear n0_ n1_ n2_ n3_ n4_; clear ho hb hg hat))
        go_roundg k1
        case measure => have := HK1.out; omega
        case rel => exact ⟨(y127), (x8_1), (x9_1), (wrap64 (x14_1 + 1)), rS, H', ⟨by have := HK1.out; omega⟩, ⟨by (with_reducible repeat (first | apply Kd.R_alloc | apply Kd.R_drewN | apply Kd.R_drew)); exact Kd.R_mono HO129.out (fun _ hk => ⟨hk.1, hk.2.1⟩)⟩, ⟨by (with_reducible repeat (first | apply Kd.R_alloc | apply Kd.R_drewN | apply Kd.R_drew)); exact Kd.R_mono HO_8.out (fun _ hk => ⟨hk.2, hk.1.1⟩)⟩, ⟨by (with_reducible repeat (first | apply Kd.R_alloc | apply Kd.R_drewN | apply Kd.R_drew)); exact Kd.R_mono HO_9.out (fun _ hk => ⟨hk.2, hk.1.1⟩)⟩, ⟨bw1 HB.out GE126.out⟩⟩
       ·rw [if_neg c7] at H
        exact absurd H (by simp)
      ·rw [if_neg c6] at H
       have c6b0 : decide (((rd_T24 l0 x14_1).f0) < a1) = false := decide_eq_false c6
       clear c6
       by_cases c11 : ((rd_T24 l0 x14_1).f0) = a1
       ·rw [if_pos c11] at H
        have c11b0 : (((rd_T24 l0 x14_1).f0) == a1) = true := beq_iff_eq.mpr c11
        have c11b1 : (((rd_T24 l0 x14_1).f0) != a1) = false := bne_eq_false_iff_eq.mpr c11
        clear c11
        by_cases c12 : x8_1.length < 8796093022208
        ·rw [if_pos c12] at H
         have LMc12 := Ax c12
         clear c12
         obtain ⟨y130, hy130⟩ : ∃ y_ : List (S24), y_ = (x8_1 ++ [(⟨(rd_T24 l0 x14_1).f0, (rd_T24 l0 x14_1).f1⟩ : S24)]) := ⟨_, rfl⟩
         replace H : (spoorref16_parts.l0 k1 a1 x7_1 y130 x9_1 l0 (l0.length : Int) (wrap64 (x14_1 + 1))) = some (r1, r2, r3) := by first | (rw [hy130]; with_reducible exact H) | (have H2_ := (Option.bind_some _ _).symm.trans H; rw [hy130]; with_reducible exact H2_) | (have H2_ := (Option.bind_some _ _).symm.trans H; with_reducible exact H2_) | with_reducible exact H | (rw [hy130]; exact H) | exact H
         have Ny130 := Ax hy130
         clear hy130
         have H' := Ax H
         clear H
         have p125 : 0 ≤ (x14_1 : Int) := of_decide_eq_true (by first | (with_reducible assumption) | assumption)
         have q125 : x14_1 < (l0.length : Int) := of_decide_eq_true (by first | (with_reducible assumption) | assumption)
         obtain ⟨ad125, e125, hx125_0, hx125_1⟩ := at_T24 HR0.out x14_1 p125 q125
         cases e125
         replace hx125_0 := (HB.out.cell (World.block_lt_of_cell? w _ hx125_0)).trans hx125_0
         replace hx125_1 := (HB.out.cell (World.block_lt_of_cell? w _ hx125_1)).trans hx125_1
         replace p125 := eq_true p125
         replace q125 := eq_true q125
         go_wp2_with (first | ((with_reducible refine gate_dst (N := 11) rfl ?_); refine box_event ?hg (N := 11) ?hd (cs := #[.int .i64 0, .int .i64 0]) (t := 24) ?hr ?_; (case hd => rfl); (case hg => rfl); (case hr => first | (go_simp; done) | (go_simp; rfl)); intro gb126 hg w13 hbox hb; have n0_ := Ax (Kd.R_below (Kd.R_elderB (by (with_reducible repeat (first | apply Kd.R_alloc | apply Kd.R_drewN | apply Kd.R_drew)); exact HO_7.out) gb126 (Nat.le_of_eq hg.symm)) hb); have n1_ := Ax (Kd.R_below (Kd.R_elderB (by (with_reducible repeat (first | apply Kd.R_alloc | apply Kd.R_drewN | apply Kd.R_drew)); exact HO_8.out) gb126 (Nat.le_of_eq hg.symm)) hb); have n2_ := Ax (Kd.R_below (Kd.R_elderB (by (with_reducible repeat (first | apply Kd.R_alloc | apply Kd.R_drewN | apply Kd.R_drew)); exact HO_9.out) gb126 (Nat.le_of_eq hg.symm)) hb); have n3_ := Bs0 HB hb; have n4_ := Ax (hbox); have n5_ := Gw0 HB hg; have n6_ := Gw0 HB hg; clear HO_7; clear HO_8; clear HO_9; clear HB; have HO_7 := n0_; have HO_8 := n1_; have HO_9 := n2_; have HB := n3_; have BK126 := n4_; have GW126 := n5_; have GE126 := n6_; clear n0_ n1_ n2_ n3_ n4_ n5_ n6_; clear hb hbox hg; obtain ⟨hcz14_0, hcz14_1, hfz14_0, hfz14_1⟩ := cl2 BK126) | ((with_reducible refine gate_builtin (b := .append) (xs := #[.tmp 36, .tmp 38]) rfl ?_); at_builtin; refine Kd.R_append k24 (w0 := w) w.heap.size rfl (.tmp 36) (.tmp 38) 22 24 (.agg #[(.int .i64 0), (.int .i64 0)]) 16 rfl Try.underlying22 info24 rfl (by decide) (by omega) u8 x8_1 (⟨(rd_T24 l0 x14_1).f0, (rd_T24 l0 x14_1).f1⟩ : S24) [.int .i64 ((rd_T24 l0 x14_1).f0), .int .i64 ((rd_T24 l0 x14_1).f1)] (fun k_ => some k_ ≠ (u7 : Value).ownBlock ∧ some k_ ≠ (u9 : Value).ownBlock ∧ k_ ≠ gb126) (fun _ => False) rfl (by first | (go_simp; done) | (go_simp; rfl)) ?aP (fun _ hk => hk.elim) ?aF ?aO ?aB ?aS ?aL ?_; (case aP => exact k24_mkM _ _ _ (⟨(rd_T24 l0 x14_1).f0, (rd_T24 l0 x14_1).f1⟩ : S24)); (case aB => exact (bw1 HB.out GE126.out)); (case aF => exact (fun k_ hk => ⟨Kd.fresh' (Kd.R_lt (by (with_reducible repeat (first | apply Kd.R_alloc | apply Kd.R_drewN | apply Kd.R_drew)); exact (Kd.R_mono (Kd.R_far (p := ⟨gb126, 1, none⟩) (Kd.R_far (p := ⟨gb126, 0, none⟩) (Kd.R_mono HO_7.out (fun k_ hk => (⟨hk, hk.2⟩ : _ ∧ k_ ≠ gb126))) (fun _ hk => hk.2) (.int .i64 ((rd_T24 l0 x14_1).f0))) (fun _ hk => hk.2) (.int .i64 ((rd_T24 l0 x14_1).f1))) (fun _ h_ => h_.1)))) k_ hk, Kd.fresh' (Kd.R_lt (by (with_reducible repeat (first | apply Kd.R_alloc | apply Kd.R_drewN | apply Kd.R_drew)); exact (Kd.R_mono (Kd.R_far (p := ⟨gb126, 1, none⟩) (Kd.R_far (p := ⟨gb126, 0, none⟩) (Kd.R_mono HO_9.out (fun k_ hk => (⟨hk, hk.2⟩ : _ ∧ k_ ≠ gb126))) (fun _ hk => hk.2) (.int .i64 ((rd_T24 l0 x14_1).f0))) (fun _ hk => hk.2) (.int .i64 ((rd_T24 l0 x14_1).f1))) (fun _ h_ => h_.1)))) k_ hk, Kd.freshB (g := gb126) (o := .cells #[.int .i64 ((rd_T24 l0 x14_1).f0), .int .i64 ((rd_T24 l0 x14_1).f1)] 24 (0, 0)) (by (with_reducible repeat (first | refine blk_drewN ?_ _ | refine blk_drew ?_ | refine blk_alloc ?_ _)); refine blk_put (cs := #[.int .i64 ((rd_T24 l0 x14_1).f0), .int .i64 0]) ?_ 1 _ rfl; (with_reducible repeat (first | refine blk_drewN ?_ _ | refine blk_drew ?_ | refine blk_alloc ?_ _)); refine blk_put (cs := #[.int .i64 0, .int .i64 0]) ?_ 0 _ rfl; (with_reducible repeat (first | refine blk_drewN ?_ _ | refine blk_drew ?_ | refine blk_alloc ?_ _)); exact BK126.out) k_ hk⟩)); (case aO => exact (by (with_reducible repeat (first | apply Kd.R_alloc | apply Kd.R_drewN | apply Kd.R_drew)); exact Kd.R_mono (Kd.R_far (p := ⟨gb126, 1, none⟩) (Kd.R_far (p := ⟨gb126, 0, none⟩) (Kd.R_mono HO_8.out (fun k_ hk => (⟨hk, hk.2⟩ : _ ∧ k_ ≠ gb126))) (fun _ hk => hk.2) (.int .i64 ((rd_T24 l0 x14_1).f0))) (fun _ hk => hk.2) (.int .i64 ((rd_T24 l0 x14_1).f1))) (fun _ hk => ⟨hk.1.1.1, ⟨hk.1.1.2, hk.1.2⟩⟩))); (case aS => exact (below_size (bw1 HB.out GE126.out))); (case aL => have := LMc12.out; omega); intro v131 w15 ho hb hg hat; rw [← Ny130.out] at ho; have n0_ := Ax (Kd.R_after (ok := (fun k_ => some k_ ≠ (u9 : Value).ownBlock ∧ k_ ≠ gb126)) (by (with_reducible repeat (first | apply Kd.R_alloc | apply Kd.R_drewN | apply Kd.R_drew)); exact Kd.R_mono (Kd.R_far (p := ⟨gb126, 1, none⟩) (Kd.R_far (p := ⟨gb126, 0, none⟩) (Kd.R_mono HO_7.out (fun k_ hk => (⟨hk, hk.2⟩ : _ ∧ k_ ≠ gb126))) (fun _ hk => hk.2) (.int .i64 ((rd_T24 l0 x14_1).f0))) (fun _ hk => hk.2) (.int .i64 ((rd_T24 l0 x14_1).f1))) (fun _ hk => ⟨⟨hk.1.1.2, hk.1.2⟩, hk.1.1.1⟩)) hg hat); have n1_ := Ax (Kd.R_after (ok := (fun k_ => some k_ ≠ (u7 : Value).ownBlock ∧ k_ ≠ gb126)) (by (with_reducible repeat (first | apply Kd.R_alloc | apply Kd.R_drewN | apply Kd.R_drew)); exact Kd.R_mono (Kd.R_far (p := ⟨gb126, 1, none⟩) (Kd.R_far (p := ⟨gb126, 0, none⟩) (Kd.R_mono HO_9.out (fun k_ hk => (⟨hk, hk.2⟩ : _ ∧ k_ ≠ gb126))) (fun _ hk => hk.2) (.int .i64 ((rd_T24 l0 x14_1).f0))) (fun _ hk => hk.2) (.int .i64 ((rd_T24 l0 x14_1).f1))) (fun _ hk => ⟨⟨hk.1.1.1, hk.1.2⟩, hk.1.1.2⟩)) hg hat); have n2_ := Ax (blk_grown (g := gb126) (o := .cells #[.int .i64 ((rd_T24 l0 x14_1).f0), .int .i64 ((rd_T24 l0 x14_1).f1)] 24 (0, 0)) (by (with_reducible repeat (first | refine blk_drewN ?_ _ | refine blk_drew ?_ | refine blk_alloc ?_ _)); refine blk_put (cs := #[.int .i64 ((rd_T24 l0 x14_1).f0), .int .i64 0]) ?_ 1 _ rfl; (with_reducible repeat (first | refine blk_drewN ?_ _ | refine blk_drew ?_ | refine blk_alloc ?_ _)); refine blk_put (cs := #[.int .i64 0, .int .i64 0]) ?_ 0 _ rfl; (with_reducible repeat (first | refine blk_drewN ?_ _ | refine blk_drew ?_ | refine blk_alloc ?_ _)); exact BK126.out) hg (Kd.R_away HO_8.out (fun _ hk => hk.2))); have n3_ := Ax (hb); have n4_ := Ax (ho); clear HO_7; clear HO_9; clear BK126; clear HB; clear HO_8; have HO_7 := n0_; have HO_9 := n1_; have BK126 := n2_; have HB := n3_; have HO132 := n4_; clear n0_ n1_ n2_ n3_ n4_; clear ho hb hg hat))
         go_roundg k1
         case measure => have := HK1.out; omega
         case rel => exact ⟨(x7_1), (y130), (x9_1), (wrap64 (x14_1 + 1)), rS, H', ⟨by have := HK1.out; omega⟩, ⟨by (with_reducible repeat (first | apply Kd.R_alloc | apply Kd.R_drewN | apply Kd.R_drew)); exact Kd.R_mono HO_7.out (fun _ hk => ⟨hk.2, hk.1.1⟩)⟩, ⟨by (with_reducible repeat (first | apply Kd.R_alloc | apply Kd.R_drewN | apply Kd.R_drew)); exact Kd.R_mono HO132.out (fun _ hk => ⟨hk.1, hk.2.1⟩)⟩, ⟨by (with_reducible repeat (first | apply Kd.R_alloc | apply Kd.R_drewN | apply Kd.R_drew)); exact Kd.R_mono HO_9.out (fun _ hk => ⟨hk.1.1, hk.2⟩)⟩, ⟨bw1 HB.out GE126.out⟩⟩
        ·rw [if_neg c12] at H
         exact absurd H (by simp)
       ·rw [if_neg c11] at H
        have c11b0 : (((rd_T24 l0 x14_1).f0) == a1) = false := beq_eq_false_iff_ne.mpr c11
        have c11b1 : (((rd_T24 l0 x14_1).f0) != a1) = true := bne_iff_ne.mpr c11
        by_cases c16 : x9_1.length < 8796093022208
        ·rw [if_pos c16] at H
         have LMc16 := Ax c16
         clear c16
         obtain ⟨y133, hy133⟩ : ∃ y_ : List (S24), y_ = (x9_1 ++ [(⟨(rd_T24 l0 x14_1).f0, (rd_T24 l0 x14_1).f1⟩ : S24)]) := ⟨_, rfl⟩
         replace H : (spoorref16_parts.l0 k1 a1 x7_1 x8_1 y133 l0 (l0.length : Int) (wrap64 (x14_1 + 1))) = some (r1, r2, r3) := by first | (rw [hy133]; with_reducible exact H) | (have H2_ := (Option.bind_some _ _).symm.trans H; rw [hy133]; with_reducible exact H2_) | (have H2_ := (Option.bind_some _ _).symm.trans H; with_reducible exact H2_) | with_reducible exact H | (rw [hy133]; exact H) | exact H
         have Ny133 := Ax hy133
         clear hy133
         have H' := Ax H
         clear H
         have p125 : 0 ≤ (x14_1 : Int) := of_decide_eq_true (by first | (with_reducible assumption) | assumption)
         have q125 : x14_1 < (l0.length : Int) := of_decide_eq_true (by first | (with_reducible assumption) | assumption)
         obtain ⟨ad125, e125, hx125_0, hx125_1⟩ := at_T24 HR0.out x14_1 p125 q125
         cases e125
         replace hx125_0 := (HB.out.cell (World.block_lt_of_cell? w _ hx125_0)).trans hx125_0
         replace hx125_1 := (HB.out.cell (World.block_lt_of_cell? w _ hx125_1)).trans hx125_1
         replace p125 := eq_true p125
         replace q125 := eq_true q125
         go_wp2_with (first | ((with_reducible refine gate_dst (N := 11) rfl ?_); refine box_event ?hg (N := 11) ?hd (cs := #[.int .i64 0, .int .i64 0]) (t := 24) ?hr ?_; (case hd => rfl); (case hg => rfl); (case hr => first | (go_simp; done) | (go_simp; rfl)); intro gb126 hg w17 hbox hb; have n0_ := Ax (Kd.R_below (Kd.R_elderB (by (with_reducible repeat (first | apply Kd.R_alloc | apply Kd.R_drewN | apply Kd.R_drew)); exact HO_7.out) gb126 (Nat.le_of_eq hg.symm)) hb); have n1_ := Ax (Kd.R_below (Kd.R_elderB (by (with_reducible repeat (first | apply Kd.R_alloc | apply Kd.R_drewN | apply Kd.R_drew)); exact HO_8.out) gb126 (Nat.le_of_eq hg.symm)) hb); have n2_ := Ax (Kd.R_below (Kd.R_elderB (by (with_reducible repeat (first | apply Kd.R_alloc | apply Kd.R_drewN | apply Kd.R_drew)); exact HO_9.out) gb126 (Nat.le_of_eq hg.symm)) hb); have n3_ := Bs0 HB hb; have n4_ := Ax (hbox); have n5_ := Gw0 HB hg; have n6_ := Gw0 HB hg; clear HO_7; clear HO_8; clear HO_9; clear HB; have HO_7 := n0_; have HO_8 := n1_; have HO_9 := n2_; have HB := n3_; have BK126 := n4_; have GW126 := n5_; have GE126 := n6_; clear n0_ n1_ n2_ n3_ n4_ n5_ n6_; clear hb hbox hg; obtain ⟨hcz18_0, hcz18_1, hfz18_0, hfz18_1⟩ := cl2 BK126) | ((with_reducible refine gate_builtin (b := .append) (xs := #[.tmp 18, .tmp 20]) rfl ?_); at_builtin; refine Kd.R_append k24 (w0 := w) w.heap.size rfl (.tmp 18) (.tmp 20) 22 24 (.agg #[(.int .i64 0), (.int .i64 0)]) 16 rfl Try.underlying22 info24 rfl (by decide) (by omega) u9 x9_1 (⟨(rd_T24 l0 x14_1).f0, (rd_T24 l0 x14_1).f1⟩ : S24) [.int .i64 ((rd_T24 l0 x14_1).f0), .int .i64 ((rd_T24 l0 x14_1).f1)] (fun k_ => some k_ ≠ (u7 : Value).ownBlock ∧ some k_ ≠ (u8 : Value).ownBlock ∧ k_ ≠ gb126) (fun _ => False) rfl (by first | (go_simp; done) | (go_simp; rfl)) ?aP (fun _ hk => hk.elim) ?aF ?aO ?aB ?aS ?aL ?_; (case aP => exact k24_mkM _ _ _ (⟨(rd_T24 l0 x14_1).f0, (rd_T24 l0 x14_1).f1⟩ : S24)); (case aB => exact (bw1 HB.out GE126.out)); (case aF => exact (fun k_ hk => ⟨Kd.fresh' (Kd.R_lt (by (with_reducible repeat (first | apply Kd.R_alloc | apply Kd.R_drewN | apply Kd.R_drew)); exact (Kd.R_mono (Kd.R_far (p := ⟨gb126, 1, none⟩) (Kd.R_far (p := ⟨gb126, 0, none⟩) (Kd.R_mono HO_7.out (fun k_ hk => (⟨hk, hk.2⟩ : _ ∧ k_ ≠ gb126))) (fun _ hk => hk.2) (.int .i64 ((rd_T24 l0 x14_1).f0))) (fun _ hk => hk.2) (.int .i64 ((rd_T24 l0 x14_1).f1))) (fun _ h_ => h_.1)))) k_ hk, Kd.fresh' (Kd.R_lt (by (with_reducible repeat (first | apply Kd.R_alloc | apply Kd.R_drewN | apply Kd.R_drew)); exact (Kd.R_mono (Kd.R_far (p := ⟨gb126, 1, none⟩) (Kd.R_far (p := ⟨gb126, 0, none⟩) (Kd.R_mono HO_8.out (fun k_ hk => (⟨hk, hk.2⟩ : _ ∧ k_ ≠ gb126))) (fun _ hk => hk.2) (.int .i64 ((rd_T24 l0 x14_1).f0))) (fun _ hk => hk.2) (.int .i64 ((rd_T24 l0 x14_1).f1))) (fun _ h_ => h_.1)))) k_ hk, Kd.freshB (g := gb126) (o := .cells #[.int .i64 ((rd_T24 l0 x14_1).f0), .int .i64 ((rd_T24 l0 x14_1).f1)] 24 (0, 0)) (by (with_reducible repeat (first | refine blk_drewN ?_ _ | refine blk_drew ?_ | refine blk_alloc ?_ _)); refine blk_put (cs := #[.int .i64 ((rd_T24 l0 x14_1).f0), .int .i64 0]) ?_ 1 _ rfl; (with_reducible repeat (first | refine blk_drewN ?_ _ | refine blk_drew ?_ | refine blk_alloc ?_ _)); refine blk_put (cs := #[.int .i64 0, .int .i64 0]) ?_ 0 _ rfl; (with_reducible repeat (first | refine blk_drewN ?_ _ | refine blk_drew ?_ | refine blk_alloc ?_ _)); exact BK126.out) k_ hk⟩)); (case aO => exact (by (with_reducible repeat (first | apply Kd.R_alloc | apply Kd.R_drewN | apply Kd.R_drew)); exact Kd.R_mono (Kd.R_far (p := ⟨gb126, 1, none⟩) (Kd.R_far (p := ⟨gb126, 0, none⟩) (Kd.R_mono HO_9.out (fun k_ hk => (⟨hk, hk.2⟩ : _ ∧ k_ ≠ gb126))) (fun _ hk => hk.2) (.int .i64 ((rd_T24 l0 x14_1).f0))) (fun _ hk => hk.2) (.int .i64 ((rd_T24 l0 x14_1).f1))) (fun _ hk => ⟨hk.1.1.1, ⟨hk.1.1.2, hk.1.2⟩⟩))); (case aS => exact (below_size (bw1 HB.out GE126.out))); (case aL => have := LMc16.out; omega); intro v134 w19 ho hb hg hat; rw [← Ny133.out] at ho; have n0_ := Ax (Kd.R_after (ok := (fun k_ => some k_ ≠ (u8 : Value).ownBlock ∧ k_ ≠ gb126)) (by (with_reducible repeat (first | apply Kd.R_alloc | apply Kd.R_drewN | apply Kd.R_drew)); exact Kd.R_mono (Kd.R_far (p := ⟨gb126, 1, none⟩) (Kd.R_far (p := ⟨gb126, 0, none⟩) (Kd.R_mono HO_7.out (fun k_ hk => (⟨hk, hk.2⟩ : _ ∧ k_ ≠ gb126))) (fun _ hk => hk.2) (.int .i64 ((rd_T24 l0 x14_1).f0))) (fun _ hk => hk.2) (.int .i64 ((rd_T24 l0 x14_1).f1))) (fun _ hk => ⟨⟨hk.1.1.1, hk.1.2⟩, hk.1.1.2⟩)) hg hat); have n1_ := Ax (Kd.R_after (ok := (fun k_ => some k_ ≠ (u7 : Value).ownBlock ∧ k_ ≠ gb126)) (by (with_reducible repeat (first | apply Kd.R_alloc | apply Kd.R_drewN | apply Kd.R_drew)); exact Kd.R_mono (Kd.R_far (p := ⟨gb126, 1, none⟩) (Kd.R_far (p := ⟨gb126, 0, none⟩) (Kd.R_mono HO_8.out (fun k_ hk => (⟨hk, hk.2⟩ : _ ∧ k_ ≠ gb126))) (fun _ hk => hk.2) (.int .i64 ((rd_T24 l0 x14_1).f0))) (fun _ hk => hk.2) (.int .i64 ((rd_T24 l0 x14_1).f1))) (fun _ hk => ⟨⟨hk.1.1.1, hk.1.2⟩, hk.1.1.2⟩)) hg hat); have n2_ := Ax (blk_grown (g := gb126) (o := .cells #[.int .i64 ((rd_T24 l0 x14_1).f0), .int .i64 ((rd_T24 l0 x14_1).f1)] 24 (0, 0)) (by (with_reducible repeat (first | refine blk_drewN ?_ _ | refine blk_drew ?_ | refine blk_alloc ?_ _)); refine blk_put (cs := #[.int .i64 ((rd_T24 l0 x14_1).f0), .int .i64 0]) ?_ 1 _ rfl; (with_reducible repeat (first | refine blk_drewN ?_ _ | refine blk_drew ?_ | refine blk_alloc ?_ _)); refine blk_put (cs := #[.int .i64 0, .int .i64 0]) ?_ 0 _ rfl; (with_reducible repeat (first | refine blk_drewN ?_ _ | refine blk_drew ?_ | refine blk_alloc ?_ _)); exact BK126.out) hg (Kd.R_away HO_9.out (fun _ hk => hk.2))); have n3_ := Ax (hb); have n4_ := Ax (ho); clear HO_7; clear HO_8; clear BK126; clear HB; clear HO_9; have HO_7 := n0_; have HO_8 := n1_; have BK126 := n2_; have HB := n3_; have HO135 := n4_; clear n0_ n1_ n2_ n3_ n4_; clear ho hb hg hat))
         go_roundg k1
         case measure => have := HK1.out; omega
         case rel => exact ⟨(x7_1), (x8_1), (y133), (wrap64 (x14_1 + 1)), rS, H', ⟨by have := HK1.out; omega⟩, ⟨by (with_reducible repeat (first | apply Kd.R_alloc | apply Kd.R_drewN | apply Kd.R_drew)); exact Kd.R_mono HO_7.out (fun _ hk => ⟨hk.1.1, hk.2⟩)⟩, ⟨by (with_reducible repeat (first | apply Kd.R_alloc | apply Kd.R_drewN | apply Kd.R_drew)); exact Kd.R_mono HO_8.out (fun _ hk => ⟨hk.1.1, hk.2⟩)⟩, ⟨by (with_reducible repeat (first | apply Kd.R_alloc | apply Kd.R_drewN | apply Kd.R_drew)); exact Kd.R_mono HO135.out (fun _ hk => ⟨hk.1, hk.2.1⟩)⟩, ⟨bw1 HB.out GE126.out⟩⟩
        ·rw [if_neg c16] at H
         exact absurd H (by simp)
     ·rw [if_neg c5] at H
      exact absurd H (by simp)
    ·rw [if_neg c4] at H
     exact absurd H (by simp)
   ·rw [if_neg c3] at H
    have c3b0 : decide (x14_1 < (l0.length : Int)) = false := decide_eq_false c3
    clear c3
    simp only [Option.some.injEq, Prod.mk.injEq] at H
    obtain ⟨rfl, rfl, rfl⟩ := H
    go_wp2
    go_ret3
    exact ⟨_, _, _, eS, by (with_reducible repeat (first | apply Kd.R_alloc | apply Kd.R_drewN | apply Kd.R_drew)); exact HO_7.out, by (with_reducible repeat (first | apply Kd.R_alloc | apply Kd.R_drewN | apply Kd.R_drew)); exact HO_8.out, by (with_reducible repeat (first | apply Kd.R_alloc | apply Kd.R_drewN | apply Kd.R_drew)); exact HO_9.out, bw0 HB.out⟩
end Go.Proofs.Ytalkiicjdafhdaa.Q
end
section
namespace Go.Proofs.Ytalkiicjdafhdaa.Q
open Go.RowKit Go.Proofs.YtalkiicjdafhdaaW.PrintWords Go.Proofs.YtalkiicjdafhdaaW.PrintLast Go.Proofs.YtalkiicjdafhdaaW.PrintMore
attribute [local go_sem] max2_int min2_int max_two min_two max_three min_three max_four min_four   -- for this text's walks alone
set_option linter.unusedVariables false
set_option linter.unusedSimpArgs false
theorem eqA24 (d : Nat) (w : World) (x0 y0 : Int) (x1 y1 : Int) :
    (Op.equalIn (d + 2) 24 (.agg #[.int .i64 x0, .int .i64 x1]) (.agg #[.int .i64 y0, .int .i64 y1])).run Try.prog w = .ok (x0 == y0 && (x1 == y1)) w := by
  refine eqA_of Try.underlying24 (by kernel_rfl) ?_
  refine eqf_cons (by rfl) (by go_simp; rfl) (by go_simp; rfl) (by go_simp) ?_
  exact eqf_last (by rfl) (by go_simp; rfl) (by go_simp; rfl) (by go_simp)
end Go.Proofs.Ytalkiicjdafhdaa.Q
end
section
namespace Go.Proofs.Ytalkiicjdafhdaa.Q
open Go.RowKit Go.Proofs.YtalkiicjdafhdaaW.PrintWords Go.Proofs.YtalkiicjdafhdaaW.PrintLast Go.Proofs.YtalkiicjdafhdaaW.PrintMore
attribute [local go_sem] max2_int min2_int max_two min_two max_three min_three max_four min_four   -- for this text's walks alone
set_option linter.unusedVariables false
set_option linter.unusedSimpArgs false
attribute [local go_sem high] eqA24
theorem check_lenD {k : Nat} {l : List S24} (h : links_Check.f k l = some 0) : l.length ≤ 32 := by
  unfold links_Check.f at h
  by_cases c : (l.length : Int) > 32
  · rw [if_pos c] at h
    exact absurd (Option.some.inj h) (by decide)
  · omega
def delL (l : List S24) (n : Int) : List S24 × Int :=
  if bsF l n l.length 0 l.length < l.length ∧ (rd_T24 l ((bsF l n l.length 0 l.length : Nat) : Int)).f0 = n then (l.take (bsF l n l.length 0 l.length) ++ l.drop (bsF l n l.length 0 l.length + 1), 0)
  else (l, 3)
def links_Del.f (k : Nat) (l0 : List S24) (a1 : Int) : Option (List S24 × Int) := (links_Check.f k l0).bind fun y => if y ≠ 0 then some ([], y) else some (delL l0 a1)
theorem links_Del.mono : ∀ a0 a1 k, LeO (links_Del.f k a0 a1) (links_Del.f (k + 1) a0 a1) := by
  intro a0 a1 k
  unfold links_Del.f
  exact LeO.bind (links_Check.mono _ _) (fun _ => LeO.refl _)
set_option maxRecDepth 100000 in
set_option maxHeartbeats 8000000 in
theorem links_Del.calls (k : Nat) (A0 : Option Addr) (c0 : Nat) (l0 : List (S24)) (a1 : Int) (r1 : List (S24)) (r2 : Int) (w : World) (hr0 : Kd.C k24 w A0 l0.length l0) (hc0 : l0.length ≤ c0) (h : links_Del.f k l0 a1 = some (r1, r2)) :
    Calls Try.prog 9 #[.slice A0 l0.length c0, .int .i64 a1] w fun e w' => ∃ v0_ : Value, e = .returned (.tuple #[v0_, .int .i64 r2]) ∧ Kd.R k24 24 w' w.heap.size (fun _ => True) v0_ r1 ∧ Below w.heap.size w w' := by
  obtain ⟨y, hy, h⟩ := Option.bind_eq_some_iff.mp h
  have HY := Aside0.mk hy
  have HC0 := Aside0.mk hc0
  have HR0 := Aside0.mk hr0
  clear hy hr0 hc0
  go_enter Try.func9, Try.ntmps9
  by_cases cy : y ≠ 0
  · rw [if_pos cy] at h
    obtain ⟨e1, e2⟩ := Prod.mk.inj (Option.some.inj h)
    subst e1
    subst e2
    have d0 : (y != 0) = true := bne_iff_ne.mpr cy
    clear cy h
    go_wp2_with (go_at_call 12; refine (links_Check.calls k _ _ l0 y _ HR0.out HC0.out HY.out).mono ?_; rintro e w5 ⟨rfl, hb5⟩; have HB5 := Aside0.mk hb5; clear hb5)
    go_ret2
    exact ⟨_, rfl, Kd.R_nil _ _ _ _ _, HB5.out⟩
  · have cy0 : y = 0 := Decidable.not_not.mp cy
    subst cy0
    rw [if_neg cy] at h
    clear cy
    have d0 : ((0 : Int) != 0) = false := rfl
    have HLL := Aside0.mk (check_lenD HY.out)
    have hL := HLL.out
    obtain ⟨p, hp⟩ : ∃ p, bsF l0 a1 l0.length 0 l0.length = p := ⟨_, rfl⟩
    have hpl : p ≤ l0.length := by rw [← hp]; exact bsF_le _ _ _ _ _ (Nat.zero_le _)
    have hv := Option.some.inj h
    unfold delL at hv
    have hF : links_find.f k l0 a1 = some ((p : Int), decide (p < l0.length ∧ (rd_T24 l0 (p : Int)).f0 = a1)) := by
      unfold links_find.f
      rw [if_pos (by omega), hp]
    rw [hp] at hv
    have HPL := Aside0.mk hpl
    clear h hp
    by_cases cf : p < l0.length ∧ (rd_T24 l0 (p : Int)).f0 = a1
    · rw [if_pos cf] at hv
      rw [decide_eq_true cf] at hF
      obtain ⟨e1, e2⟩ := Prod.mk.inj hv
      subst e1
      subst e2
      have HF := Aside0.mk hF
      have HP := Aside0.mk cf.1
      have w1 := i64_small ((p : Int) + 1) (by omega) (by omega)
      have w2 : wrap64 ((p : Int) + 1) = ((p + 1 : Nat) : Int) := by rw [i64_w] at w1; rw [w1]; omega
      clear hv hF cf hpl hL
      go_wp2_with (first | (go_at_call 12; refine (links_Check.calls k _ _ l0 0 _ HR0.out HC0.out HY.out).mono ?_; rintro e w5 ⟨rfl, hb5⟩; have HB6 := Aside0.mk hb5; clear hb5) | (go_at_call 21; refine (cloneL_is _ _ l0 (by have := HLL.out; omega) _ (Kd.C_below HR0.out HB6.out) HC0.out).mono ?_; rintro e w7 ⟨v7, rfl, ho7, hb7⟩; have HB7 := Aside0.mk (below_step HB6.out hb7); obtain ⟨A7, c7, rfl⟩ := Kd.R_slice ho7; have HO7 := Aside0.mk (Kd.R_lower ho7 HB6.out.size); clear hb7 ho7) | (go_at_call 22; refine (find_is k _ _ l0 a1 _ _ _ (Kd.R_reads' HO7.out).2.2 (Kd.R_reads' HO7.out).2.1 HF.out).mono ?_; rintro e w8 ⟨rfl, hb8⟩; have HB8 := Aside0.mk (below_step HB7.out hb8); have HO8 := Aside0.mk (Kd.R_below HO7.out hb8); clear hb8; obtain ⟨ad, ead, _⟩ := (Kd.R_reads' HO8.out).2.2.2.2 (by have := HP.out; omega); subst ead; obtain ⟨g, sp, rfl, _, hbg, _, hg, hnc, hcm, hcs⟩ := flatLk.own HO8.out; have HG := Aside0.mk hg; have HN := Aside0.mk (And.intro hbg (And.intro hnc (And.intro hcm hcs))); clear hg hnc hcm hcs hbg) | (go_at_call 26; refine (delete_is _ w w.heap.size g c7 p l0 sp HG.out HN.out.1 HN.out.2.1 HN.out.2.2.1 HN.out.2.2.2 HP.out (by have := HLL.out; omega) HB8.out).mono ?_; rintro e w9 ⟨v9, rfl, ho9, hb9⟩; have HO9 := Aside0.mk ho9; have HB9 := Aside0.mk hb9; clear ho9 hb9))
      go_ret2
      exact ⟨_, rfl, HO9.out, HB9.out⟩
    · rw [if_neg cf] at hv
      rw [decide_eq_false cf] at hF
      obtain ⟨e1, e2⟩ := Prod.mk.inj hv
      subst e1
      subst e2
      have HF := Aside0.mk hF
      clear hv hF cf hpl hL
      go_wp2_with (first | (go_at_call 12; refine (links_Check.calls k _ _ l0 0 _ HR0.out HC0.out HY.out).mono ?_; rintro e w5 ⟨rfl, hb5⟩; have HB6 := Aside0.mk hb5; clear hb5) | (go_at_call 21; refine (cloneL_is _ _ l0 (by have := HLL.out; omega) _ (Kd.C_below HR0.out HB6.out) HC0.out).mono ?_; rintro e w7 ⟨v7, rfl, ho7, hb7⟩; have HB7 := Aside0.mk (below_step HB6.out hb7); obtain ⟨A7, c7, rfl⟩ := Kd.R_slice ho7; have HO7 := Aside0.mk (Kd.R_lower ho7 HB6.out.size); clear hb7 ho7) | (go_at_call 22; refine (find_is k _ _ l0 a1 _ _ _ (Kd.R_reads' HO7.out).2.2 (Kd.R_reads' HO7.out).2.1 HF.out).mono ?_; rintro e w8 ⟨rfl, hb8⟩; have HB8 := Aside0.mk (below_step HB7.out hb8); have HO8 := Aside0.mk (Kd.R_below HO7.out hb8); clear hb8))
      go_ret2
      exact ⟨_, rfl, HO8.out, HB8.out⟩
def spoorref16_Same.l0 : Nat → List (S24) → List (S24) → Int → Int → Option (Bool)
 | 0, _, _, _, _ => none
 | k + 1, x0, x1, x12, x13 => if x13 < x12 then (if 0 ≤ x13 then (if x13 < (x0.length : Int) then (if x13 < (x1.length : Int) then (if (!(((rd_T24 x0 x13).f0) == ((rd_T24 x1 x13).f0)) || (!(((rd_T24 x0 x13).f1) == ((rd_T24 x1 x13).f1)))) = true then (some false) else (spoorref16_Same.l0 k x0 x1 x12 (wrap64 (x13 + 1)))) else (none)) else (none)) else (none)) else (some true)
def spoorref16_Same.f (k : Nat) (l0 : List (S24)) (l1 : List (S24)) : Option (Bool) := if (l0.length : Int) = (l1.length : Int) then (spoorref16_Same.l0 k l0 l1 (l0.length : Int) 0) else (some false)
theorem spoorref16_Same.mono_l : ∀ k, (∀ y0 y1 y2 y3, LeO (spoorref16_Same.l0 k y0 y1 y2 y3) (spoorref16_Same.l0 (k + 1) y0 y1 y2 y3))
 | 0 => fun _ _ _ _ r h => by simp [spoorref16_Same.l0] at h
 | k + 1 => by
  have ih0 := spoorref16_Same.mono_l k
  ·intro y0 y1 y2 y3
   unfold spoorref16_Same.l0
   repeat' first
   | (with_reducible exact ih0 _ _ _ _)
   | (with_reducible exact LeO.refl _)
   | (with_reducible exact LeO.none _)
   | (with_reducible refine LeO.ite ?_ ?_)
   | (with_reducible refine LeO.bind ?_ (fun _ => ?_))
   | exact ih0 _ _ _ _
   | exact LeO.none _
   | refine LeO.ite ?_ ?_
   | refine LeO.bind ?_ (fun _ => ?_)
theorem spoorref16_Same.mono : ∀ a0 a1 k, LeO (spoorref16_Same.f k a0 a1) (spoorref16_Same.f (k + 1) a0 a1) := by
 intro a0 a1 k
 have ih0 := spoorref16_Same.mono_l k
 unfold spoorref16_Same.f
 repeat' first
   | (with_reducible exact ih0 _ _ _ _)
   | (with_reducible exact LeO.refl _)
   | (with_reducible exact LeO.none _)
   | (with_reducible refine LeO.ite ?_ ?_)
   | (with_reducible refine LeO.bind ?_ (fun _ => ?_))
   | exact ih0 _ _ _ _
   | exact LeO.none _
   | refine LeO.ite ?_ ?_
   | refine LeO.bind ?_ (fun _ => ?_)
set_option maxHeartbeats 8000000 in
set_option maxRecDepth 100000 in
theorem spoorref16_Same.calls (k : Nat) (A0 : Option Addr) (c0 : Nat) (l0 : List (S24)) (A1 : Option Addr) (c1 : Nat) (l1 : List (S24)) (r : Bool) (w : World) (hr0 : Kd.C k24 w A0 l0.length l0) (hc0 : l0.length ≤ c0) (hr1 : Kd.C k24 w A1 l1.length l1) (hc1 : l1.length ≤ c1) (h : spoorref16_Same.f k l0 l1 = some r) :
  Calls Try.prog 14 #[.slice A0 l0.length c0, .slice A1 l1.length c1] w fun e w' => e = .returned (.bool r) ∧ Drawn0 w w' := by
 have hu24 := Try.underlying24
 have HR0 := Ax hr0
 have HC0 := Ax hc0
 clear hr0 hc0
 have HR1 := Ax hr1
 have HC1 := Ax hc1
 clear hr1 hc1
 have H : (if (l0.length : Int) = (l1.length : Int) then (spoorref16_Same.l0 k l0 l1 (l0.length : Int) 0) else (some false)) = some r := h
 clear h
 by_cases c3 : (l0.length : Int) = (l1.length : Int)
 ·rw [if_pos c3] at H
  have c3b0 : ((l0.length : Int) == (l1.length : Int)) = true := beq_iff_eq.mpr c3
  have c3b1 : ((l0.length : Int) != (l1.length : Int)) = false := bne_eq_false_iff_eq.mpr c3
  have c3b2 : (l0.length == l1.length) = true := by first | simpa using c3 | (simp at c3 ⊢; omega)
  clear c3
  have H' := Ax H
  clear H
  go_enter Try.func14, Try.ntmps14
  go_wp2
  repeat (go_quiet (fail); try go_wp2)
  go_loopg [13] k (fun kq v13 w' => ∃ (x13_1 : Int), v13 = .int .i64 x13_1 ∧ Aside0 (spoorref16_Same.l0 kq l0 l1 (l0.length : Int) x13_1 = some r) ∧ Aside0 (kq ≤ k) ∧ Drawn0 w w')
  case atStart => exact ⟨(0), rS, H', ⟨Nat.le_refl _⟩, by repeat (first | exact Drawn0.refl _ | apply Drawn0.step)⟩
  case round =>
   clear H'
   try clear c1
   try clear p2
   try clear c3
   try clear c3b0
   try clear c3b1
   try clear c3b2
   obtain ⟨x13_1, rfl, HA, HK1, ⟨m1, rfl⟩⟩ := hrel
   cases gk with
   | zero => exact absurd HA.out (by simp [spoorref16_Same.l0])
   | succ k1 =>
    have H := HA.out
    clear HA
    simp only [spoorref16_Same.l0] at H
    by_cases c4 : x13_1 < (l0.length : Int)
    ·rw [if_pos c4] at H
     have c4b0 : decide (x13_1 < (l0.length : Int)) = true := decide_eq_true c4
     clear c4
     by_cases c5 : 0 ≤ x13_1
     ·rw [if_pos c5] at H
      have c5b0 : decide (0 ≤ x13_1) = true := decide_eq_true c5
      clear c5
      by_cases c6 : x13_1 < (l0.length : Int)
      ·rw [if_pos c6] at H
       have c6b0 : decide (x13_1 < (l0.length : Int)) = true := decide_eq_true c6
       clear c6
       by_cases c7 : x13_1 < (l1.length : Int)
       ·rw [if_pos c7] at H
        have c7b0 : decide (x13_1 < (l1.length : Int)) = true := decide_eq_true c7
        clear c7
        by_cases c8 : (!(((rd_T24 l0 x13_1).f0) == ((rd_T24 l1 x13_1).f0)) || (!(((rd_T24 l0 x13_1).f1) == ((rd_T24 l1 x13_1).f1)))) = true
        ·rw [if_pos c8] at H
         have c8b0 : (!(((rd_T24 l0 x13_1).f0) == ((rd_T24 l1 x13_1).f0)) || (!(((rd_T24 l0 x13_1).f1) == ((rd_T24 l1 x13_1).f1)))) = true := c8
         clear c8
         obtain rfl := Option.some.inj H
         have p182 : 0 ≤ (x13_1 : Int) := of_decide_eq_true (by first | (with_reducible assumption) | assumption)
         have q182 : x13_1 < (l0.length : Int) := of_decide_eq_true (by first | (with_reducible assumption) | assumption)
         obtain ⟨ad182, e182, hx182_0, hx182_1⟩ := at_T24 HR0.out x13_1 p182 q182
         cases e182
         replace p182 := eq_true p182
         replace q182 := eq_true q182
         have p183 : 0 ≤ (x13_1 : Int) := of_decide_eq_true (by first | (with_reducible assumption) | assumption)
         have q183 : x13_1 < (l1.length : Int) := of_decide_eq_true (by first | (with_reducible assumption) | assumption)
         obtain ⟨ad183, e183, hx183_0, hx183_1⟩ := at_T24 HR1.out x13_1 p183 q183
         cases e183
         replace p183 := eq_true p183
         replace q183 := eq_true q183
         go_wp2
         repeat (go_quiet (fail); try go_wp2)
         go_ret
         exact ⟨by first | rfl | (simp; done) | (simp [*]; done), by repeat (first | exact Drawn0.refl _ | apply Drawn0.step)⟩
        ·rw [if_neg c8] at H
         have c8b0 : (!(((rd_T24 l0 x13_1).f0) == ((rd_T24 l1 x13_1).f0)) || (!(((rd_T24 l0 x13_1).f1) == ((rd_T24 l1 x13_1).f1)))) = false := by simpa using c8
         clear c8
         have H' := Ax H
         clear H
         have p182 : 0 ≤ (x13_1 : Int) := of_decide_eq_true (by first | (with_reducible assumption) | assumption)
         have q182 : x13_1 < (l0.length : Int) := of_decide_eq_true (by first | (with_reducible assumption) | assumption)
         obtain ⟨ad182, e182, hx182_0, hx182_1⟩ := at_T24 HR0.out x13_1 p182 q182
         cases e182
         replace p182 := eq_true p182
         replace q182 := eq_true q182
         have p183 : 0 ≤ (x13_1 : Int) := of_decide_eq_true (by first | (with_reducible assumption) | assumption)
         have q183 : x13_1 < (l1.length : Int) := of_decide_eq_true (by first | (with_reducible assumption) | assumption)
         obtain ⟨ad183, e183, hx183_0, hx183_1⟩ := at_T24 HR1.out x13_1 p183 q183
         cases e183
         replace p183 := eq_true p183
         replace q183 := eq_true q183
         go_wp2
         repeat (go_quiet (fail); try go_wp2)
         go_roundg k1
         case measure => have := HK1.out; omega
         case rel => exact ⟨(wrap64 (x13_1 + 1)), rS, H', ⟨by have := HK1.out; omega⟩, by repeat (first | exact Drawn0.refl _ | apply Drawn0.step)⟩
       ·rw [if_neg c7] at H
        exact absurd H (by simp)
      ·rw [if_neg c6] at H
       exact absurd H (by simp)
     ·rw [if_neg c5] at H
      exact absurd H (by simp)
    ·rw [if_neg c4] at H
     have c4b0 : decide (x13_1 < (l0.length : Int)) = false := decide_eq_false c4
     clear c4
     obtain rfl := Option.some.inj H
     go_wp2
     repeat (go_quiet (fail); try go_wp2)
     go_ret
     exact ⟨by first | rfl | (simp; done) | (simp [*]; done), by repeat (first | exact Drawn0.refl _ | apply Drawn0.step)⟩
 ·rw [if_neg c3] at H
  have c3b0 : ((l0.length : Int) == (l1.length : Int)) = false := beq_eq_false_iff_ne.mpr c3
  have c3b1 : ((l0.length : Int) != (l1.length : Int)) = true := bne_iff_ne.mpr c3
  have c3b2 : (l0.length == l1.length) = false := by first | simpa using c3 | (simp at c3 ⊢; omega)
  obtain rfl := Option.some.inj H
  go_enter Try.func14, Try.ntmps14
  go_wp2
  repeat (go_quiet (fail); try go_wp2)
  go_ret
  exact ⟨by first | rfl | (simp; done) | (simp [*]; done), by repeat (first | exact Drawn0.refl _ | apply Drawn0.step)⟩
def links_Peer.f (k : Nat) (l0 : List (S24)) (a1 : Int) : Option (Int × Int) := (links_Check.f k l0).bind fun t184 => (if t184 = 0 then ((links_find.f k l0 a1).bind fun bt185 => (if bt185.2 = true then (if 0 ≤ bt185.1 then (if bt185.1 < (l0.length : Int) then (some ((rd_T24 l0 bt185.1).f1, 0)) else (none)) else (none)) else (some (0, 3)))) else (some (0, t184)))
theorem links_Peer.mono : ∀ a0 a1 k, LeO (links_Peer.f k a0 a1) (links_Peer.f (k + 1) a0 a1) := by
 intro a0 a1 k
 unfold links_Peer.f
 repeat' first
   | (with_reducible exact links_Check.mono _ _)
   | (with_reducible exact links_find.mono _ _ _)
   | (with_reducible exact LeO.refl _)
   | (with_reducible exact LeO.none _)
   | (with_reducible refine LeO.ite ?_ ?_)
   | (with_reducible refine LeO.bind ?_ (fun _ => ?_))
   | exact links_Check.mono _ _
   | exact links_find.mono _ _ _
   | exact LeO.none _
   | refine LeO.ite ?_ ?_
   | refine LeO.bind ?_ (fun _ => ?_)
set_option maxHeartbeats 8000000 in
set_option maxRecDepth 100000 in
theorem links_Peer.calls (k : Nat) (A0 : Option Addr) (c0 : Nat) (l0 : List (S24)) (a1 : Int) (r1 : Int) (r2 : Int) (w : World) (hr0 : Kd.C k24 w A0 l0.length l0) (hc0 : l0.length ≤ c0) (h : links_Peer.f k l0 a1 = some (r1, r2)) :
  Calls Try.prog 15 #[.slice A0 l0.length c0, .int .i64 a1] w fun e w' => e = .returned (.tuple #[.int .i64 r1, .int .i64 r2]) ∧ Below w.heap.size w w' := by
 have HR0 := Ax hr0
 have HC0 := Ax hc0
 clear hr0 hc0
 have HB := Ax (Below.refl w.heap.size w)
 have H : ((links_Check.f k l0).bind fun t184 => (if t184 = 0 then ((links_find.f k l0 a1).bind fun bt185 => (if bt185.2 = true then (if 0 ≤ bt185.1 then (if bt185.1 < (l0.length : Int) then (some ((rd_T24 l0 bt185.1).f1, 0)) else (none)) else (none)) else (some (0, 3)))) else (some (0, t184)))) = some (r1, r2) := h
 clear h
 replace H := Option.bind_eq_some_iff.mp H
 obtain ⟨t184, A30, H⟩ := H
 replace H : (if t184 = 0 then ((links_find.f k l0 a1).bind fun bt185 => (if bt185.2 = true then (if 0 ≤ bt185.1 then (if bt185.1 < (l0.length : Int) then (some ((rd_T24 l0 bt185.1).f1, 0)) else (none)) else (none)) else (some (0, 3)))) else (some (0, t184))) = some (r1, r2) := H
 have A3 := Ax A30
 clear A30
 by_cases c4 : t184 = 0
 ·rw [if_pos c4] at H
  have c4b0 : (t184 == 0) = true := beq_iff_eq.mpr c4
  have c4b1 : (t184 != 0) = false := bne_eq_false_iff_eq.mpr c4
  clear c4
  replace H := Option.bind_eq_some_iff.mp H
  obtain ⟨⟨t185, t186⟩, A50, H⟩ := H
  replace H : (if t186 = true then (if 0 ≤ t185 then (if t185 < (l0.length : Int) then (some ((rd_T24 l0 t185).f1, 0)) else (none)) else (none)) else (some (0, 3))) = some (r1, r2) := H
  have A5 := Ax A50
  clear A50
  by_cases c6 : t186 = true
  ·subst c6
   have H1 : (if 0 ≤ t185 then (if t185 < (l0.length : Int) then (some ((rd_T24 l0 t185).f1, 0)) else (none)) else (none)) = some (r1, r2) := by rw [if_pos rfl] at H; exact H
   clear H
   have H := H1
   clear H1
   by_cases c7 : 0 ≤ t185
   ·rw [if_pos c7] at H
    have c7b0 : decide (0 ≤ t185) = true := decide_eq_true c7
    clear c7
    by_cases c8 : t185 < (l0.length : Int)
    ·rw [if_pos c8] at H
     have c8b0 : decide (t185 < (l0.length : Int)) = true := decide_eq_true c8
     clear c8
     simp only [Option.some.injEq, Prod.mk.injEq] at H
     obtain ⟨rfl, rfl⟩ := H
     go_enter Try.func15, Try.ntmps15
     go_wp2_with (first | ((with_reducible refine gate_callee (f := 12) rfl ?_); refine goesL_ (some 10) rfl rfl Try.func12 (by kernel_rfl) rfl #[.slice A0 l0.length c0] rfl gS ?_; (with_reducible refine (links_Check.calls k _ _ l0 t184 _ ?side1 ?side2 A3.out).mono ?_); (case side1 => repeat (first | exact HR0.out | (with_reducible refine Kd.C_alloc ?_ _) | (with_reducible refine Kd.C_drewN ?_ _) | (with_reducible refine Kd.C_drew ?_))); (case side2 => exact HC0.out); rintro e w9 ⟨rfl, hb⟩; refine ⟨_, rfl, ?_⟩; replace HB := Bs0 HB hb; (try clear hb)) | ((with_reducible refine gate_callee (f := 22) rfl ?_); refine goesL_ (some 17) rfl rfl Try.func22 (by kernel_rfl) rfl #[.slice A0 l0.length c0, .int .i64 a1] rfl gS ?_; (with_reducible refine (links_find.calls k _ _ l0 a1 t185 true _ ?side1 ?side2 A5.out).mono ?_); (case side1 => repeat (first | exact (Kd.C_below HR0.out HB.out) | (with_reducible refine Kd.C_alloc ?_ _) | (with_reducible refine Kd.C_drewN ?_ _) | (with_reducible refine Kd.C_drew ?_))); (case side2 => exact HC0.out); rintro e w10 ⟨rfl, hb⟩; refine ⟨_, rfl, ?_⟩; replace HB := Bs0 HB hb; (try clear hb); have p187 : 0 ≤ (t185 : Int) := of_decide_eq_true (by first | (with_reducible assumption) | assumption); have q187 : t185 < (l0.length : Int) := of_decide_eq_true (by first | (with_reducible assumption) | assumption); obtain ⟨ad187, e187, hx187_0, hx187_1⟩ := at_T24 HR0.out t185 p187 q187; cases e187; replace hx187_0 := (HB.out.cell (World.block_lt_of_cell? w _ hx187_0)).trans hx187_0; replace hx187_1 := (HB.out.cell (World.block_lt_of_cell? w _ hx187_1)).trans hx187_1; replace p187 := eq_true p187; replace q187 := eq_true q187))
     go_ret2
     exact ⟨eS, bw0 HB.out⟩
    ·rw [if_neg c8] at H
     exact absurd H (by simp)
   ·rw [if_neg c7] at H
    exact absurd H (by simp)
  ·replace c6 := Bool.eq_false_iff.mpr c6
   subst c6
   have H1 : (some (0, 3)) = some (r1, r2) := by rw [if_neg (show ¬ (false = true) by decide)] at H; exact H
   clear H
   have H := H1
   clear H1
   simp only [Option.some.injEq, Prod.mk.injEq] at H
   obtain ⟨rfl, rfl⟩ := H
   go_enter Try.func15, Try.ntmps15
   go_wp2_with (first | ((with_reducible refine gate_callee (f := 12) rfl ?_); refine goesL_ (some 10) rfl rfl Try.func12 (by kernel_rfl) rfl #[.slice A0 l0.length c0] rfl gS ?_; (with_reducible refine (links_Check.calls k _ _ l0 t184 _ ?side1 ?side2 A3.out).mono ?_); (case side1 => repeat (first | exact HR0.out | (with_reducible refine Kd.C_alloc ?_ _) | (with_reducible refine Kd.C_drewN ?_ _) | (with_reducible refine Kd.C_drew ?_))); (case side2 => exact HC0.out); rintro e w11 ⟨rfl, hb⟩; refine ⟨_, rfl, ?_⟩; replace HB := Bs0 HB hb; (try clear hb)) | ((with_reducible refine gate_callee (f := 22) rfl ?_); refine goesL_ (some 17) rfl rfl Try.func22 (by kernel_rfl) rfl #[.slice A0 l0.length c0, .int .i64 a1] rfl gS ?_; (with_reducible refine (links_find.calls k _ _ l0 a1 t185 false _ ?side1 ?side2 A5.out).mono ?_); (case side1 => repeat (first | exact (Kd.C_below HR0.out HB.out) | (with_reducible refine Kd.C_alloc ?_ _) | (with_reducible refine Kd.C_drewN ?_ _) | (with_reducible refine Kd.C_drew ?_))); (case side2 => exact HC0.out); rintro e w12 ⟨rfl, hb⟩; refine ⟨_, rfl, ?_⟩; replace HB := Bs0 HB hb; (try clear hb)))
   go_ret2
   exact ⟨eS, bw0 HB.out⟩
 ·rw [if_neg c4] at H
  have c4b0 : (t184 == 0) = false := beq_eq_false_iff_ne.mpr c4
  have c4b1 : (t184 != 0) = true := bne_iff_ne.mpr c4
  simp only [Option.some.injEq, Prod.mk.injEq] at H
  obtain ⟨rfl, rfl⟩ := H
  go_enter Try.func15, Try.ntmps15
  go_wp2_with (first | ((with_reducible refine gate_callee (f := 12) rfl ?_); refine goesL_ (some 10) rfl rfl Try.func12 (by kernel_rfl) rfl #[.slice A0 l0.length c0] rfl gS ?_; (with_reducible refine (links_Check.calls k _ _ l0 t184 _ ?side1 ?side2 A3.out).mono ?_); (case side1 => repeat (first | exact HR0.out | (with_reducible refine Kd.C_alloc ?_ _) | (with_reducible refine Kd.C_drewN ?_ _) | (with_reducible refine Kd.C_drew ?_))); (case side2 => exact HC0.out); rintro e w13 ⟨rfl, hb⟩; refine ⟨_, rfl, ?_⟩; replace HB := Bs0 HB hb; (try clear hb)))
  go_ret2
  exact ⟨eS, bw0 HB.out⟩
end Go.Proofs.Ytalkiicjdafhdaa.Q
end
