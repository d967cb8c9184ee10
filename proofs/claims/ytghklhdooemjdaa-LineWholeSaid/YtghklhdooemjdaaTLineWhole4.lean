/- The times of the verdicts of a line together are the window's, each once; no neighbours tell the same. -/
import Derived.Shelf.RegionOpen
import Derived.Deep.RegionLaw
import Derived.BigQuiet
import Derived.Deep.RegionWith
import Derived.Outline
import Derived.Laws.EntriesVeiled
import Derived.WalkSpells
import Derived.Shelf.SlSortCmp.WholeK
import Derived.Test.YtghklhdooemjdaaRows
import Derived.ChangeArms
import Derived.WideShapes
import Derived.SizedLaws
import Derived.Laws.BytesArg
import Derived.Laws.BitsLemmas
import Derived.WalkKit
import Derived.ProofKit
import Derived.OpenShut
import Derived.ShutString
import Derived.ChangeOld
import Derived.Below
import Derived.JoinedCond
import Derived.Test.YtghklhdooemjdaaTLineWhole3
section
namespace Go.Proofs.Ytghklhdooemjdaa.Q
open Go.RowKit Go.Proofs.YtghklhdooemjdaaW.PrintWords Go.Proofs.YtghklhdooemjdaaW.PrintLast Go.Proofs.YtghklhdooemjdaaW.PrintMore
attribute [local go_sem] max2_int min2_int max_two min_two max_three min_three max_four min_four   -- for this text's walks alone
set_option linter.unusedVariables false
set_option linter.unusedSimpArgs false
attribute [local go_sem high] eqA35
theorem infoR19 : (Try.prog.info? 102).map (fun i => (i.zero, i.size, i.bytes)) = some (some (.agg #[(.int .i64 0), (.int .i64 0)]), 2, 16) := by kernel_rfl
set_option maxRecDepth 100000 in
set_option maxHeartbeats 4000000 in
theorem clone_is (A : Option Addr) (c : Nat) (l : List S102) (hL : l.length * 16 ≤ 140737488355328) (w : World) (hr : Kd.C k102 w A l.length l) (hc : l.length ≤ c) :
    Calls Try.prog 54 #[.slice A l.length c] w fun e w' => ∃ v : Value, e = .returned v ∧ Kd.R k102 102 w' w.heap.size (fun _ => True) v l ∧ Below w.heap.size w w' := by
  have HR := Aside0.mk hr
  have HM := Aside0.mk (Kd.C_max hr)
  have HL := Aside0.mk hL
  clear hr hL
  have q : ∀ (w : World) (a : Option Addr) (n c : Nat), (binOp .eql 87 (.slice a n c) (.slice none 0 0)).run Try.prog w = .ok (.bool a.isNone) w := fun w a n c => Lib.run_eql_slice_nil w 87 102 a n c 0 0 Try.underlying87
  go_enter Try.func54, Try.ntmps54
  cases A with
  | none =>
    have hl : l = [] := by
      cases l with
      | nil => rfl
      | cons x xs =>
        obtain ⟨ad, e, _⟩ := HR.out.2.2 (Nat.succ_pos _)
        cases e
    subst hl
    go_wp2
    go_ret
    exact ⟨_, rfl, Kd.R_nil _ _ _ _ _, Below.refl _ _⟩
  | some ad =>
    go_wp2_with (first | ((with_reducible refine gate_dst (N := 5) rfl ?_); refine Kd.R_lit k102 _ 102 ?hg (N := 5) ?hd (xs := ([] : List (S102))) (inner := []) (ok := fun _ => True) (okp := fun _ => True) ?hr ?hp (fun _ hk => hk) trivial (Below.refl _ _) (Nat.le_refl _) (by simp) ?_; (case hd => rfl); (case hg => rfl); (case hr => first | (go_simp; done) | (go_simp; rfl)); (case hp => exact (Reps.none _ _)); intro v1 w1 ho1 hb1 hg_ hnew_; clear hg_ hnew_; have HO1 := Aside0.mk ho1; have HB1 := Aside0.mk hb1; clear ho1 hb1) | ((with_reducible refine gate_builtin (b := .append) (xs := #[.tmp 5, .tmp 6]) rfl ?_); at_builtin; refine Kd.R_append_rows k102 (w0 := w) w.heap.size rfl (.tmp 5) (.tmp 6) 87 102 (.agg #[(.int .i64 0), (.int .i64 0)]) 16 rfl Try.underlying87 infoR19 rfl (by decide) (by omega) v1 [] l _ _ _ (fun _ => True) (fun _ => False) rfl rfl HO1.out (Kd.C_below HR.out HB1.out) (fun _ _ h => h) (fun _ h => h.elim) (fun _ _ => trivial) HB1.out HB1.out.size (by have := HL.out; simpa using this) ?_; intro v2 w2 ho2 hb2 hg2 hat2; have HO2 := Aside0.mk ho2; have HB2 := Aside0.mk hb2; clear ho2 hb2 hg2 hat2))
    go_ret
    exact ⟨_, rfl, HO2.out, HB2.out⟩
theorem infoI19 : (Try.prog.info? 23).map (fun i => (i.zero, i.size, i.bytes)) = some (some (.agg #[(.int .i64 0), (.int .i64 0)]), 2, 16) := by kernel_rfl
set_option maxRecDepth 100000 in
set_option maxHeartbeats 4000000 in
theorem grow_is (n : Nat) (hn : n * 16 ≤ 140737488355328) (w : World) :
    Calls Try.prog 57 #[.slice none 0 0, .int .i64 (n : Int)] w fun e w' => ∃ v : Value, e = .returned v ∧ Kd.R k23 23 w' w.heap.size (fun _ => True) v ([] : List S23) ∧ Below w.heap.size w w' := by
  have HN := Aside0.mk hn
  have w1 : wrap64 (n : Int) = n := by unfold wrap64; omega
  have w2 : IntKind.i64.wrap (n : Int) = n := (i64_w _).trans w1
  have d0 : decide ((n : Int) < 0) = false := decide_eq_false (by omega)
  go_enter Try.func57, Try.ntmps57
  by_cases h0 : 0 < n
  · have d1 : decide ((0 : Int) < (n : Int)) = true := decide_eq_true (by omega)
    have d2 : decide (0 < n) = true := decide_eq_true h0
    go_wp2_with (at_builtin; refine Kd.R_append_zeros k23 (w0 := w) w.heap.size rfl (.tmp 20) (.tmp 21) 38 3 23 (.agg #[(.int .i64 0), (.int .i64 0)]) 16 rfl Try.underlying38 Try.underlying3 infoI19 rfl (by decide) (by omega) (.slice none 0 0) [] ⟨0, 0⟩ (n : Int) (fun _ => True) rfl rfl (k23_mkM _ _ _ (⟨0, 0⟩ : S23)) (fun _ _ => trivial) (Kd.R_nil _ _ _ _ _) (by omega) (Below.refl _ _) (Nat.le_refl _) (by have := HN.out; simpa using this) ?_; intro v1 w1 ho1 hb1 hg1 hat1; have HO1 := Aside0.mk ho1; have HB1 := Aside0.mk hb1; obtain ⟨A1, c1, rfl⟩ := Kd.R_slice ho1; clear ho1 hb1 hg1 hat1)
    go_ret
    exact ⟨_, rfl, Kd.R_take (m := 0) HO1.out (Nat.zero_le _), HB1.out⟩
  · have d1 : decide ((0 : Int) < (n : Int)) = false := decide_eq_false (by omega)
    have d2 : decide (0 < n) = false := decide_eq_false h0
    go_wp2
    go_ret
    exact ⟨_, rfl, Kd.R_nil _ _ _ _ _, Below.refl _ _⟩
set_option maxRecDepth 100000 in
set_option maxHeartbeats 4000000 in
theorem concat_is (g : Nat) (A1 A2 : Option Addr) (c1 c2 : Nat) (l1 l2 : List S23) (hL : (l1.length + l2.length) * 16 ≤ 140737488355328) (w : World) (hg : w.heap[g]? = some (.cells #[.slice A1 l1.length c1, .slice A2 l2.length c2] 38 (0, 0)))
    (hr1 : Kd.C k23 w A1 l1.length l1) (hr2 : Kd.C k23 w A2 l2.length l2) :
    Calls Try.prog 47 #[.slice (some ⟨g, 0, none⟩) 2 2] w fun e w' => ∃ v : Value, e = .returned v ∧ Kd.R k23 23 w' w.heap.size (fun _ => True) v (l1 ++ l2) ∧ Below w.heap.size w w' := by
  have HL := Aside0.mk hL
  have BG := Aside0.mk hg
  have HR1 := Aside0.mk hr1
  have HR2 := Aside0.mk hr2
  have hx0 := (blk_cell hg 0).trans rfl
  have hx1 := (blk_cell hg 1).trans rfl
  clear hg hr1 hr2 hL
  go_enter Try.func47, Try.ntmps47
  go_wp2
  go_loopg [3, 11] 2 (fun kq v3 v11 w' => ∃ (i : Nat), v11 = .int .i64 (i : Int) ∧ Aside0 (i ≤ 2 ∧ kq = 2 - i) ∧ v3 = .int .i64 (((if i = 0 then 0 else if i = 1 then l1.length else l1.length + l2.length : Nat)) : Int) ∧ w' = w)
  case atStart => exact ⟨0, rfl, ⟨by omega, rfl⟩, rfl, rfl⟩
  case round =>
    obtain ⟨i, rfl, HI, rfl, rfl⟩ := hrel
    have hi := HI.out.1
    have hl := HL.out
    match i, HI with
    | 0, HI =>
      have wa : IntKind.i64.wrap (l1.length : Int) = (l1.length : Int) := by rw [i64_w]; unfold wrap64; omega
      have dn : decide ((l1.length : Int) < 0) = false := decide_eq_false (by omega)
      go_wp2
      go_roundg 1
      case measure => have := HI.out.2; omega
      case rel => exact ⟨1, by first | rfl | go_num, ⟨by omega, rfl⟩, by first | rfl | go_num | simp, rfl⟩
    | 1, HI =>
      have wa : IntKind.i64.wrap ((l1.length : Int) + (l2.length : Int)) = ((l1.length + l2.length : Nat) : Int) := by rw [i64_w]; unfold wrap64; omega
      have dn : decide (((l1.length + l2.length : Nat) : Int) < 0) = false := decide_eq_false (by omega)
      have dn2 : decide ((l1.length : Int) + (l2.length : Int) < 0) = false := decide_eq_false (by omega)
      go_wp2
      go_roundg 0
      case measure => have := HI.out.2; omega
      case rel => exact ⟨2, by first | rfl | go_num, ⟨by omega, rfl⟩, by first | rfl | go_num | simp, rfl⟩
    | 2, HI =>
      obtain ⟨w0, e0⟩ : ∃ w0 : World, w0 = wr := ⟨_, rfl⟩
      subst e0
      clear hx0 hx1
      go_wp2_with (go_at_call 57; refine (grow_is (l1.length + l2.length) HL.out w0).mono ?_; rintro e w5 ⟨v5, rfl, hR5, hb5⟩; have HR5 := Aside0.mk hR5; have HB5 := Aside0.mk hb5; clear hR5 hb5)
      go_loopg [6, 27] 2 (fun kq v6 v27 w' => ∃ (j : Nat), v27 = .int .i64 (j : Int) ∧ Aside0 (j ≤ 2 ∧ kq = 2 - j) ∧ Aside0 (Kd.R k23 23 w' w0.heap.size (fun _ => True) v6 (if j = 0 then [] else if j = 1 then l1 else l1 ++ l2)) ∧ Aside0 (Below w0.heap.size w0 w'))
      case atStart => exact ⟨0, rfl, ⟨by omega, rfl⟩, HR5, HB5⟩
      case round =>
        clear HR5 HB5
        obtain ⟨j, rfl, HJ, HO, HB⟩ := hrel
        have hl := HL.out
        have BG2 := Aside0.mk (blk_below BG.out HB.out)
        have hx0 := (blk_cell BG2.out 0).trans rfl
        have hx1 := (blk_cell BG2.out 1).trans rfl
        have hj := HJ.out.1
        match j, HJ, HO with
        | 0, HJ, HO =>
          have HO0 : Aside0 (Kd.R k23 23 wr w0.heap.size (fun _ => True) u6 []) := HO
          go_wp2_with (at_builtin; refine Kd.R_append_rows k23 (w0 := w0) w0.heap.size rfl (.tmp 31) (.tmp 32) 38 23 (.agg #[(.int .i64 0), (.int .i64 0)]) 16 rfl Try.underlying38 infoI19 rfl (by decide) (by omega) u6 [] l1 _ _ _ (fun _ => True) (fun _ => False) rfl rfl HO0.out (Kd.C_below HR1.out HB.out) (fun _ _ h => h) (fun _ h => h.elim) (fun _ _ => trivial) HB.out HB.out.size (by have := HL.out; simp only [List.length_nil]; omega) ?_; intro v2 w2 ho2 hb2 hg2 hat2; have HO2 := Aside0.mk ho2; have HB2 := Aside0.mk hb2; clear ho2 hb2 hg2 hat2)
          go_roundg 1
          case measure => have := HJ.out.2; omega
          case rel => exact ⟨1, by first | rfl | go_num, ⟨by omega, rfl⟩, HO2, HB2⟩
        | 1, HJ, HO =>
          have HO0 : Aside0 (Kd.R k23 23 wr w0.heap.size (fun _ => True) u6 l1) := HO
          go_wp2_with (at_builtin; refine Kd.R_append_rows k23 (w0 := w0) w0.heap.size rfl (.tmp 31) (.tmp 32) 38 23 (.agg #[(.int .i64 0), (.int .i64 0)]) 16 rfl Try.underlying38 infoI19 rfl (by decide) (by omega) u6 l1 l2 _ _ _ (fun _ => True) (fun _ => False) rfl rfl HO0.out (Kd.C_below HR2.out HB.out) (fun _ _ h => h) (fun _ h => h.elim) (fun _ _ => trivial) HB.out HB.out.size HL.out ?_; intro v2 w2 ho2 hb2 hg2 hat2; have HO2 := Aside0.mk ho2; have HB2 := Aside0.mk hb2; clear ho2 hb2 hg2 hat2)
          go_roundg 0
          case measure => have := HJ.out.2; omega
          case rel => exact ⟨2, by first | rfl | go_num, ⟨by omega, rfl⟩, HO2, HB2⟩
        | 2, HJ, HO =>
          have HO0 : Aside0 (Kd.R k23 23 wr w0.heap.size (fun _ => True) u6 (l1 ++ l2)) := HO
          go_wp2
          go_ret
          exact ⟨_, rfl, HO0.out, HB.out⟩
open Go.Shelf Go.Sort in
def fieldC : Array Value := #[.int .i64 0, .int .i64 1099511627776, .func (.func 51) #[] #[], .func (.func 52) #[] #[], .func (.func 53) #[] #[]]
set_option maxRecDepth 100000 in
set_option maxHeartbeats 4000000 in
open Go.Shelf Go.Sort in
theorem joincmp_is (bf : Nat) (x y : S102) (W : World) (hb : W.heap[bf]? = some (.cells fieldC 91 (0, 0))) :
    Calls Try.prog 56 #[.agg #[.int .i64 x.f0, .int .i64 x.f1], .agg #[.int .i64 y.f0, .int .i64 y.f1], .pointer (some ⟨bf, 0, none⟩)] W fun e w' => e = .returned (.int .i64 (cmpI x.f0 y.f0)) ∧ ∃ q os', w' = grow (W.drewN q) os' := by
  unfold fieldC at hb
  have BF := Aside0.mk hb
  have hlt := World.block_lt_of_cell? _ _ ((blk_cell hb 2).trans rfl)
  have hg2 : ((W.alloc (.cells #[.int .i64 x.f0, .int .i64 x.f1] 102)).alloc (.cells #[.int .i64 y.f0, .int .i64 y.f1] 102)).cell? ⟨bf, 2, none⟩ = some (.func (.func 51) #[] #[]) := (blk_cell (blk_alloc (blk_alloc BF.out _) _) 2).trans rfl
  clear hb
  go_enter Try.func56, Try.ntmps56
  go_wp2_with (go_at_call 51; refine (cmp_is _ _ _).mono ?_; rintro e w' ⟨rfl, rfl⟩)
  go_ret
  exact ⟨rfl, 0, _, by rw [alloc_eq_grow, alloc_eq_grow, grow_grow]; rfl⟩
open Go.Shelf Go.Sort in
def sortRun_ren : Go.Shelf.Ren := ⟨fun | 6 => 55 | 15 => 60 | 14 => 59 | 28 => 69 | 29 => 70 | 20 => 61 | 21 => 62 | 22 => 63 | 23 => 64 | 24 => 65 | 25 => 66 | 26 => 67 | 27 => 68 | 46 => 71 | 47 => 72 | 48 => 73 | 49 => 74 | 50 => 75 | 57 => 76 | n => n, fun | 22 => 87 | 24 => 102 | 25 => 104 | 3 => 3 | 39 => 109 | 0 => 0 | 53 => 119 | 55 => 121 | 4 => 4 | 46 => 112 | 45 => 111 | 50 => 116 | 5 => 5 | 9 => 9 | 66 => 122 | 70 => 126 | 76 => 128 | 77 => 129 | n => n, fun | n => n⟩
open Go.Shelf Go.Sort in
theorem sortRun : Go.Proofs.SlLaysF0.n6 Try.prog sortRun_ren := {
  mixed := by kernel_rfl
  f6 := ⟨Try.f55.name, by decide, Try.func55.trans (congrArg some (by kernel_rfl))⟩
  f14 := ⟨Try.f59.name, by decide, Try.func59.trans (congrArg some (by kernel_rfl))⟩
  f15 := Try.func60.trans (congrArg some (by kernel_rfl))
  f20 := ⟨Try.f61.name, by decide, Try.func61.trans (congrArg some (by kernel_rfl))⟩
  f21 := ⟨Try.f62.name, by decide, Try.func62.trans (congrArg some (by kernel_rfl))⟩
  f22 := ⟨Try.f63.name, by decide, Try.func63.trans (congrArg some (by kernel_rfl))⟩
  f23 := ⟨Try.f64.name, by decide, Try.func64.trans (congrArg some (by kernel_rfl))⟩
  f24 := ⟨Try.f65.name, by decide, Try.func65.trans (congrArg some (by kernel_rfl))⟩
  f25 := ⟨Try.f66.name, by decide, Try.func66.trans (congrArg some (by kernel_rfl))⟩
  f26 := ⟨Try.f67.name, by decide, Try.func67.trans (congrArg some (by kernel_rfl))⟩
  f27 := ⟨Try.f68.name, by decide, Try.func68.trans (congrArg some (by kernel_rfl))⟩
  f28 := Try.func69.trans (congrArg some (by kernel_rfl))
  f29 := Try.func70.trans (congrArg some (by kernel_rfl))
  f46 := ⟨Try.f71.name, by decide, Try.func71.trans (congrArg some (by kernel_rfl))⟩
  f47 := Try.func72.trans (congrArg some (by kernel_rfl))
  f48 := Try.func73.trans (congrArg some (by kernel_rfl))
  f49 := ⟨Try.f74.name, by decide, Try.func74.trans (congrArg some (by kernel_rfl))⟩
  f50 := ⟨Try.f75.name, by decide, Try.func75.trans (congrArg some (by kernel_rfl))⟩
  f57 := ⟨Try.f76.name, by decide, Try.func76.trans (congrArg some (by kernel_rfl))⟩
  t0 := Try.underlying0
  a0 := Try.isAgg0
  z0 := Try.sizeOf0
  v0 := Try.zeroValue0
  t3 := Try.underlying3
  a3 := Try.isAgg3
  z3 := Try.sizeOf3
  v3 := Try.zeroValue3
  t4 := Try.underlying4
  a4 := Try.isAgg4
  z4 := Try.sizeOf4
  v4 := Try.zeroValue4
  t5 := Try.underlying5
  a5 := Try.isAgg5
  z5 := Try.sizeOf5
  v5 := Try.zeroValue5
  t9 := Try.underlying9
  a9 := Try.isAgg9
  z9 := Try.sizeOf9
  v9 := Try.zeroValue9
  t22 := Try.underlying87
  a22 := Try.isAgg87
  z22 := Try.sizeOf87
  v22 := Try.zeroValue87
  t25 := Try.underlying104
  a25 := Try.isAgg104
  z25 := Try.sizeOf104
  v25 := Try.zeroValue104
  t39 := Try.underlying109
  a39 := Try.isAgg109
  z39 := Try.sizeOf109
  v39 := Try.zeroValue109
  t45 := Try.underlying111
  a45 := Try.isAgg111
  z45 := Try.sizeOf111
  v45 := Try.zeroValue111
  t46 := Try.underlying112
  a46 := Try.isAgg112
  z46 := Try.sizeOf112
  v46 := Try.zeroValue112
  t50 := Try.underlying116
  a50 := Try.isAgg116
  z50 := Try.sizeOf116
  v50 := Try.zeroValue116
  t53 := Try.underlying119
  a53 := Try.isAgg119
  z53 := Try.sizeOf119
  v53 := Try.zeroValue119
  t55 := Try.underlying121
  a55 := Try.isAgg121
  z55 := Try.sizeOf121
  v55 := Try.zeroValue121
  t66 := Try.underlying122
  a66 := Try.isAgg122
  z66 := Try.sizeOf122
  v66 := Try.zeroValue122
  t70 := Try.underlying126
  a70 := Try.isAgg126
  z70 := Try.sizeOf126
  v70 := Try.zeroValue126
  t76 := Try.underlying128
  a76 := Try.isAgg128
  z76 := Try.sizeOf128
  v76 := Try.zeroValue128
  t77 := Try.underlying129
  a77 := Try.isAgg129
  z77 := Try.sizeOf129
  v77 := Try.zeroValue129 }
open Go.Shelf Go.Sort in
abbrev Rn_ := S102
open Go.Shelf Go.Sort in
instance instRn : Inhabited Rn_ := ⟨z102⟩
open Go.Shelf Go.Sort in
def encN (x : Rn_) : List Value := [.int .i64 x.f0, .int .i64 x.f1]
open Go.Shelf Go.Sort in
def cfN (x y : Rn_) : Int := cmpI x.f0 y.f0
open Go.Shelf Go.Sort in
theorem ltN (x y : Rn_) : ltOf cfN x y = decide (x.f0 < y.f0) := by unfold ltOf cfN cmpI; (repeat' split) <;> simp <;> omega
open Go.Shelf Go.Sort in
theorem swoN : SWO (ltOf cfN) where
  irrefl x := by rw [ltN]; simp
  trans x y z h1 h2 := by rw [ltN] at *; simp at *; omega
  ntrans x y z h1 h2 := by rw [ltN] at *; simp at *; omega
open Go.Shelf Go.Sort in
def SortS : Prop := ∀ (W w0 : World) (base g c bf : Nat) (l : List Rn_), Kd.R k102 102 W base (fun _ => True) (.slice (some ⟨g, 0, none⟩) l.length c) l → W.heap[bf]? = some (.cells fieldC 91 (0, 0)) → base ≤ bf → Below base w0 W → base ≤ W.heap.size → l.length < 4611686018427387904 →
  Calls Try.prog 55 #[.slice (some ⟨g, 0, none⟩) l.length c, .func (.func 56) #[] #[.pointer (some ⟨bf, 0, none⟩)]] W fun e w' => e = .returned (.tuple #[]) ∧ ∃ l' : List Rn_, l'.Perm l ∧ l'.Pairwise (fun a b => a.f0 ≤ b.f0) ∧ Kd.R k102 102 w' base (fun _ => True) (.slice (some ⟨g, 0, none⟩) l'.length c) l' ∧ w'.heap[bf]? = some (.cells fieldC 91 (0, 0)) ∧ Below base w0 w'
open Go.Shelf Go.Sort in
theorem sortW_block {W : World} {g m : Nat} {d : Array Rn_} {os : Array Obj} {b : Nat} (hb : b < W.heap.size) (hg : b ≠ g) : (sortWorldK encN 2 W g 0 m d os).heap[b]? = W.heap[b]? := by
  unfold sortWorldK grow putRowK putRow mapBlock Sort.ahead
  simp only
  rw [Array.getElem?_append_left (by simpa using hb), Array.getElem?_modify, if_neg (fun h => hg h.symm)]
open Go.Shelf Go.Sort in
theorem sortW_row {W : World} {g m : Nat} {d : Array Rn_} {os : Array Obj} {cur : Array Value} {e : Nat} (h : W.heap[g]? = some (.cells cur e (0, 0))) : (sortWorldK encN 2 W g 0 m d os).heap[g]? = some (.cells (putCells id 0 (flatK encN 2 d) cur) e (0, 0)) := by
  have hb : g < W.heap.size := blk_lt h
  unfold sortWorldK grow putRowK putRow mapBlock Sort.ahead
  simp only
  rw [Array.getElem?_append_left (by simpa using hb), Array.getElem?_modify, if_pos rfl, h]
  rfl
open Go.Shelf Go.Sort in
theorem sortW_grown {W : World} {g m : Nat} {d : Array Rn_} {os : Array Obj} : W.grownBy (sortWorldK encN 2 W g 0 m d os) (some g) := by
  refine ⟨rfl, rfl, rfl, ?_, fun b hb hg => sortW_block hb (fun e => hg (by rw [e]))⟩
  unfold sortWorldK grow putRowK putRow mapBlock Sort.ahead
  simp only [Array.size_append, Array.size_modify]
  omega
open Go.Shelf Go.Sort in
theorem sort_is : SortS := by
  intro W w0 base g c bf l hR hbf hbb hbel hbase hLL
  have hC := (Kd.R_reads' hR).2.2
  obtain ⟨_, hlc, _⟩ := Kd.R_reads' hR
  have hmax := Kd.C_max hC
  obtain ⟨h0, inner, ho, hr⟩ := id hR
  obtain ⟨ho1, ho2⟩ := ho
  rcases ho2 with ⟨hv, _⟩ | ⟨g', cap', cur, hv, hb, hh, hnc', hcm, hcs, ht⟩
  · cases hv
  injection hv with ha _ hc
  injection ha with ha
  injection ha with hg
  subst hg; subst hc
  have hlt : g < W.heap.size := blk_lt hh
  have hne : bf ≠ g := by
    rintro rfl
    rw [hh] at hbf
    injection hbf with hbf
    injection hbf with _ hbf
    exact absurd hbf (by decide)
  have hsz : l.toArray.size < 4611686018427387904 := by simpa using hLL
  have hget : ∀ (d : Array Rn_) (j : Nat), j < d.size * 2 → (flatK encN 2 d)[j]! = if j % 2 = 0 then .int .i64 (d[j / 2]!).f0 else .int .i64 (d[j / 2]!).f1 := by
    intro d j hj
    rw [get_flatK _ _ _ _ hj]
    rcases Nat.mod_two_eq_zero_or_one j with h | h <;> rw [h] <;> rfl
  have hH : HoldsK encN 2 W g 0 l.toArray := by
    intro j hj
    rw [size_flatK] at hj
    rw [hget _ _ hj]
    simp only [List.size_toArray] at hj
    have hjl : j / 2 < l.length := by omega
    obtain ⟨cs, hcl, hcM, hcc, hcf⟩ := Kd.R_elem hR z102 ((j / 2 : Nat) : Int) (by omega) (by omega)
    have he := k102_openM hcM
    have hx : l.getD (j / 2) z102 = l.toArray[j / 2]! := by
      simp [List.getD_eq_getElem?_getD, hjl]
    simp only [Int.toNat_natCast] at hcc hcf he
    rw [hx] at he
    have hsz2 : (k102).sz = 2 := rfl
    have hf := hcf (j % 2)
    have hq := hcc (j % 2)
    rw [hsz2, show j / 2 * 2 + j % 2 = 0 + j by omega] at hf hq
    refine ⟨hq _ ?_, hf⟩
    rw [he]
    rcases Nat.mod_two_eq_zero_or_one j with h | h <;> rw [h] <;> rfl
  have hcmp : CmpLays Try.prog 56 #[.pointer (some ⟨bf, 0, none⟩)] encN 2 cfN g 0 l.toArray.size W := by
    intro m os dk _ x y
    exact joincmp_is bf x y _ ((sortW_block (blk_lt hbf) hne).trans hbf)
  have eg : ∀ args w, (callFunc 56 args).run Try.prog w = .ok (.enter 56 args) w := enters_of Try.func56 (by kernel_rfl) rfl
  have hcon := AnyQ.slices_SortFunc sortRun 2 Try.isAgg102 Try.sizeOf102 encN (fun _ => rfl) (fun x v hv => by simp [encN] at hv; rcases hv with rfl | rfl <;> rfl) cfN swoN 56 #[.pointer (some ⟨bf, 0, none⟩)] g 0 c l.toArray W eg hcmp hH hlt hsz
  rw [List.size_toArray] at hcon
  refine hcon.mono ?_
  rintro e w' ⟨rfl, d', n, os, ⟨hp1, _, hp2⟩, hs, rfl⟩
  have hsd : d'.size = l.length := by rw [hp1, List.size_toArray]
  refine ⟨rfl, d'.toList, ?_, ?_, ?_, (sortW_block (blk_lt hbf) hne).trans hbf, hbel.grown sortW_grown hbase (fun k hk => by obtain rfl := Option.some.inj hk; exact hb)⟩
  · have e1 : d'.extract 0 l.length = d' := by rw [← hsd]; exact Array.extract_size
    have e2 : l.toArray.extract 0 l.length = l.toArray := by rw [← List.size_toArray]; exact Array.extract_size
    rw [e1, e2] at hp2
    exact hp2
  · rw [List.pairwise_iff_getElem]
    intro i j hi hj hij
    have h := hs i j (Nat.zero_le _) hij (by simpa [hsd] using hj)
    rw [ltN] at h
    simp only [Array.length_toList] at hi hj
    rw [getElem!_pos d' i hi, getElem!_pos d' j hj] at h
    have h2 := of_decide_eq_false h
    simpa using Int.not_lt.mp h2
  · have hdl : d'.toList.length = d'.size := rfl
    rw [hdl]
    refine ⟨fun _ _ => trivial, (flatK encN 2 d').toList, ⟨?_, .inr ⟨g, c, _, rfl, hb, sortW_row hh, by omega, hcm, ?_, ?_⟩⟩, ?_, ?_⟩
    · rw [hdl]; show (flatK encN 2 d').toList.length = d'.size * 2; simp
    · simp only [putCells, Array.size_mapIdx]; exact hcs
    · have hk2 : (k102).sz = 2 := rfl
      rw [hk2] at hcs ⊢
      apply List.ext_getElem?
      intro j
      rw [List.getElem?_take]
      have hle : d'.size * 2 ≤ cur.size := by rw [hcs]; omega
      simp only [Array.getElem?_toList, putCells, Array.getElem?_mapIdx]
      by_cases hj : j < d'.size * 2
      · have hjc : j < cur.size := by omega
        have hjf : j < (flatK encN 2 d').size := by rw [size_flatK]; exact hj
        rw [if_pos (by simpa using hj), Array.getElem?_eq_getElem hjc, Option.map_some, if_pos ⟨Nat.zero_le _, by omega⟩, Nat.sub_zero, Array.getElem?_eq_getElem hjf, getElem!_pos _ j hjf]
        rfl
      · rw [if_neg (by simpa using hj), Array.getElem?_eq_none (by rw [size_flatK]; omega)]
    · show (flatK encN 2 d').toList.length = d'.toList.length * 2; simp
    · intro j p hj
      simp only [Array.getElem?_toList] at hj
      obtain ⟨hjs, hjp⟩ := Array.getElem?_eq_some_iff.mp hj
      have hk2 : (k102).sz = 2 := rfl
      have e3 : ((flatK encN 2 d').toList.drop (j * 2)).take 2 = [.int .i64 p.f0, .int .i64 p.f1] := by
        apply List.ext_getElem?
        intro i
        rw [List.getElem?_take, List.getElem?_drop]
        by_cases hi : i < 2
        · have hji : j * 2 + i < d'.size * 2 := by omega
          have hjf : j * 2 + i < (flatK encN 2 d').size := by rw [size_flatK]; exact hji
          rw [if_pos hi, Array.getElem?_toList, Array.getElem?_eq_getElem hjf, ← getElem!_pos (flatK encN 2 d') (j * 2 + i) hjf, hget _ _ hji, show (j * 2 + i) / 2 = j by omega, show (j * 2 + i) % 2 = i by omega, getElem!_pos d' j hjs, hjp]
          match i, hi with
          | 0, _ => rfl
          | 1, _ => rfl
        · rw [if_neg hi, List.getElem?_eq_none (by simp; omega)]
      rw [hk2, e3]
      exact k102_mkM _ _ _ p
set_option maxRecDepth 100000 in
set_option maxHeartbeats 4000000 in
theorem ins0_is (A : Option Addr) (c : Nat) (F : Value) (w : World) : Calls Try.prog 61 #[.slice A 0 c, .int .i64 0, .int .i64 0, F] w fun e w' => e = .returned (.tuple #[]) ∧ Below w.heap.size w w' := by
  go_enter Try.func61, Try.ntmps61
  go_wp2
  go_loopg [8] 0 (fun kq v8 w' => v8 = .int .i64 1 ∧ w' = w)
  case atStart => exact ⟨rfl, rfl⟩
  case round =>
    obtain ⟨rfl, rfl⟩ := hrel
    go_wp2
    go_end0
    exact ⟨rfl, Below.refl _ _⟩
set_option maxRecDepth 100000 in
set_option maxHeartbeats 4000000 in
theorem pdq0_is (A : Option Addr) (c : Nat) (n : Int) (F : Value) (w : World) : Calls Try.prog 59 #[.slice A 0 c, .int .i64 0, .int .i64 0, .int .i64 n, F] w fun e w' => e = .returned (.tuple #[]) ∧ Below w.heap.size w w' := by
  go_enter Try.func59, Try.ntmps59
  go_wp2
  go_loopg [1, 2, 3] 0 (fun kq v1 v2 v3 w' => v1 = .int .i64 0 ∧ v2 = .int .i64 0 ∧ v3 = .int .i64 n ∧ w' = w)
  case atStart => exact ⟨rfl, rfl, rfl, rfl⟩
  case round =>
    obtain ⟨rfl, rfl, rfl, rfl⟩ := hrel
    go_wp2_with (go_at_call 61; refine (ins0_is A c F _).mono ?_; rintro e w5 ⟨rfl, hb5⟩)
    (try simp only [Exit.inBlock, Exit.then])
    refine bodyPost_ret (results_none rfl _ _ _) rfl ?_
    exact ⟨rfl, hb5⟩
set_option maxRecDepth 100000 in
set_option maxHeartbeats 4000000 in
theorem len640_is (w : World) : Calls Try.prog 70 #[.int .u64 0] w fun e w' => (∃ n : Int, e = .returned (.int .i64 n)) ∧ w' = w := by
  go_enter Try.func70, Try.ntmps70
  go_wp2
  go_ret
  exact ⟨⟨_, rfl⟩, rfl⟩
set_option maxRecDepth 100000 in
set_option maxHeartbeats 4000000 in
theorem len0_is (w : World) : Calls Try.prog 60 #[.int .u64 0] w fun e w' => (∃ n : Int, e = .returned (.int .i64 n)) ∧ w' = w := by
  go_enter Try.func60, Try.ntmps60
  go_wp2_with (go_at_call 70; refine (len640_is _).mono ?_; rintro e w5 ⟨⟨n0, rfl⟩, rfl⟩)
  go_ret
  exact ⟨⟨_, rfl⟩, rfl⟩
set_option maxRecDepth 100000 in
set_option maxHeartbeats 4000000 in
theorem sort0_is (A : Option Addr) (c : Nat) (F : Value) (w : World) : Calls Try.prog 55 #[.slice A 0 c, F] w fun e w' => e = .returned (.tuple #[]) ∧ Below w.heap.size w w' := by
  go_enter Try.func55, Try.ntmps55
  go_wp2_with (first | (go_at_call 60; refine (len0_is _).mono ?_; rintro e w5 ⟨⟨n0, rfl⟩, rfl⟩) | (go_at_call 59; refine (pdq0_is A c _ F _).mono ?_; rintro e w6 ⟨rfl, hb6⟩))
  go_end0
  exact ⟨rfl, hb6⟩
def joinS (out : List Rn_) (x : Rn_) : List Rn_ :=
  if out = [] ∨ ((rd_T102 out ((out.length - 1 : Nat) : Int)).f1 ≠ 1099511627776 ∧ (rd_T102 out ((out.length - 1 : Nat) : Int)).f1 + 1 < x.f0) then out ++ [x]
  else if (rd_T102 out ((out.length - 1 : Nat) : Int)).f1 < x.f1 then out.set (out.length - 1) ⟨(rd_T102 out ((out.length - 1 : Nat) : Int)).f0, x.f1⟩ else out
theorem joinS_len (out : List Rn_) (x : Rn_) : (joinS out x).length ≤ out.length + 1 := by unfold joinS; (repeat' split) <;> simp
theorem joinF_len (l : List Rn_) : ∀ out : List Rn_, (l.foldl joinS out).length ≤ out.length + l.length := by
  induction l with
  | nil => intro out; simp
  | cons x xs ih => intro out; have h1 := ih (joinS out x); have h2 := joinS_len out x; simp only [List.foldl_cons, List.length_cons]; omega
theorem joinS_bd (P : Int → Prop) (out : List Rn_) (x : Rn_) (ho : ∀ y ∈ out, P y.f1) (hx : P x.f1) : ∀ y ∈ joinS out x, P y.f1 := by
  unfold joinS
  intro y
  split
  · intro h; rcases List.mem_append.1 h with h | h
    · exact ho y h
    · rw [List.mem_singleton.1 h]; exact hx
  · split
    · intro h; rcases List.mem_or_eq_of_mem_set h with h | h
      · exact ho y h
      · rw [h]; exact hx
    · exact ho y
theorem joinF_bd (P : Int → Prop) (l : List Rn_) : ∀ out : List Rn_, (∀ y ∈ out, P y.f1) → (∀ y ∈ l, P y.f1) → ∀ y ∈ l.foldl joinS out, P y.f1 := by
  induction l with
  | nil => intro out ho _; exact ho
  | cons x xs ih => intro out ho hl; exact ih _ (joinS_bd P out x ho (hl x (List.mem_cons_self ..))) (fun y hy => hl y (List.mem_cons_of_mem _ hy))
theorem cmpI_lt (a b : Int) : decide (cmpI a b < 0) = decide (a < b) := by unfold cmpI; (repeat' split) <;> simp <;> omega
theorem infoN19 : (Try.prog.info? 102).map (fun i => (i.zero, i.size, i.bytes)) = some (some (.agg #[(.int .i64 0), (.int .i64 0)]), 2, 16) := by kernel_rfl
set_option maxRecDepth 100000 in
set_option maxHeartbeats 4000000 in
theorem joinP_is (A : Option Addr) (c : Nat) (l : List Rn_) (hne : 0 < l.length) (hL : (l.length + 1) * 16 ≤ 140737488355328) (hB : ∀ x ∈ l, 0 ≤ x.f1 ∧ x.f1 ≤ 1099511627776) (w : World) (hr : Kd.C k102 w A l.length l) (hc : l.length ≤ c) :
    Calls Try.prog 45 #[.agg fieldC, .slice A l.length c] w fun e w' => ∃ (v : Value) (l' : List Rn_), e = .returned v ∧ l'.Perm l ∧ l'.Pairwise (fun a b => a.f0 ≤ b.f0) ∧ Kd.R k102 102 w' w.heap.size (fun _ => True) v (l'.foldl joinS []) ∧ Below w.heap.size w w' := by
  have HR := Aside0.mk hr
  have HM := Aside0.mk (Kd.C_max hr)
  have HL := Aside0.mk hL
  have HBN := Aside0.mk hB
  have HNE := Aside0.mk hne
  clear hr hL hB
  go_enter Try.func45, Try.ntmps45
  have BF0 := Aside0.mk (heap_alloc_new w (.cells fieldC 91))
  have hb0 := Aside0.mk (below_alloc (Below.refl w.heap.size w) (.cells fieldC 91))
  unfold fieldC at BF0 hb0
  unfold fieldC
  go_wp2_with (first | (go_at_call 54; refine (clone_is A c l (by have := HL.out; omega) _ (Kd.C_below HR.out hb0.out) hc).mono ?_; rintro e w2 ⟨v2, rfl, hR2, hb2⟩; have HR2 := Aside0.mk (Kd.R_lower hR2 hb0.out.size); have HB2 := Aside0.mk (below_step hb0.out hb2); have BF2 := Aside0.mk (blk_below BF0.out hb2); clear hR2 hb2 hb0 BF0))
  obtain ⟨h00, inner, ho, hrr⟩ := HR2.out
  obtain ⟨hown1, (⟨_, h0⟩ | ⟨g, cap, cur, hv, hrest⟩)⟩ := ho
  · exact absurd HNE.out (by simp at h0; simp [h0])
  have hv' : v2 = .slice (some ⟨g, 0, none⟩) l.length cap := hv
  subst hv'
  clear h00 hrr hown1 hv hrest
  refine (sort_is w2 w w.heap.size g cap w.heap.size l HR2.out BF2.out (Nat.le_refl _) HB2.out HB2.out.size (by have := HL.out; omega)).mono ?_
  rintro e w3 ⟨rfl, l', hperm, hpw, hR3, hBF3, hB3⟩
  have HP := Aside0.mk hperm
  have HPW := Aside0.mk hpw
  have HR3 := Aside0.mk hR3
  have BF3 := Aside0.mk hBF3
  have HB3 := Aside0.mk hB3
  have HLN := Aside0.mk (hperm.length_eq)
  have HBN' := Aside0.mk (fun x (hx : x ∈ l') => HBN.out x (hperm.mem_iff.1 hx))
  clear hperm hpw hR3 hBF3 hB3 HR2 HB2 BF2
  rw [← HLN.out]
  go_wp2
  go_loopg [5, 16] l'.length (fun kq v5 v16 w' => ∃ (i : Nat), v16 = .int .i64 (i : Int) ∧ Aside0 (i ≤ l'.length ∧ kq = l'.length - i) ∧ Aside0 (Kd.R k102 102 w' w3.heap.size (fun _ => True) v5 ((l'.take i).foldl joinS [])) ∧ Aside0 (Below w3.heap.size w3 w'))
  case atStart => exact ⟨0, rfl, ⟨Nat.zero_le _, rfl⟩, ⟨Kd.R_nil _ _ _ _ _⟩, ⟨Below.refl _ _⟩⟩
  case round =>
    obtain ⟨i, rfl, HJ, HO, Hb⟩ := hrel
    have hm := Kd.C_max (Kd.R_reads' HR3.out).2.2
    have HM3 := Aside0.mk hm
    by_cases hi : i < l'.length
    · have hd : decide ((i : Int) < (l'.length : Int)) = true := decide_eq_true (by omega)
      have hdn : decide (i < l'.length) = true := decide_eq_true hi
      have htk : (l'.take (i + 1)).foldl joinS [] = joinS ((l'.take i).foldl joinS []) (rd_T102 l' (i : Int)) := by
        rw [List.take_succ_eq_append_getElem hi, List.foldl_append]
        simp only [List.foldl_cons, List.foldl_nil, rd_T102, Int.toNat_natCast, List.getD_eq_getElem?_getD, List.getElem?_eq_getElem hi, Option.getD_some]
      have p0 : (0 : Int) ≤ (i : Int) := by omega
      have q0 : (i : Int) < (l'.length : Int) := by omega
      have hxm : rd_T102 l' (i : Int) ∈ l' := by
        simp only [rd_T102, Int.toNat_natCast, List.getD_eq_getElem?_getD, List.getElem?_eq_getElem hi, Option.getD_some]
        exact List.getElem_mem hi
      have HXB := Aside0.mk (HBN'.out _ hxm)
      have HOL : Aside0 (((l'.take i).foldl joinS []).length ≤ i) := ⟨by have h1 := joinF_len (l'.take i) []; rw [List.length_take] at h1; simp only [List.length_nil] at h1; omega⟩
      have HOB : Aside0 (∀ y ∈ (l'.take i).foldl joinS [], 0 ≤ y.f1 ∧ y.f1 ≤ 1099511627776) := ⟨joinF_bd (fun z => 0 ≤ z ∧ z ≤ 1099511627776) (l'.take i) [] (fun _ h => by simp at h) (fun y hy => HBN'.out y (List.mem_of_mem_take hy))⟩
      obtain ⟨ad, ead, hx0, hx1⟩ := at_T102 (Kd.C_below (Kd.R_reads' HR3.out).2.2 Hb.out) (i : Int) p0 q0
      obtain rfl := Option.some.inj ead
      simp only [Int.toNat_natCast, add_at, Nat.zero_add] at hx0 hx1
      obtain ⟨x, hx⟩ : ∃ x, rd_T102 l' (i : Int) = x := ⟨_, rfl⟩
      rw [hx] at hx0 hx1 htk HXB
      obtain ⟨out, hout⟩ : ∃ out, (l'.take i).foldl joinS [] = out := ⟨_, rfl⟩
      rw [hout] at HO HOL HOB htk
      have HT := Aside0.mk htk
      have HII := Aside0.mk hi
      obtain ⟨A5, c5, rfl⟩ := Kd.R_slice HO.out
      replace p0 := eq_true p0
      replace q0 := eq_true q0
      clear hx hxm htk hout
      have BFr := Aside0.mk (blk_alloc (blk_below BF3.out Hb.out) (.cells #[.int .i64 x.f0, .int .i64 x.f1] 102))
      have BX := Aside0.mk (heap_alloc_new wr (.cells #[.int .i64 x.f0, .int .i64 x.f1] 102))
      have HOX := Aside0.mk (Kd.R_alloc HO.out (.cells #[.int .i64 x.f0, .int .i64 x.f1] 102))
      have HbX := Aside0.mk (below_alloc Hb.out (.cells #[.int .i64 x.f0, .int .i64 x.f1] 102))
      by_cases hn : 0 < out.length
      · obtain ⟨t, ht⟩ : ∃ t, rd_T102 out ((out.length - 1 : Nat) : Int) = t := ⟨_, rfl⟩
        obtain ⟨gr, cr, hsl, hgb, hgl, _⟩ := Kd.R_form HOX.out hn
        simp only [Value.slice.injEq] at hsl
        obtain ⟨rfl, _, rfl⟩ := hsl
        have htm : t ∈ out := by
          rw [← ht]
          simp only [rd_T102, Int.toNat_natCast, List.getD_eq_getElem?_getD, List.getElem?_eq_getElem (show out.length - 1 < out.length by omega), Option.getD_some]
          exact List.getElem_mem _
        have HTB := Aside0.mk (HOB.out t htm)
        obtain ⟨ad', ead', hy0, hy1⟩ := at_T102 (Kd.R_reads' HOX.out).2.2 ((out.length - 1 : Nat) : Int) (by omega) (by omega)
        obtain rfl := Option.some.inj ead'
        simp only [Int.toNat_natCast, add_at, Nat.zero_add] at hy0 hy1
        rw [ht] at hy0 hy1
        have HNI := Aside0.mk (show out.length < 9223372036854775807 by have h1 := HOL.out; have h2 := HII.out; omega)
        have wi : IntKind.i64.wrap ((out.length : Int) - 1) = (out.length : Int) - 1 := by rw [i64_w]; unfold wrap64; have := HNI.out; omega
        have ti : ((out.length : Int) - 1).toNat = out.length - 1 := by omega
        have pi0 : (0 ≤ (out.length : Int) - 1) = True := eq_true (by omega)
        have qi0 : ((out.length : Int) - 1 < (out.length : Int)) = True := eq_true (by omega)
        have pi1 : (1 ≤ (out.length : Int)) = True := eq_true (by omega)
        have pi2 : (1 ≤ out.length) = True := eq_true (by omega)
        have dn : decide ((out.length : Int) - 1 < 0) = false := decide_eq_false (by omega)
        have hg1 := (blk_cell BFr.out 1).trans (rfl : _ = some (Value.int .i64 1099511627776))
        have hg2 := (blk_cell BFr.out 2).trans (rfl : _ = some (Value.func (.func 51) #[] #[]))
        have hg3 := (blk_cell BFr.out 3).trans (rfl : _ = some (Value.func (.func 52) #[] #[]))
        have hx0 := (blk_cell BX.out 0).trans (rfl : _ = some (Value.int .i64 x.f0))
        have e4 : decide (cmpI (t.f1 + 1) x.f0 < 0) = decide (t.f1 + 1 < x.f0) := cmpI_lt _ _
        have HN := Aside0.mk hn
        have HTT := Aside0.mk ht
        clear ht htm hn
        by_cases c1 : t.f1 ≠ 1099511627776 ∧ t.f1 + 1 < x.f0
        · have d4 : (t.f1 != 1099511627776) = true := bne_iff_ne.mpr c1.1
          have d5 : decide (t.f1 + 1 < x.f0) = true := decide_eq_true c1.2
          have hjs : joinS out x = out ++ [x] := if_pos (.inr (by rw [HTT.out]; exact c1))
          clear c1
          go_wp2
          go_quiet ((first | (go_at_call 51; exact Calls.quiet_of_same (cmp_is _ _ _)) | (go_at_call 52; exact Calls.quiet_of_same (next_is _ (by have := HTB.out; omega) (by have := HTB.out; omega) _))))
          have HO2 := Aside0.mk (Kd.R_below HOX.out (pw_below_drewN (Below.refl _ _) nq))
          have Hb2 := Aside0.mk (pw_below_drewN HbX.out nq)
          have BX2 := Aside0.mk (blk_drewN BX.out nq)
          have hz0 := (blk_cell BX2.out 0).trans (rfl : _ = some (Value.int .i64 x.f0))
          have hz1 := (blk_cell BX2.out 1).trans (rfl : _ = some (Value.int .i64 x.f1))
          go_wp2_with (at_builtin; refine Kd.R_append k102 (w0 := w3) w3.heap.size rfl (.tmp 51) (.tmp 53) 87 102 (.agg #[(.int .i64 0), (.int .i64 0)]) 16 rfl Try.underlying87 infoN19 rfl (by decide) (by omega) _ out x [.int .i64 x.f0, .int .i64 x.f1] (fun _ => True) (fun _ => False) rfl ?aX (k102_mkM _ _ _ x) (fun _ hk => hk.elim) (fun _ _ => trivial) HO2.out Hb2.out Hb2.out.size (by have h1 := HL.out; have h2 := HOL.out; have h3 := HII.out; have h4 := HLN.out; omega) ?_; (case aX => first | rfl | (go_simp; done) | (go_simp; rfl)); intro v1 w1 ho1 hb1 hg1 hat1; have HO1 := Aside0.mk ho1; have Hb1 := Aside0.mk hb1; clear ho1 hb1 hg1 hat1)
          all_goals
            go_roundg (l'.length - (i + 1))
            case measure => have := HJ.out; have := HII.out; omega
            case rel => exact ⟨i + 1, by go_num, ⟨by have := HII.out; omega, rfl⟩, ⟨by rw [HT.out, hjs]; exact HO1.out⟩, Hb1⟩
        · have hjn : ¬ (out = [] ∨ ((rd_T102 out ((out.length - 1 : Nat) : Int)).f1 ≠ 1099511627776 ∧ (rd_T102 out ((out.length - 1 : Nat) : Int)).f1 + 1 < x.f0)) := by
            rw [HTT.out]
            rintro (h | h)
            · have := HN.out; rw [h] at this; simp at this
            · exact c1 h
          have cr : (t.f1 != 1099511627776) = false ∨ ((t.f1 != 1099511627776) = true ∧ decide (t.f1 + 1 < x.f0) = false) := by
            by_cases c : t.f1 = 1099511627776
            · exact .inl (bne_eq_false_iff_eq.mpr c)
            · exact .inr ⟨bne_iff_ne.mpr c, decide_eq_false (fun h => c1 ⟨c, h⟩)⟩
          have e5 : decide (cmpI t.f1 x.f1 < 0) = decide (t.f1 < x.f1) := cmpI_lt _ _
          have HJN := Aside0.mk hjn
          clear c1 hjn
          by_cases c2 : t.f1 < x.f1
          case' pos =>
            have hjs : joinS out x = out.set (out.length - 1) ⟨t.f0, x.f1⟩ := by unfold joinS; rw [if_neg HJN.out, HTT.out, if_pos c2]
            have d6 : decide (t.f1 < x.f1) = true := decide_eq_true c2
          case' neg =>
            have hjs : joinS out x = out := by unfold joinS; rw [if_neg HJN.out, HTT.out, if_neg c2]
            have d6 : decide (t.f1 < x.f1) = false := decide_eq_false c2
          all_goals
            have HJS := Aside0.mk hjs
            clear c2 hjs
            rcases cr with d4 | ⟨d4, d5⟩
          all_goals
            go_wp2
            go_quiet ((first | (go_at_call 51; exact Calls.quiet_of_same (cmp_is _ _ _)) | (go_at_call 52; exact Calls.quiet_of_same (next_is _ (by have := HTB.out; omega) (by have := HTB.out; omega) _))))
            have HO8 := Aside0.mk (Kd.R_below HOX.out (pw_below_drewN (Below.refl _ _) nq))
            have Hb8 := Aside0.mk (pw_below_drewN HbX.out nq)
            have BF8 := Aside0.mk (blk_drewN BFr.out nq)
            have BX8 := Aside0.mk (blk_drewN BX.out nq)
            clear hy0 hy1 hg1 hg2 hg3 hx0 hx1 HOX HbX BFr BX HO Hb
            generalize (wr.alloc (.cells #[.int .i64 x.f0, .int .i64 x.f1] 102)).drewN nq = W8 at HO8 Hb8 BF8 BX8 ⊢
            obtain ⟨ad8, ead8, hy0, hy1⟩ := at_T102 (Kd.R_reads' HO8.out).2.2 ((out.length - 1 : Nat) : Int) (by have := HN.out; omega) (by have := HN.out; omega)
            obtain rfl := Option.some.inj ead8
            simp only [Int.toNat_natCast, add_at, Nat.zero_add] at hy0 hy1
            rw [HTT.out] at hy0 hy1
            have hg2 := (blk_cell BF8.out 2).trans (rfl : _ = some (Value.func (.func 51) #[] #[]))
            have hx1 := (blk_cell BX8.out 1).trans (rfl : _ = some (Value.int .i64 x.f1))
            go_wp2
            go_quiet ((first | (go_at_call 51; exact Calls.quiet_of_same (cmp_is _ _ _)) | (go_at_call 52; exact Calls.quiet_of_same (next_is _ (by have := HTB.out; omega) (by have := HTB.out; omega) _))))
            have HO9 := Aside0.mk (Kd.R_below HO8.out (pw_below_drewN (Below.refl _ _) nq))
            have Hb9 := Aside0.mk (pw_below_drewN Hb8.out nq)
            have BX9 := Aside0.mk (blk_drewN BX8.out nq)
            clear hy0 hy1 hg2 hx1 HO8 Hb8 BF8 BX8
            generalize W8.drewN nq = W9 at HO9 Hb9 BX9 ⊢
            have hx1 := (blk_cell BX9.out 1).trans (rfl : _ = some (Value.int .i64 x.f1))
            first
            | (obtain ⟨cs4, hcl4, hcM4, hcc4, hcf4⟩ := Kd.R_elem HO9.out z102 ((out.length - 1 : Nat) : Int) (by have := HN.out; omega) (by have := HN.out; omega)
               have HE4 := Aside0.mk (show cs4 = _ from k102_openM hcM4)
               have hz1 : W9.cell? ⟨gr, (out.length - 1) * 2 + 1, none⟩ = some (.int .i64 t.f1) := by
                 have h_ := hcc4 1 (.int .i64 t.f1) (by rw [HE4.out]; simp only [Int.toNat_natCast, ← HTT.out]; rfl)
                 simp only [Int.toNat_natCast] at h_
                 exact h_
               have hzf : W9.frozen? ⟨gr, (out.length - 1) * 2 + 1, none⟩ = false := by
                 have h_ := hcf4 1
                 simp only [Int.toNat_natCast] at h_
                 exact h_
               have hR := (Kd.R_seg HO9.out ((out.length - 1 : Nat) : Int) (by have := HN.out; omega) (by have := HN.out; omega) (c := cs4) (seg := [.int .i64 x.f1]) (j := 1) hcl4 hcc4 (show 1 + 1 ≤ 2 by decide) (x' := (⟨t.f0, x.f1⟩ : Rn_)) (okp := fun _ => False) (by rw [HE4.out]; simp only [Int.toNat_natCast]; exact (by have e_ : out.getD (out.length - 1) z102 = t := HTT.out; rw [e_]; exact k102_mkM _ _ _ (⟨t.f0, x.f1⟩ : Rn_))) (fun _ hk => hk.elim)).1
               simp only [Int.toNat_natCast] at hR
               have HOF := Aside0.mk hR
               have HbF := Aside0.mk (Hb9.out.setCell (p := ⟨gr, (out.length - 1) * 2 + 1, none⟩) hgb (.int .i64 x.f1))
               clear hcl4 hcM4 hcc4 hcf4 hR
               rw [show decide (t.f1 < x.f1) = true from d6] at e5
               go_wp2
               go_roundg (l'.length - (i + 1))
               case measure => have := HJ.out; have := HII.out; omega
               case rel => exact ⟨i + 1, by go_num, ⟨by have := HII.out; omega, rfl⟩, ⟨by rw [HT.out, HJS.out]; exact HOF.out⟩, HbF⟩)
            | (go_wp2
               go_roundg (l'.length - (i + 1))
               case measure => have := HJ.out; have := HII.out; omega
               case rel => exact ⟨i + 1, by go_num, ⟨by have := HII.out; omega, rfl⟩, ⟨by rw [HT.out, HJS.out]; exact HO9.out⟩, Hb9⟩)
      · obtain rfl : out = [] := List.length_eq_zero_iff.mp (by omega)
        have hjs : joinS [] x = [] ++ [x] := if_pos (.inl rfl)
        simp only [List.length_nil] at *
        have wi : IntKind.i64.wrap (((0 : Nat) : Int) - 1) = -1 := by rw [i64_w]; unfold wrap64; omega
        have dn : decide ((-1 : Int) < 0) = true := by decide
        go_wp2
        go_quiet (fail)
        have HO2 := Aside0.mk (Kd.R_below HOX.out (pw_below_drewN (Below.refl _ _) nq))
        have Hb2 := Aside0.mk (pw_below_drewN HbX.out nq)
        have BX2 := Aside0.mk (blk_drewN BX.out nq)
        have hz0 := (blk_cell BX2.out 0).trans (rfl : _ = some (Value.int .i64 x.f0))
        have hz1 := (blk_cell BX2.out 1).trans (rfl : _ = some (Value.int .i64 x.f1))
        go_wp2_with (at_builtin; refine Kd.R_append k102 (w0 := w3) w3.heap.size rfl (.tmp 51) (.tmp 53) 87 102 (.agg #[(.int .i64 0), (.int .i64 0)]) 16 rfl Try.underlying87 infoN19 rfl (by decide) (by omega) _ [] x [.int .i64 x.f0, .int .i64 x.f1] (fun _ => True) (fun _ => False) rfl ?aX (k102_mkM _ _ _ x) (fun _ hk => hk.elim) (fun _ _ => trivial) HO2.out Hb2.out Hb2.out.size (by have h1 := HL.out; have h3 := HII.out; have h4 := HLN.out; simp only [List.length_nil]; omega) ?_; (case aX => first | rfl | (go_simp; done) | (go_simp; rfl)); intro v1 w1 ho1 hb1 hg1 hat1; have HO1 := Aside0.mk ho1; have Hb1 := Aside0.mk hb1; clear ho1 hb1 hg1 hat1)
        all_goals
          go_roundg (l'.length - (i + 1))
          case measure => have := HJ.out; have := HII.out; omega
          case rel => exact ⟨i + 1, by go_num, ⟨by have := HII.out; omega, rfl⟩, ⟨by rw [HT.out, hjs]; exact HO1.out⟩, Hb1⟩
    · have hd : decide ((i : Int) < (l'.length : Int)) = false := decide_eq_false (by omega)
      have hdn : decide (i < l'.length) = false := decide_eq_false hi
      have ho := HO.out
      rw [List.take_of_length_le (by omega)] at ho
      have HO2 := Aside0.mk ho
      clear ho
      go_wp2
      go_ret
      exact ⟨_, l', rfl, HP.out, HPW.out, Kd.R_lower HO2.out HB3.out.size, below_step HB3.out Hb.out⟩
def okR (x : Rn_) : Prop := 0 ≤ x.f0 ∧ x.f0 ≤ x.f1 ∧ x.f1 ≤ 1099511627776
def inN (t : Int) (l : List Rn_) : Prop := ∃ y ∈ l, y.f0 ≤ t ∧ t ≤ y.f1
def Snd (l : List Rn_) : Prop := (∀ y ∈ l, okR y) ∧ l.Pairwise (fun a b => a.f1 + 1 < b.f0)
theorem inN_cons (t : Int) (y : Rn_) (l : List Rn_) : inN t (y :: l) ↔ (y.f0 ≤ t ∧ t ≤ y.f1) ∨ inN t l := by
  unfold inN
  simp only [List.mem_cons, exists_eq_or_imp]
theorem inN_app (t : Int) (l m : List Rn_) : inN t (l ++ m) ↔ inN t l ∨ inN t m := by
  unfold inN
  simp only [List.mem_append, or_and_right, exists_or]
theorem inN_one (t : Int) (y : Rn_) : inN t [y] ↔ (y.f0 ≤ t ∧ t ≤ y.f1) := by
  unfold inN
  simp
theorem Snd.low {y : Rn_} {l : List Rn_} (h : Snd (y :: l)) {t : Int} (ht : inN t l) : y.f1 + 1 < t := by
  obtain ⟨z, hz, h1, _⟩ := ht
  have := (List.pairwise_cons.1 h.2).1 z hz
  omega
theorem Snd.tail {y : Rn_} {l : List Rn_} (h : Snd (y :: l)) : Snd l := ⟨fun z hz => h.1 z (List.mem_cons_of_mem _ hz), (List.pairwise_cons.1 h.2).2⟩
theorem Snd.one : ∀ (l m : List Rn_), Snd l → Snd m → (∀ t, inN t l ↔ inN t m) → l = m
  | [], [], _, _, _ => rfl
  | [], y :: m, _, hm, h => by
    obtain ⟨z, hz, _⟩ := (h y.f0).2 ((inN_cons _ _ _).2 (.inl ⟨Int.le_refl _, (hm.1 y (List.mem_cons_self ..)).2.1⟩))
    simp at hz
  | x :: l, [], hl, _, h => by
    obtain ⟨z, hz, _⟩ := (h x.f0).1 ((inN_cons _ _ _).2 (.inl ⟨Int.le_refl _, (hl.1 x (List.mem_cons_self ..)).2.1⟩))
    simp at hz
  | x :: l, y :: m, hl, hm, h => by
    have a2 := (hl.1 x (List.mem_cons_self ..)).2.1
    have b2 := (hm.1 y (List.mem_cons_self ..)).2.1
    have up : ∀ {z : Rn_} {r : List Rn_} {t : Int}, Snd (z :: r) → inN t (z :: r) → z.f0 ≤ t ∧ (t ≤ z.f1 ∨ z.f1 + 1 < t) := fun {z r t} hr ht => by
      have h9 := (hr.1 z (List.mem_cons_self ..)).2.1
      rcases (inN_cons t z r).1 ht with a | a
      · exact ⟨a.1, .inl a.2⟩
      · have := hr.low a
        exact ⟨by omega, .inr this⟩
    have e0 : x.f0 = y.f0 := by
      have h1 := (up hm ((h x.f0).1 ((inN_cons _ _ _).2 (.inl ⟨Int.le_refl _, a2⟩)))).1
      have h2 := (up hl ((h y.f0).2 ((inN_cons _ _ _).2 (.inl ⟨Int.le_refl _, b2⟩)))).1
      omega
    have e1 : x.f1 = y.f1 := by
      by_cases c : x.f1 < y.f1
      · have h1 := (up hl ((h (x.f1 + 1)).2 ((inN_cons _ _ _).2 (.inl ⟨by omega, by omega⟩)))).2
        omega
      · by_cases d : y.f1 < x.f1
        · have h1 := (up hm ((h (y.f1 + 1)).1 ((inN_cons _ _ _).2 (.inl ⟨by omega, by omega⟩)))).2
          omega
        · omega
    have exy : x = y := by
      cases x; cases y
      simp only at e0 e1
      rw [e0, e1]
    subst exy
    rw [Snd.one l m hl.tail hm.tail (fun t => ?_)]
    have ht := h t
    rw [inN_cons, inN_cons] at ht
    constructor
    · intro hh
      have g := hl.low hh
      rcases ht.1 (.inr hh) with a | a
      · omega
      · exact a
    · intro hh
      have g := hm.low hh
      rcases ht.2 (.inr hh) with a | a
      · omega
      · exact a
theorem rd_last (dl : List Rn_) (t : Rn_) : rd_T102 (dl ++ [t]) (((dl ++ [t]).length - 1 : Nat) : Int) = t := by
  simp [rd_T102, List.getD_eq_getElem?_getD]
theorem set_last (dl : List Rn_) (t z : Rn_) : (dl ++ [t]).set ((dl ++ [t]).length - 1) z = dl ++ [z] := by
  simp
theorem joinS_snd (out : List Rn_) (x : Rn_) (ho : Snd out) (hx : okR x) (hle : ∀ y ∈ out, y.f0 ≤ x.f0) : Snd (joinS out x) ∧ (∀ t, inN t (joinS out x) ↔ inN t out ∨ (x.f0 ≤ t ∧ t ≤ x.f1)) ∧ ∀ y ∈ joinS out x, y.f0 ≤ x.f0 := by
  rcases List.eq_nil_or_concat out with rfl | ⟨dl, t, rfl⟩
  · have e : joinS [] x = [x] := if_pos (.inl rfl)
    rw [e]
    exact ⟨⟨fun y hy => by rw [List.mem_singleton.1 hy]; exact hx, List.pairwise_singleton _ _⟩, fun t => by rw [inN_one]; exact ⟨.inr, fun h => h.elim (fun ⟨z, hz, _⟩ => by simp at hz) id⟩, fun y hy => by rw [List.mem_singleton.1 hy]; exact Int.le_refl _⟩
  · rw [List.concat_eq_append] at *
    obtain ⟨ho1, ho2⟩ := ho
    rw [List.pairwise_append] at ho2
    obtain ⟨hp, _, hq⟩ := ho2
    have htk := ho1 t (by simp)
    have htx := hle t (by simp)
    have hdt : ∀ y ∈ dl, y.f1 + 1 < t.f0 := fun y hy => hq y hy t (by simp)
    unfold joinS
    rw [rd_last, set_last]
    obtain ⟨x1, x2, x3⟩ := hx
    obtain ⟨t1, t2, t3⟩ := htk
    by_cases c : dl ++ [t] = [] ∨ (t.f1 ≠ 1099511627776 ∧ t.f1 + 1 < x.f0)
    · rw [if_pos c]
      have c2 : t.f1 + 1 < x.f0 := (c.resolve_left (by simp)).2
      refine ⟨⟨fun y hy => ?_, ?_⟩, fun s => by rw [inN_app _ (dl ++ [t]), inN_one], fun y hy => ?_⟩
      · rcases List.mem_append.1 hy with h | h
        · exact ho1 y h
        · rw [List.mem_singleton.1 h]; exact ⟨x1, x2, x3⟩
      · rw [List.pairwise_append]
        refine ⟨by rw [List.pairwise_append]; exact ⟨hp, List.pairwise_singleton _ _, hq⟩, List.pairwise_singleton _ _, fun a ha b hb => ?_⟩
        rw [List.mem_singleton.1 hb]
        rcases List.mem_append.1 ha with h | h
        · have := hdt a h; omega
        · rw [List.mem_singleton.1 h]; exact c2
      · rcases List.mem_append.1 hy with h | h
        · exact hle y h
        · rw [List.mem_singleton.1 h]; exact Int.le_refl _
    · rw [if_neg c]
      have c2 : x.f0 ≤ t.f1 + 1 := by
        by_cases d : t.f1 = 1099511627776
        · omega
        · exact Int.not_lt.1 (fun h => c (.inr ⟨d, h⟩))
      by_cases d : t.f1 < x.f1
      · rw [if_pos d]
        refine ⟨⟨fun y hy => ?_, ?_⟩, fun s => ?_, fun y hy => ?_⟩
        · rcases List.mem_append.1 hy with h | h
          · exact ho1 y (by simp [h])
          · rw [List.mem_singleton.1 h]; exact ⟨t1, by show t.f0 ≤ x.f1; omega, x3⟩
        · rw [List.pairwise_append]
          refine ⟨hp, List.pairwise_singleton _ _, fun a ha b hb => ?_⟩
          rw [List.mem_singleton.1 hb]
          exact hdt a ha
        · rw [inN_app, inN_app, inN_one, inN_one, or_assoc]
          have : (t.f0 ≤ s ∧ s ≤ x.f1) ↔ ((t.f0 ≤ s ∧ s ≤ t.f1) ∨ (x.f0 ≤ s ∧ s ≤ x.f1)) := by omega
          exact or_congr Iff.rfl this
        · rcases List.mem_append.1 hy with h | h
          · exact hle y (by simp [h])
          · rw [List.mem_singleton.1 h]; exact htx
      · rw [if_neg d]
        refine ⟨⟨ho1, by rw [List.pairwise_append]; exact ⟨hp, List.pairwise_singleton _ _, hq⟩⟩, fun s => ⟨.inl, fun h => h.elim id (fun h => ?_)⟩, hle⟩
        exact (inN_app _ _ _).2 (.inr ((inN_one _ _).2 (by omega)))
theorem joinF_snd : ∀ (l out : List Rn_), Snd out → (∀ x ∈ l, okR x) → l.Pairwise (fun a b => a.f0 ≤ b.f0) → (∀ y ∈ out, ∀ x ∈ l, y.f0 ≤ x.f0) → Snd (l.foldl joinS out) ∧ ∀ t, inN t (l.foldl joinS out) ↔ inN t out ∨ inN t l
  | [], out, ho, _, _, _ => ⟨ho, fun t => ⟨.inl, fun h => h.elim id (fun ⟨z, hz, _⟩ => by simp at hz)⟩⟩
  | x :: l, out, ho, hl, hp, hle => by
    obtain ⟨h1, h2, h3⟩ := joinS_snd out x ho (hl x (List.mem_cons_self ..)) (fun y hy => hle y hy x (List.mem_cons_self ..))
    obtain ⟨p1, p2⟩ := List.pairwise_cons.1 hp
    obtain ⟨h4, h5⟩ := joinF_snd l (joinS out x) h1 (fun z hz => hl z (List.mem_cons_of_mem _ hz)) p2 (fun y hy z hz => Int.le_trans (h3 y hy) (p1 z hz))
    refine ⟨h4, fun t => ?_⟩
    rw [List.foldl_cons, h5, h2, inN_cons, or_assoc]
def insR (x : Rn_) : List Rn_ → List Rn_
  | [] => [x]
  | y :: ys => if x.f0 ≤ y.f0 then x :: y :: ys else y :: insR x ys
def sortR : List Rn_ → List Rn_
  | [] => []
  | x :: xs => insR x (sortR xs)
theorem insR_perm (x : Rn_) : ∀ l, (insR x l).Perm (x :: l)
  | [] => List.Perm.refl _
  | y :: ys => by
    by_cases c : x.f0 ≤ y.f0
    · rw [show insR x (y :: ys) = x :: y :: ys from if_pos c]
    · rw [show insR x (y :: ys) = y :: insR x ys from if_neg c]
      exact ((insR_perm x ys).cons y).trans (List.Perm.swap _ _ _)
theorem insR_pw (x : Rn_) : ∀ l : List Rn_, l.Pairwise (fun a b => a.f0 ≤ b.f0) → (insR x l).Pairwise (fun a b => a.f0 ≤ b.f0)
  | [], _ => List.pairwise_singleton _ _
  | y :: ys, h => by
    obtain ⟨h1, h2⟩ := List.pairwise_cons.1 h
    by_cases c : x.f0 ≤ y.f0
    · rw [show insR x (y :: ys) = x :: y :: ys from if_pos c]
      refine List.pairwise_cons.2 ⟨fun z hz => ?_, h⟩
      rcases List.mem_cons.1 hz with e | m
      · rw [e]; exact c
      · exact Int.le_trans c (h1 z m)
    · rw [show insR x (y :: ys) = y :: insR x ys from if_neg c]
      refine List.pairwise_cons.2 ⟨fun z hz => ?_, insR_pw x ys h2⟩
      rcases List.mem_cons.1 ((insR_perm x ys).mem_iff.1 hz) with e | m
      · rw [e]; omega
      · exact h1 z m
theorem sortR_perm : ∀ l, (sortR l).Perm l
  | [] => List.Perm.refl _
  | x :: xs => (insR_perm x (sortR xs)).trans ((sortR_perm xs).cons x)
theorem sortR_pw : ∀ l, (sortR l).Pairwise (fun a b => a.f0 ≤ b.f0)
  | [] => List.Pairwise.nil
  | x :: xs => insR_pw x _ (sortR_pw xs)
def joinR (l : List Rn_) : List Rn_ := (sortR l).foldl joinS []
theorem inN_perm {l m : List Rn_} (h : l.Perm m) (t : Int) : inN t l ↔ inN t m := ⟨fun ⟨y, hy, r⟩ => ⟨y, h.mem_iff.1 hy, r⟩, fun ⟨y, hy, r⟩ => ⟨y, h.mem_iff.2 hy, r⟩⟩
theorem join_of {l l' : List Rn_} (hB : ∀ x ∈ l, okR x) (hp : l'.Perm l) (hs : l'.Pairwise (fun a b => a.f0 ≤ b.f0)) : Snd (l'.foldl joinS []) ∧ ∀ t, inN t (l'.foldl joinS []) ↔ inN t l := by
  obtain ⟨h1, h2⟩ := joinF_snd l' [] ⟨fun y hy => by simp at hy, List.Pairwise.nil⟩ (fun x hx => hB x (hp.mem_iff.1 hx)) hs (fun y hy => by simp at hy)
  refine ⟨h1, fun t => ?_⟩
  rw [h2, inN_perm hp]
  exact ⟨fun h => h.elim (fun ⟨z, hz, _⟩ => by simp at hz) id, .inr⟩
theorem joinR_ok {l : List Rn_} (hB : ∀ x ∈ l, okR x) : Snd (joinR l) ∧ ∀ t, inN t (joinR l) ↔ inN t l := join_of hB (sortR_perm l) (sortR_pw l)
theorem joinR_len (l : List Rn_) : (joinR l).length ≤ l.length := by
  have h1 := joinF_len (sortR l) []
  have h2 := (sortR_perm l).length_eq
  unfold joinR
  simp only [List.length_nil] at h1
  omega
set_option maxRecDepth 100000 in
set_option maxHeartbeats 4000000 in
theorem join0_is (A : Option Addr) (c : Nat) (w : World) (hr : Kd.C k102 w A 0 []) :
    Calls Try.prog 45 #[.agg fieldC, .slice A 0 c] w fun e w' => ∃ (v : Value), e = .returned v ∧ Kd.R k102 102 w' w.heap.size (fun _ => True) v [] ∧ Below w.heap.size w w' := by
  have HR := Aside0.mk hr
  clear hr
  go_enter Try.func45, Try.ntmps45
  have hb0 := Aside0.mk (below_alloc (Below.refl w.heap.size w) (.cells fieldC 91))
  unfold fieldC at hb0
  unfold fieldC
  go_wp2_with (first | (go_at_call 54; refine (clone_is A c [] (by simp) _ (Kd.C_below HR.out hb0.out) (Nat.zero_le _)).mono ?_; rintro e w2 ⟨v2, rfl, hR2, hb2⟩; have HB2 := Aside0.mk (below_step hb0.out hb2); obtain ⟨A2, c2, rfl⟩ := Kd.R_slice hR2; clear hR2 hb2 hb0) | (go_at_call 55; refine (sort0_is A2 c2 _ _).mono ?_; rintro e w3 ⟨rfl, hb3⟩; have HB3 := Aside0.mk (below_step HB2.out hb3); clear hb3))
  go_loopg [5, 16] 0 (fun kq v5 v16 w' => v5 = .slice none 0 0 ∧ v16 = .int .i64 0 ∧ w' = w3)
  case atStart => exact ⟨rfl, rfl, rfl⟩
  case round =>
    obtain ⟨rfl, rfl, rfl⟩ := hrel
    go_wp2
    go_ret
    exact ⟨_, rfl, Kd.R_nil _ _ _ _ _, HB3.out⟩
theorem join_is (A : Option Addr) (c : Nat) (l : List Rn_) (hL : (l.length + 1) * 16 ≤ 140737488355328) (hB : ∀ x ∈ l, okR x) (w : World) (hr : Kd.C k102 w A l.length l) (hc : l.length ≤ c) :
    Calls Try.prog 45 #[.agg fieldC, .slice A l.length c] w fun e w' => ∃ (v : Value), e = .returned v ∧ Kd.R k102 102 w' w.heap.size (fun _ => True) v (joinR l) ∧ Below w.heap.size w w' := by
  by_cases hne : 0 < l.length
  · refine (joinP_is A c l hne hL (fun x hx => ⟨by have := hB x hx; unfold okR at this; omega, (hB x hx).2.2⟩) w hr hc).mono ?_
    rintro e w' ⟨v, l', rfl, hp, hs, hR, hb⟩
    obtain ⟨a1, a2⟩ := join_of hB hp hs
    obtain ⟨b1, b2⟩ := joinR_ok hB
    have e := Snd.one _ _ a1 b1 (fun t => (a2 t).trans (b2 t).symm)
    rw [e] at hR
    exact ⟨v, rfl, hR, hb⟩
  · obtain rfl : l = [] := List.length_eq_zero_iff.mp (by omega)
    exact join0_is A c w hr
theorem two_rows {W : World} {g : Nat} {A0 A1 : Option Addr} {c0 c1 : Nat} {l0 l1 : List S23} (hg : W.heap[g]? = some (.cells #[.slice A0 l0.length c0, .slice A1 l1.length c1] 38 (0, 0))) (h0 : Kd.C k23 W A0 l0.length l0) (hc0 : l0.length ≤ c0) (h1 : Kd.C k23 W A1 l1.length l1) (hc1 : l1.length ≤ c1) :
    Kd.C (Kd.slice 23 k23) W (some ⟨g, 0, none⟩) [l0, l1].length [l0, l1] := by
  refine ⟨rfl, by simp, fun _ => ⟨_, rfl, fun j p hj => ?_⟩⟩
  match j, hj with
  | 0, hj =>
    obtain rfl := Option.some.inj hj
    refine ⟨[.slice A0 l0.length c0], rfl, ⟨A0, c0, rfl, hc0, h0⟩, fun i u hu => ?_⟩
    match i, hu with
    | 0, hu => exact (blk_cell hg 0).trans hu
  | 1, hj =>
    obtain rfl := Option.some.inj hj
    refine ⟨[.slice A1 l1.length c1], rfl, ⟨A1, c1, rfl, hc1, h1⟩, fun i u hu => ?_⟩
    match i, hu with
    | 0, hu => exact (blk_cell hg 1).trans hu
  | j + 2, hj => simp at hj
def okB (l : List Rn_) : Bool := l.all (fun x => decide (0 ≤ x.f0 ∧ x.f0 ≤ x.f1 ∧ x.f1 ≤ 1099511627776))
theorem okB_of {l : List Rn_} (h : okB l = true) : ∀ x ∈ l, okR x := fun x hx => by
  have h1 := List.all_eq_true.1 h x hx
  have h2 := of_decide_eq_true h1
  exact h2
def ivl_Or.f (k : Nat) (l0 l1 : List S23) : Option (List S23 × Int) := (ivl_rows.f k [l0, l1]).bind fun y =>
  if y ≠ 0 then some ([], y) else (ivl_runs.f k (l0 ++ l1)).bind fun rs =>
  if (l0.length + l1.length + 1) * 16 ≤ 140737488355328 ∧ (rs.length + 1) * 16 ≤ 140737488355328 ∧ okB rs = true then ivl_told.f k (joinR rs) else none
set_option maxRecDepth 100000 in
set_option maxHeartbeats 4000000 in
theorem ivl_Or.calls (k : Nat) (A0 : Option Addr) (c0 : Nat) (l0 : List (S23)) (A1 : Option Addr) (c1 : Nat) (l1 : List (S23)) (r1 : List (S23)) (r2 : Int) (w : World) (hr0 : Kd.C k23 w A0 l0.length l0) (hc0 : l0.length ≤ c0) (hr1 : Kd.C k23 w A1 l1.length l1) (hc1 : l1.length ≤ c1) (h : ivl_Or.f k l0 l1 = some (r1, r2)) :
    Calls Try.prog 25 #[.slice A0 l0.length c0, .slice A1 l1.length c1] w fun e w' => ∃ v0_ : Value, e = .returned (.tuple #[v0_, .int .i64 r2]) ∧ Kd.R k23 23 w' w.heap.size (fun _ => True) v0_ r1 ∧ Below w.heap.size w w' := by
  obtain ⟨y, hy, h⟩ := Option.bind_eq_some_iff.mp h
  have HY := Aside0.mk hy
  have HC0 := Aside0.mk hc0
  have HC1 := Aside0.mk hc1
  have HB1 := Aside0.mk (below_alloc (Below.refl w.heap.size w) (.cells #[.slice A0 l0.length c0, .slice A1 l1.length c1] 38))
  have HR1 := Aside0.mk (two_rows (heap_alloc_new w (.cells #[.slice A0 l0.length c0, .slice A1 l1.length c1] 38)) (Kd.C_below hr0 HB1.out) hc0 (Kd.C_below hr1 HB1.out) hc1)
  have HA0 := Aside0.mk hr0
  have HA1 := Aside0.mk hr1
  clear hy hr0 hr1 hc0 hc1
  go_enter Try.func25, Try.ntmps25
  by_cases cy : y ≠ 0
  · rw [if_pos cy] at h
    obtain ⟨e1, e2⟩ := Prod.mk.inj (Option.some.inj h)
    subst e1
    subst e2
    have d0 : (y != 0) = true := bne_iff_ne.mpr cy
    clear cy h
    go_wp2_with (go_at_call 42; refine (ivl_rows.calls k _ 2 _ _ _ HR1.out (by simp) HY.out).mono ?_; rintro e w5 ⟨rfl, hb5⟩; have HB5 := Aside0.mk (below_step HB1.out hb5); clear hb5)
    go_ret2
    exact ⟨_, rfl, Kd.R_nil _ _ _ _ _, HB5.out⟩
  · have cy0 : y = 0 := Decidable.not_not.mp cy
    subst cy0
    rw [if_neg cy] at h
    clear cy
    have d0 : ((0 : Int) != 0) = false := rfl
    obtain ⟨rs, hrs, h⟩ := Option.bind_eq_some_iff.mp h
    obtain ⟨l2, hl2⟩ : ∃ l2, l0 ++ l1 = l2 := ⟨_, rfl⟩
    rw [hl2] at hrs
    have HL2 := Aside0.mk hl2
    have HRS := Aside0.mk hrs
    clear hl2
    by_cases cg : (l0.length + l1.length + 1) * 16 ≤ 140737488355328 ∧ (rs.length + 1) * 16 ≤ 140737488355328 ∧ okB rs = true
    case neg => rw [if_neg cg] at h; cases h
    rw [if_pos cg] at h
    have HT := Aside0.mk h
    have HG := Aside0.mk cg
    clear h cg hrs
    go_wp2_with (first
      | (go_at_call 42; refine (ivl_rows.calls k _ 2 _ _ _ HR1.out (by simp) HY.out).mono ?_; rintro e w5 ⟨rfl, hb5⟩; have HB5 := Aside0.mk (below_step HB1.out hb5); clear hb5)
      | (go_at_call 44; refine (times_is _).mono ?_; rintro e w6 ⟨rfl, hb6⟩; have HB6 := Aside0.mk (below_step HB5.out hb6); have HB7 := Aside0.mk (below_alloc HB6.out (.cells #[.slice A0 l0.length c0, .slice A1 l1.length c1] 38)); have BK7 := Aside0.mk (heap_alloc_new w6 (.cells #[.slice A0 l0.length c0, .slice A1 l1.length c1] 38)); clear hb6)
      | (go_at_call 47; refine (concat_is _ A0 A1 c0 c1 l0 l1 (by have := HG.out.1; omega) _ BK7.out (Kd.C_below HA0.out HB7.out) (Kd.C_below HA1.out HB7.out)).mono ?_; rintro e w8 ⟨v8, rfl, ho8, hb8⟩; rw [HL2.out] at ho8; have HB8 := Aside0.mk (below_step HB7.out hb8); obtain ⟨A8, c8, rfl⟩ := Kd.R_slice ho8; have HO8 := Aside0.mk ho8; clear hb8 ho8)
      | (go_at_call 46; refine (ivl_runs.calls k _ _ l2 rs _ (Kd.R_reads' HO8.out).2.2 (Kd.R_reads' HO8.out).2.1 HRS.out).mono ?_; rintro e w9 ⟨v9, rfl, ho9, hb9⟩; have HB9 := Aside0.mk (below_step HB8.out hb9); obtain ⟨A9, c9, rfl⟩ := Kd.R_slice ho9; have HO9 := Aside0.mk ho9; clear hb9 ho9)
      | (go_at_call 45; refine (join_is A9 c9 rs HG.out.2.1 (okB_of HG.out.2.2) _ (Kd.R_reads' HO9.out).2.2 (Kd.R_reads' HO9.out).2.1).mono ?_; rintro e w10 ⟨v10, rfl, ho10, hb10⟩; have HB10 := Aside0.mk (below_step HB9.out hb10); obtain ⟨A10, c10, rfl⟩ := Kd.R_slice ho10; have HO10 := Aside0.mk ho10; clear hb10 ho10)
      | (go_at_call 43; refine (ivl_told.calls k _ _ (joinR rs) r1 r2 _ (Kd.R_reads' HO10.out).2.2 (Kd.R_reads' HO10.out).2.1 HT.out).mono ?_; rintro e w11 ⟨v11, rfl, ho11, hb11⟩; have HB11 := Aside0.mk (below_step HB10.out hb11); have HO11 := Aside0.mk (Kd.R_lower ho11 HB10.out.size); clear hb11 ho11))
    go_ret2
    exact ⟨_, rfl, HO11.out, HB11.out⟩
mutual
def spoorlaw20_LineWhole.j0 : Nat → List (S52) → Bool → Int → Int → Option (Bool)
 | 0, _, _, _, _ => none
 | k + 1, x1, x28, x227000, x227001 => if x28 = true then (some true) else (spoorlaw20_LineWhole.l0 k x1 ([] : List (S23)) 0 x1 (x1.length : Int) 0 x227000 x227001)
def spoorlaw20_LineWhole.l0 : Nat → List (S52) → List (S23) → Int → List (S52) → Int → Int → Int → Int → Option (Bool)
 | 0, _, _, _, _, _, _, _, _ => none
 | k + 1, x1, x5, x6, x29, x30, x31, x227000, x227001 => if x31 < x30 then (if 0 ≤ x31 then (if x31 < (x29.length : Int) then (if x31 ≤ (x1.length : Int) then ((some (x1.take (x31 : Int).toNat : List (S52))).bind fun y235 => (spoorlaw20_LineWhole.l1 k x1 x5 x6 x31 false x29 x30 x31 y235 (y235.length : Int) 0 x227000 x227001 ((rd_T52 x29 x31).f0.f0) ((rd_T52 x29 x31).f0.f1) ((rd_T52 x29 x31).f1.f0) ((rd_T52 x29 x31).f1.f1))) else (none)) else (none)) else (none)) else ((spoorref19_Same.f k x5 (([(⟨x227000, x227001⟩ : S23)] : List (S23)))).bind fun t232 => (if t232 = true then (some (x6 == (wrap64 ((wrap64 (x227001 - x227000)) + 1)))) else (none)))
def spoorlaw20_LineWhole.l1 : Nat → List (S52) → List (S23) → Int → Int → Bool → List (S52) → Int → Int → List (S52) → Int → Int → Int → Int → Int → Int → Int → Int → Option (Bool)
 | 0, _, _, _, _, _, _, _, _, _, _, _, _, _, _, _, _, _ => none
 | k + 1, x1, x5, x6, x7, x9, x29, x30, x31, x38, x39, x40, x227000, x227001, x235000, x235001, x235002, x235003 => if x40 < x39 then (if 0 ≤ x40 then (if x40 < (x38.length : Int) then (if x9 = true then (spoorlaw20_LineWhole.l1 k x1 x5 x6 x7 true x29 x30 x31 x38 x39 (wrap64 (x40 + 1)) x227000 x227001 x235000 x235001 x235002 x235003) else (spoorlaw20_LineWhole.l1 k x1 x5 x6 x7 (((rd_T52 x38 x40).f1.f0) == x235002 && (((rd_T52 x38 x40).f1.f1) == x235003)) x29 x30 x31 x38 x39 (wrap64 (x40 + 1)) x227000 x227001 x235000 x235001 x235002 x235003)) else (none)) else (none)) else (if x7 > 0 then (if 0 ≤ (wrap64 (x7 - 1)) then (if (wrap64 (x7 - 1)) < (x1.length : Int) then (spoorlaw20_LineWhole.j3 k x1 x5 x6 x9 x29 x30 x31 (((rd_T52 x1 (wrap64 (x7 - 1))).f1.f0) == x235002 && (((rd_T52 x1 (wrap64 (x7 - 1))).f1.f1) == x235003)) x227000 x227001 x235000 x235001 x235002 x235003) else (none)) else (none)) else (spoorlaw20_LineWhole.j3 k x1 x5 x6 x9 x29 x30 x31 false x227000 x227001 x235000 x235001 x235002 x235003))
def spoorlaw20_LineWhole.j3 : Nat → List (S52) → List (S23) → Int → Bool → List (S52) → Int → Int → Bool → Int → Int → Int → Int → Int → Int → Option (Bool)
 | 0, _, _, _, _, _, _, _, _, _, _, _, _, _, _ => none
 | k + 1, x1, x5, x6, x9, x29, x30, x31, x65, x227000, x227001, x235000, x235001, x235002, x235003 => if x65 = true then (none) else (if x9 = true then (spoorlaw20_LineWhole.l0 k x1 x5 x6 x29 x30 (wrap64 (x31 + 1)) x227000 x227001) else ((line_When.f k x227000 x227001 x1 x235002 x235003).bind fun bt242 => ((ivl_Long.f k bt242.1).bind fun bt246 => ((ivl_Or.f k x5 bt242.1).bind fun bt248 => (if bt242.2 = 0 then (if bt246.2 = 0 then (if bt248.2 = 0 then (if (bt242.1.length : Int) = 0 then (none) else (spoorlaw20_LineWhole.l0 k x1 bt248.1 (wrap64 (x6 + bt246.1)) x29 x30 (wrap64 (x31 + 1)) x227000 x227001)) else (none)) else (none)) else (none))))))
end
def spoorlaw20_LineWhole.f (k : Nat) (a0_0 : Int) (a0_1 : Int) (l1 : List (S52)) : Option (Bool) := (spoorlaw20_lives.f k).bind fun t227 => (if t227 = true then ((line_Check.f k a0_0 a0_1 l1).bind fun t228 => (if t228 = 0 then (spoorlaw20_LineWhole.j0 k l1 (decide ((l1.length : Int) > 200)) a0_0 a0_1) else (spoorlaw20_LineWhole.j0 k l1 true a0_0 a0_1))) else (none))
end Go.Proofs.Ytghklhdooemjdaa.Q
end
section
namespace Go.Proofs.Ytghklhdooemjdaa.Q
open Go.RowKit Go.Proofs.YtghklhdooemjdaaW.PrintWords Go.Proofs.YtghklhdooemjdaaW.PrintLast Go.Proofs.YtghklhdooemjdaaW.PrintMore
attribute [local go_sem] max2_int min2_int max_two min_two max_three min_three max_four min_four   -- for this text's walks alone
set_option linter.unusedVariables false
set_option linter.unusedSimpArgs false
attribute [local go_sem high] eqA35
set_option maxHeartbeats 8000000 in
set_option maxRecDepth 100000 in
theorem spoorlaw20_LineWhole.calls (k : Nat) (a0_0 : Int) (a0_1 : Int) (A1 : Option Addr) (c1 : Nat) (l1 : List (S52)) (r : Bool) (w : World) (hr1 : Kd.C k52 w A1 l1.length l1) (hc1 : l1.length ≤ c1) (h : spoorlaw20_LineWhole.f k a0_0 a0_1 l1 = some r) :
  Calls Try.prog 7 #[.agg #[.int .i64 a0_0, .int .i64 a0_1], .slice A1 l1.length c1] w fun e w' => e = .returned (.bool r) ∧ Below w.heap.size w w' := by
 have hu23 := Try.underlying23
 have hu52 := Try.underlying52
 have hu35 := Try.underlying35
 have HR1 := Ax hr1
 have HC1 := Ax hc1
 clear hr1 hc1
 have HB := Ax (Below.refl w.heap.size w)
 have H : ((spoorlaw20_lives.f k).bind fun t227 => (if t227 = true then ((line_Check.f k a0_0 a0_1 l1).bind fun t228 => (if t228 = 0 then (spoorlaw20_LineWhole.j0 k l1 (decide ((l1.length : Int) > 200)) a0_0 a0_1) else (spoorlaw20_LineWhole.j0 k l1 true a0_0 a0_1))) else (none))) = some r := h
 clear h
 replace H := Option.bind_eq_some_iff.mp H
 obtain ⟨t227, A30, H⟩ := H
 replace H : (if t227 = true then ((line_Check.f k a0_0 a0_1 l1).bind fun t228 => (if t228 = 0 then (spoorlaw20_LineWhole.j0 k l1 (decide ((l1.length : Int) > 200)) a0_0 a0_1) else (spoorlaw20_LineWhole.j0 k l1 true a0_0 a0_1))) else (none)) = some r := H
 have A3 := Ax A30
 clear A30
 by_cases c4 : t227 = true
 ·subst c4
  have H1 : ((line_Check.f k a0_0 a0_1 l1).bind fun t228 => (if t228 = 0 then (spoorlaw20_LineWhole.j0 k l1 (decide ((l1.length : Int) > 200)) a0_0 a0_1) else (spoorlaw20_LineWhole.j0 k l1 true a0_0 a0_1))) = some r := by rw [if_pos rfl] at H; exact H
  clear H
  have H := H1
  clear H1
  have HC5 := Ax H
  clear H
  go_enter Try.func7, Try.ntmps7
  go_upto_region 3 with (first | ((with_reducible refine gate_dst (N := 2) rfl ?_); refine box_event ?hg (N := 2) ?hd (cs := #[.int .i64 a0_0, .int .i64 a0_1]) (t := 23) ?hr ?_; (case hd => rfl); (case hg => rfl); (case hr => first | (go_simp; done) | (go_simp; rfl)); intro gb226 hg w6 hbox hb; have n0_ := Bs0 HB hb; have n1_ := Ax (hbox); have n2_ := Gw0 HB hg; have n3_ := Gw0 HB hg; clear HB; have HB := n0_; have BK226 := n1_; have GW226 := n2_; have GE226 := n3_; clear n0_ n1_ n2_ n3_; clear hb hbox hg) | (go_at_call 10; (with_reducible refine (spoorlaw20_lives.calls k  true _ A3.out).mono ?_); rintro e w7 ⟨rfl, hb⟩; replace BK226 := Bx0 BK226 hb; replace HB := Bs1 HB hb GE226.out; (try clear hb)))
  repeat (go_quiet (first | ((with_reducible refine gate_dst (N := 2) rfl ?_); refine box_event ?hg (N := 2) ?hd (cs := #[.int .i64 a0_0, .int .i64 a0_1]) (t := 23) ?hr ?_; (case hd => rfl); (case hg => rfl); (case hr => first | (go_simp; done) | (go_simp; rfl)); intro gb226 hg w6 hbox hb; have n0_ := Bs0 HB hb; have n1_ := Ax (hbox); have n2_ := Gw0 HB hg; have n3_ := Gw0 HB hg; clear HB; have HB := n0_; have BK226 := n1_; have GW226 := n2_; have GE226 := n3_; clear n0_ n1_ n2_ n3_; clear hb hbox hg) | (go_at_call 10; (with_reducible refine (spoorlaw20_lives.calls k  true _ A3.out).mono ?_); rintro e w7 ⟨rfl, hb⟩; replace BK226 := Bx0 BK226 hb; replace HB := Bs1 HB hb GE226.out; (try clear hb))); go_upto_region 3 with (first | ((with_reducible refine gate_dst (N := 2) rfl ?_); refine box_event ?hg (N := 2) ?hd (cs := #[.int .i64 a0_0, .int .i64 a0_1]) (t := 23) ?hr ?_; (case hd => rfl); (case hg => rfl); (case hr => first | (go_simp; done) | (go_simp; rfl)); intro gb226 hg w6 hbox hb; have n0_ := Bs0 HB hb; have n1_ := Ax (hbox); have n2_ := Gw0 HB hg; have n3_ := Gw0 HB hg; clear HB; have HB := n0_; have BK226 := n1_; have GW226 := n2_; have GE226 := n3_; clear n0_ n1_ n2_ n3_; clear hb hbox hg) | (go_at_call 10; (with_reducible refine (spoorlaw20_lives.calls k  true _ A3.out).mono ?_); rintro e w7 ⟨rfl, hb⟩; replace BK226 := Bx0 BK226 hb; replace HB := Bs1 HB hb GE226.out; (try clear hb))))
  (try simp only [Act.put, List.setIfInBounds_toArray, List.set_cons_zero, List.set_cons_succ])
  go_cut [28] (fun v28 wc => ∃ (kq : Nat) (x28_4 : Bool), v28 = .bool x28_4 ∧ Aside0 (spoorlaw20_LineWhole.j0 kq l1 x28_4 a0_0 a0_1 = some r) ∧ Aside0 (kq ≤ k) ∧ Aside0 (wc.heap[gb226]? = some (.cells #[.int .i64 a0_0, .int .i64 a0_1] 23 (0, 0))) ∧ Aside0 (Below w.heap.size w wc))
  case first =>
   have H := HC5.out
   clear HC5
   replace H := Option.bind_eq_some_iff.mp H
   obtain ⟨t228, A80, H⟩ := H
   replace H : (if t228 = 0 then (spoorlaw20_LineWhole.j0 k l1 (decide ((l1.length : Int) > 200)) a0_0 a0_1) else (spoorlaw20_LineWhole.j0 k l1 true a0_0 a0_1)) = some r := H
   have A8 := Ax A80
   clear A80
   by_cases c9 : t228 = 0
   ·rw [if_pos c9] at H
    have c9b0 : (t228 == 0) = true := beq_iff_eq.mpr c9
    have c9b1 : (t228 != 0) = false := bne_eq_false_iff_eq.mpr c9
    clear c9
    (first | rw [c9b0] | (simp only [i64_w, i32_w]; rw [c9b0]) | skip)
    have H' := Ax H
    clear H
    obtain ⟨hcz10_0, hcz10_1, hfz10_0, hfz10_1⟩ := cl2 BK226
    go_wp2_with (first | (go_at_call 12; (with_reducible refine (line_Check.calls k a0_0 a0_1 _ _ l1 t228 _ ?side1 ?side2 A8.out).mono ?_); (case side1 => repeat (first | exact (Kd.C_below HR1.out HB.out) | (with_reducible refine Kd.C_alloc ?_ _) | (with_reducible refine Kd.C_drewN ?_ _) | (with_reducible refine Kd.C_drew ?_))); (case side2 => exact HC1.out); rintro e w11 ⟨rfl, hb⟩; replace BK226 := Bx0 BK226 hb; replace HB := Bs1 HB hb GE226.out; (try clear hb)))
    repeat (go_quiet (first | (go_at_call 12; (with_reducible refine (line_Check.calls k a0_0 a0_1 _ _ l1 t228 _ ?side1 ?side2 A8.out).mono ?_); (case side1 => repeat (first | exact (Kd.C_below HR1.out HB.out) | (with_reducible refine Kd.C_alloc ?_ _) | (with_reducible refine Kd.C_drewN ?_ _) | (with_reducible refine Kd.C_drew ?_))); (case side2 => exact HC1.out); rintro e w11 ⟨rfl, hb⟩; replace BK226 := Bx0 BK226 hb; replace HB := Bs1 HB hb GE226.out; (try clear hb))); try go_wp2_with (first | (go_at_call 12; (with_reducible refine (line_Check.calls k a0_0 a0_1 _ _ l1 t228 _ ?side1 ?side2 A8.out).mono ?_); (case side1 => repeat (first | exact (Kd.C_below HR1.out HB.out) | (with_reducible refine Kd.C_alloc ?_ _) | (with_reducible refine Kd.C_drewN ?_ _) | (with_reducible refine Kd.C_drew ?_))); (case side2 => exact HC1.out); rintro e w11 ⟨rfl, hb⟩; replace BK226 := Bx0 BK226 hb; replace HB := Bs1 HB hb GE226.out; (try clear hb))))
    go_meet
    case rel => exact ⟨_, (decide ((l1.length : Int) > 200)), rS, H', ⟨by first | omega | exact Nat.le_refl _⟩, ⟨bf0 BK226.out⟩, ⟨bw1 HB.out GE226.out⟩⟩
   ·rw [if_neg c9] at H
    have c9b0 : (t228 == 0) = false := beq_eq_false_iff_ne.mpr c9
    have c9b1 : (t228 != 0) = true := bne_iff_ne.mpr c9
    (first | rw [c9b0] | (simp only [i64_w, i32_w]; rw [c9b0]) | skip)
    have H' := Ax H
    clear H
    obtain ⟨hcz12_0, hcz12_1, hfz12_0, hfz12_1⟩ := cl2 BK226
    go_wp2_with (first | (go_at_call 12; (with_reducible refine (line_Check.calls k a0_0 a0_1 _ _ l1 t228 _ ?side1 ?side2 A8.out).mono ?_); (case side1 => repeat (first | exact (Kd.C_below HR1.out HB.out) | (with_reducible refine Kd.C_alloc ?_ _) | (with_reducible refine Kd.C_drewN ?_ _) | (with_reducible refine Kd.C_drew ?_))); (case side2 => exact HC1.out); rintro e w13 ⟨rfl, hb⟩; replace BK226 := Bx0 BK226 hb; replace HB := Bs1 HB hb GE226.out; (try clear hb)))
    repeat (go_quiet (first | (go_at_call 12; (with_reducible refine (line_Check.calls k a0_0 a0_1 _ _ l1 t228 _ ?side1 ?side2 A8.out).mono ?_); (case side1 => repeat (first | exact (Kd.C_below HR1.out HB.out) | (with_reducible refine Kd.C_alloc ?_ _) | (with_reducible refine Kd.C_drewN ?_ _) | (with_reducible refine Kd.C_drew ?_))); (case side2 => exact HC1.out); rintro e w13 ⟨rfl, hb⟩; replace BK226 := Bx0 BK226 hb; replace HB := Bs1 HB hb GE226.out; (try clear hb))); try go_wp2_with (first | (go_at_call 12; (with_reducible refine (line_Check.calls k a0_0 a0_1 _ _ l1 t228 _ ?side1 ?side2 A8.out).mono ?_); (case side1 => repeat (first | exact (Kd.C_below HR1.out HB.out) | (with_reducible refine Kd.C_alloc ?_ _) | (with_reducible refine Kd.C_drewN ?_ _) | (with_reducible refine Kd.C_drew ?_))); (case side2 => exact HC1.out); rintro e w13 ⟨rfl, hb⟩; replace BK226 := Bx0 BK226 hb; replace HB := Bs1 HB hb GE226.out; (try clear hb))))
    go_meet
    case rel => exact ⟨_, (true), rS, H', ⟨by first | omega | exact Nat.le_refl _⟩, ⟨bf0 BK226.out⟩, ⟨bw1 HB.out GE226.out⟩⟩
  case rest =>
   clear HC5
   try clear c1
   try clear p2
   try clear c4
   try clear c7
   try clear c9
   try clear c9b0
   try clear c9b1
   try clear hcz10_0
   try clear hcz10_1
   try clear hcz12_0
   try clear hcz12_1
   try clear hfz10_0
   try clear hfz10_1
   try clear hfz12_0
   try clear hfz12_1
   obtain ⟨kq, x28_4, rfl, HA, HJ4, BK226, HB⟩ := hcut
   cases kq with
   | zero => exact absurd HA.out (by simp [spoorlaw20_LineWhole.j0])
   | succ kj4 =>
    have H := HA.out
    clear HA
    simp only [spoorlaw20_LineWhole.j0] at H
    by_cases c14 : x28_4 = true
    ·subst c14
     have H1 : (some true) = some r := by rw [if_pos rfl] at H; exact H
     clear H
     have H := H1
     clear H1
     obtain rfl := Option.some.inj H
     go_wp2
     repeat (go_quiet (fail); try go_wp2)
     go_ret
     exact ⟨eS, bw1 HB.out GE226.out⟩
    ·replace c14 := Bool.eq_false_iff.mpr c14
     subst c14
     have H1 : (spoorlaw20_LineWhole.l0 kj4 l1 ([] : List (S23)) 0 l1 (l1.length : Int) 0 a0_0 a0_1) = some r := by rw [if_neg (show ¬ (false = true) by decide)] at H; exact H
     clear H
     have H := H1
     clear H1
     have H' := Ax H
     clear H
     go_wp2
     repeat (go_quiet (fail); try go_wp2)
     go_loopg [5, 6, 31] kj4 (fun kq v5 v6 v31 w' => ∃ (x5_2 : List (S23)) (x6_2 : Int) (x31_2 : Int), v6 = .int .i64 x6_2 ∧ v31 = .int .i64 x31_2 ∧ Aside0 (spoorlaw20_LineWhole.l0 kq l1 x5_2 x6_2 l1 (l1.length : Int) x31_2 a0_0 a0_1 = some r) ∧ Aside0 (kq ≤ kj4) ∧ Aside0 (Kd.R k23 23 w' w.heap.size (fun k_ => k_ ≠ gb226) v5 x5_2) ∧ Aside0 (w'.heap[gb226]? = some (.cells #[.int .i64 a0_0, .int .i64 a0_1] 23 (0, 0))) ∧ Aside0 (Below w.heap.size w w'))
     case atStart => exact ⟨(([] : List (S23))), (0), (0), rS, rS, H', ⟨Nat.le_refl _⟩, ⟨by first | exact Kd.R_nil _ _ _ _ _ | exact Kd.N_nil _ _ _ _ _ | exact Kd.V_nil _ _ _ _ _ | exact Kd.Q_nil _ _ _ _ _ | exact Kd.S_nil _ _ _ _ _⟩, ⟨bf0 BK226.out⟩, ⟨bw1 HB.out GE226.out⟩⟩
     case round =>
      clear H'
      try clear c1
      try clear p2
      try clear c4
      try clear c7
      try clear c9
      try clear c9b0
      try clear c9b1
      try clear c14
      try clear hcz10_0
      try clear hcz10_1
      try clear hcz12_0
      try clear hcz12_1
      try clear hfz10_0
      try clear hfz10_1
      try clear hfz12_0
      try clear hfz12_1
      try clear p2
      obtain ⟨x5_2, x6_2, x31_2, rfl, rfl, HA, HK2, HO_5, BK226, HB⟩ := hrel
      cases gk with
      | zero => exact absurd HA.out (by simp [spoorlaw20_LineWhole.l0])
      | succ k2 =>
       have H := HA.out
       clear HA
       simp only [spoorlaw20_LineWhole.l0] at H
       by_cases c15 : x31_2 < (l1.length : Int)
       ·rw [if_pos c15] at H
        have c15b0 : decide (x31_2 < (l1.length : Int)) = true := decide_eq_true c15
        clear c15
        by_cases c16 : 0 ≤ x31_2
        ·rw [if_pos c16] at H
         have c16b0 : decide (0 ≤ x31_2) = true := decide_eq_true c16
         clear c16
         by_cases c17 : x31_2 < (l1.length : Int)
         ·rw [if_pos c17] at H
          have c17b0 : decide (x31_2 < (l1.length : Int)) = true := decide_eq_true c17
          clear c17
          have c18b0 := eq_true (of_decide_eq_true (by first | (with_reducible assumption) | assumption) : 0 ≤ x31_2)
          by_cases c19 : x31_2 ≤ (l1.length : Int)
          ·rw [if_pos c19] at H
           have c19b0 := eq_true c19
           have c19b1 : decide (x31_2 ≤ (l1.length : Int)) = true := decide_eq_true c19
           clear c19
           obtain ⟨y235, hy235⟩ : ∃ y_ : List (S52), y_ = (l1.take (x31_2 : Int).toNat) := ⟨_, rfl⟩
           replace H : (spoorlaw20_LineWhole.l1 k2 l1 x5_2 x6_2 x31_2 false l1 (l1.length : Int) x31_2 y235 (y235.length : Int) 0 a0_0 a0_1 ((rd_T52 l1 x31_2).f0.f0) ((rd_T52 l1 x31_2).f0.f1) ((rd_T52 l1 x31_2).f1.f0) ((rd_T52 l1 x31_2).f1.f1)) = some r := by first | (rw [hy235]; with_reducible exact H) | (have H2_ := (Option.bind_some _ _).symm.trans H; rw [hy235]; with_reducible exact H2_) | (have H2_ := (Option.bind_some _ _).symm.trans H; with_reducible exact H2_) | with_reducible exact H | (rw [hy235]; exact H) | exact H
           have Ny235 := Ax hy235
           clear hy235
           have H' := Ax H
           clear H
           have p233 : 0 ≤ (x31_2 : Int) := of_decide_eq_true (by first | (with_reducible assumption) | assumption)
           have q233 : x31_2 < (l1.length : Int) := of_decide_eq_true (by first | (with_reducible assumption) | assumption)
           obtain ⟨ad233, e233, hx233_0, hx233_1, hx233_2, hx233_3⟩ := at_T52 HR1.out x31_2 p233 q233
           cases e233
           replace hx233_0 := (HB.out.cell (World.block_lt_of_cell? w _ hx233_0)).trans hx233_0
           replace hx233_1 := (HB.out.cell (World.block_lt_of_cell? w _ hx233_1)).trans hx233_1
           replace hx233_2 := (HB.out.cell (World.block_lt_of_cell? w _ hx233_2)).trans hx233_2
           replace hx233_3 := (HB.out.cell (World.block_lt_of_cell? w _ hx233_3)).trans hx233_3
           replace p233 := eq_true p233
           replace q233 := eq_true q233
           go_wp2_with (first | ((with_reducible refine gate_dst (N := 8) rfl ?_); refine box_event ?hg (N := 8) ?hd (cs := #[.int .i64 0, .int .i64 0, .int .u8 0, .int .i64 0]) (t := 52) ?hr ?_; (case hd => rfl); (case hg => rfl); (case hr => first | (go_simp; done) | (go_simp; rfl)); intro gb234 hg w20 hbox hb; have n0_ := Ax (Kd.R_below (by (with_reducible repeat (first | apply Kd.R_alloc | apply Kd.R_drewN | apply Kd.R_drew)); exact HO_5.out) hb); have n1_ := Bx0 BK226 hb; have n2_ := Bs1 HB hb GE226.out; have n3_ := Ax (hbox); have n4_ := Gw1 HB hg GE226.out; have n5_ := Gw1 HB hg GE226.out; have n6_ := Nl0 BK226 hg; have n7_ := Nr0 BK226 hg; clear HO_5; clear BK226; clear HB; have HO_5 := n0_; have BK226 := n1_; have HB := n2_; have BK234 := n3_; have GW234 := n4_; have GE234 := n5_; have NB226_234 := n6_; have NB234_226 := n7_; clear n0_ n1_ n2_ n3_ n4_ n5_ n6_ n7_; clear hb hbox hg; have hnb21 := NB234_226.out; have hnc21 := NB226_234.out; obtain ⟨hcz22_0, hcz22_1, hcz22_2, hcz22_3, hfz22_0, hfz22_1, hfz22_2, hfz22_3⟩ := cl4 BK234) | ((with_reducible refine gate_store (t := 52) (p := 8) rfl ?_); (try (rw [drewN_self w20]; generalize hq_ : World.drewN w20 _ = w20; have n0_ := Ax (Kd.R_at hq_ HO_5.out); have n1_ := Ax (blk_at hq_ BK226.out); have n2_ := Ax (blk_at hq_ BK234.out); have n3_ := Ax (below_at hq_ HB.out); clear hq_ HO_5 BK226 BK234 HB; have HO_5 := n0_; have BK226 := n1_; have BK234 := n2_; have HB := n3_; clear n0_ n1_ n2_ n3_)); refine store_event (t := 52) (p := 8) (v := ?vo_w23) (w1 := ((((w20.setCell ⟨gb234, 0, none⟩ (.int .i64 ((rd_T52 l1 x31_2).f0.f0))).setCell ⟨gb234, 1, none⟩ (.int .i64 ((rd_T52 l1 x31_2).f0.f1))).setCell ⟨gb234, 2, none⟩ (.int .u8 ((rd_T52 l1 x31_2).f1.f0))).setCell ⟨gb234, 3, none⟩ (.int .i64 ((rd_T52 l1 x31_2).f1.f1)))) ?hg ?ho ?hn ?hr ?_; (case ho => rfl); (case hg => rfl); (case hn => rfl); (case hr => first | (go_simp; done) | (go_simp; rfl)); intro w23 hw; have n0_ : Aside0 (Kd.R k23 23 w23 w.heap.size (fun k_ => k_ ≠ gb226) u5 x5_2) := ⟨(by rw [hw]; exact (by (with_reducible repeat (first | apply Kd.R_alloc | apply Kd.R_drewN | apply Kd.R_drew)); exact Kd.R_mono (Kd.R_far (p := ⟨gb234, 3, none⟩) (Kd.R_far (p := ⟨gb234, 2, none⟩) (Kd.R_far (p := ⟨gb234, 1, none⟩) (Kd.R_far (p := ⟨gb234, 0, none⟩) (Kd.R_types HO_5.out BK234.out (by decide)) (fun _ hk => hk.2) (.int .i64 ((rd_T52 l1 x31_2).f0.f0))) (fun _ hk => hk.2) (.int .i64 ((rd_T52 l1 x31_2).f0.f1))) (fun _ hk => hk.2) (.int .u8 ((rd_T52 l1 x31_2).f1.f0))) (fun _ hk => hk.2) (.int .i64 ((rd_T52 l1 x31_2).f1.f1))) (fun _ hk => hk.1)))⟩; have n1_ : Aside0 (w23.heap[gb226]? = some (.cells #[.int .i64 a0_0, .int .i64 a0_1] 23 (0, 0))) := ⟨(by rw [hw]; exact (bf4 BK226.out NB226_234.out NB226_234.out NB226_234.out NB226_234.out))⟩; have n2_ : Aside0 (w23.heap[gb234]? = some (.cells #[.int .i64 ((rd_T52 l1 x31_2).f0.f0), .int .i64 ((rd_T52 l1 x31_2).f0.f1), .int .u8 ((rd_T52 l1 x31_2).f1.f0), .int .i64 ((rd_T52 l1 x31_2).f1.f1)] 52 (0, 0))) := ⟨(by rw [hw]; exact (by (with_reducible repeat (first | refine blk_drewN ?_ _ | refine blk_drew ?_ | refine blk_alloc ?_ _)); refine blk_put (cs := #[.int .i64 ((rd_T52 l1 x31_2).f0.f0), .int .i64 ((rd_T52 l1 x31_2).f0.f1), .int .u8 ((rd_T52 l1 x31_2).f1.f0), .int .i64 0]) ?_ 3 _ rfl; (with_reducible repeat (first | refine blk_drewN ?_ _ | refine blk_drew ?_ | refine blk_alloc ?_ _)); refine blk_put (cs := #[.int .i64 ((rd_T52 l1 x31_2).f0.f0), .int .i64 ((rd_T52 l1 x31_2).f0.f1), .int .u8 0, .int .i64 0]) ?_ 2 _ rfl; (with_reducible repeat (first | refine blk_drewN ?_ _ | refine blk_drew ?_ | refine blk_alloc ?_ _)); refine blk_put (cs := #[.int .i64 ((rd_T52 l1 x31_2).f0.f0), .int .i64 0, .int .u8 0, .int .i64 0]) ?_ 1 _ rfl; (with_reducible repeat (first | refine blk_drewN ?_ _ | refine blk_drew ?_ | refine blk_alloc ?_ _)); refine blk_put (cs := #[.int .i64 0, .int .i64 0, .int .u8 0, .int .i64 0]) ?_ 0 _ rfl; (with_reducible repeat (first | refine blk_drewN ?_ _ | refine blk_drew ?_ | refine blk_alloc ?_ _)); exact BK234.out))⟩; have n3_ : Aside0 (Below w.heap.size w w23) := ⟨(by rw [hw]; exact (bw2 HB.out GE226.out GE234.out))⟩; clear hw; clear HO_5; clear BK226; clear BK234; clear HB; have HO_5 := n0_; have BK226 := n1_; have BK234 := n2_; have HB := n3_; clear n0_ n1_ n2_ n3_; have q24 : (x31_2 : Int) ≤ ((l1.length : Int) : Int) := of_decide_eq_true (by first | (with_reducible assumption) | assumption); obtain ⟨i024, hi024, _, hsz24, _⟩ := info_parts info52; have hroom24 : l1.length ≤ c1 := HC1.out; have hC24 : Kd.C k52 _ (some ad233) l1.length l1 := HR1.out; have hcut24 := cut_to (P := Try.prog) 25 52 .i64 Try.underlying25 hi024 (some ad233) l1.length c1 x31_2 (of_decide_eq_true (by first | (with_reducible assumption) | assumption)) q24 hroom24; have hr24 := Kd.C_take (m := (x31_2 : Int).toNat) hC24 (by omega); have hy24 : y235.length = (x31_2 : Int).toNat := (by rw [Ny235.out, List.length_take]; omega); rw [← Ny235.out] at hr24; rw [← hy24] at hcut24; have HR238 := Ax hr24; have HC238 := Ax (show y235.length ≤ c1 from by omega); clear hr24 hC24 hroom24 hi024 hsz24; have KY24 := Ax hy24; clear hy24; replace q24 := eq_true q24))
           repeat (go_quiet (first | ((with_reducible refine gate_dst (N := 8) rfl ?_); refine box_event ?hg (N := 8) ?hd (cs := #[.int .i64 0, .int .i64 0, .int .u8 0, .int .i64 0]) (t := 52) ?hr ?_; (case hd => rfl); (case hg => rfl); (case hr => first | (go_simp; done) | (go_simp; rfl)); intro gb234 hg w20 hbox hb; have n0_ := Ax (Kd.R_below (by (with_reducible repeat (first | apply Kd.R_alloc | apply Kd.R_drewN | apply Kd.R_drew)); exact HO_5.out) hb); have n1_ := Bx0 BK226 hb; have n2_ := Bs1 HB hb GE226.out; have n3_ := Ax (hbox); have n4_ := Gw1 HB hg GE226.out; have n5_ := Gw1 HB hg GE226.out; have n6_ := Nl0 BK226 hg; have n7_ := Nr0 BK226 hg; clear HO_5; clear BK226; clear HB; have HO_5 := n0_; have BK226 := n1_; have HB := n2_; have BK234 := n3_; have GW234 := n4_; have GE234 := n5_; have NB226_234 := n6_; have NB234_226 := n7_; clear n0_ n1_ n2_ n3_ n4_ n5_ n6_ n7_; clear hb hbox hg; have hnb21 := NB234_226.out; have hnc21 := NB226_234.out; obtain ⟨hcz22_0, hcz22_1, hcz22_2, hcz22_3, hfz22_0, hfz22_1, hfz22_2, hfz22_3⟩ := cl4 BK234) | ((with_reducible refine gate_store (t := 52) (p := 8) rfl ?_); (try (rw [drewN_self w20]; generalize hq_ : World.drewN w20 _ = w20; have n0_ := Ax (Kd.R_at hq_ HO_5.out); have n1_ := Ax (blk_at hq_ BK226.out); have n2_ := Ax (blk_at hq_ BK234.out); have n3_ := Ax (below_at hq_ HB.out); clear hq_ HO_5 BK226 BK234 HB; have HO_5 := n0_; have BK226 := n1_; have BK234 := n2_; have HB := n3_; clear n0_ n1_ n2_ n3_)); refine store_event (t := 52) (p := 8) (v := ?vo_w23) (w1 := ((((w20.setCell ⟨gb234, 0, none⟩ (.int .i64 ((rd_T52 l1 x31_2).f0.f0))).setCell ⟨gb234, 1, none⟩ (.int .i64 ((rd_T52 l1 x31_2).f0.f1))).setCell ⟨gb234, 2, none⟩ (.int .u8 ((rd_T52 l1 x31_2).f1.f0))).setCell ⟨gb234, 3, none⟩ (.int .i64 ((rd_T52 l1 x31_2).f1.f1)))) ?hg ?ho ?hn ?hr ?_; (case ho => rfl); (case hg => rfl); (case hn => rfl); (case hr => first | (go_simp; done) | (go_simp; rfl)); intro w23 hw; have n0_ : Aside0 (Kd.R k23 23 w23 w.heap.size (fun k_ => k_ ≠ gb226) u5 x5_2) := ⟨(by rw [hw]; exact (by (with_reducible repeat (first | apply Kd.R_alloc | apply Kd.R_drewN | apply Kd.R_drew)); exact Kd.R_mono (Kd.R_far (p := ⟨gb234, 3, none⟩) (Kd.R_far (p := ⟨gb234, 2, none⟩) (Kd.R_far (p := ⟨gb234, 1, none⟩) (Kd.R_far (p := ⟨gb234, 0, none⟩) (Kd.R_types HO_5.out BK234.out (by decide)) (fun _ hk => hk.2) (.int .i64 ((rd_T52 l1 x31_2).f0.f0))) (fun _ hk => hk.2) (.int .i64 ((rd_T52 l1 x31_2).f0.f1))) (fun _ hk => hk.2) (.int .u8 ((rd_T52 l1 x31_2).f1.f0))) (fun _ hk => hk.2) (.int .i64 ((rd_T52 l1 x31_2).f1.f1))) (fun _ hk => hk.1)))⟩; have n1_ : Aside0 (w23.heap[gb226]? = some (.cells #[.int .i64 a0_0, .int .i64 a0_1] 23 (0, 0))) := ⟨(by rw [hw]; exact (bf4 BK226.out NB226_234.out NB226_234.out NB226_234.out NB226_234.out))⟩; have n2_ : Aside0 (w23.heap[gb234]? = some (.cells #[.int .i64 ((rd_T52 l1 x31_2).f0.f0), .int .i64 ((rd_T52 l1 x31_2).f0.f1), .int .u8 ((rd_T52 l1 x31_2).f1.f0), .int .i64 ((rd_T52 l1 x31_2).f1.f1)] 52 (0, 0))) := ⟨(by rw [hw]; exact (by (with_reducible repeat (first | refine blk_drewN ?_ _ | refine blk_drew ?_ | refine blk_alloc ?_ _)); refine blk_put (cs := #[.int .i64 ((rd_T52 l1 x31_2).f0.f0), .int .i64 ((rd_T52 l1 x31_2).f0.f1), .int .u8 ((rd_T52 l1 x31_2).f1.f0), .int .i64 0]) ?_ 3 _ rfl; (with_reducible repeat (first | refine blk_drewN ?_ _ | refine blk_drew ?_ | refine blk_alloc ?_ _)); refine blk_put (cs := #[.int .i64 ((rd_T52 l1 x31_2).f0.f0), .int .i64 ((rd_T52 l1 x31_2).f0.f1), .int .u8 0, .int .i64 0]) ?_ 2 _ rfl; (with_reducible repeat (first | refine blk_drewN ?_ _ | refine blk_drew ?_ | refine blk_alloc ?_ _)); refine blk_put (cs := #[.int .i64 ((rd_T52 l1 x31_2).f0.f0), .int .i64 0, .int .u8 0, .int .i64 0]) ?_ 1 _ rfl; (with_reducible repeat (first | refine blk_drewN ?_ _ | refine blk_drew ?_ | refine blk_alloc ?_ _)); refine blk_put (cs := #[.int .i64 0, .int .i64 0, .int .u8 0, .int .i64 0]) ?_ 0 _ rfl; (with_reducible repeat (first | refine blk_drewN ?_ _ | refine blk_drew ?_ | refine blk_alloc ?_ _)); exact BK234.out))⟩; have n3_ : Aside0 (Below w.heap.size w w23) := ⟨(by rw [hw]; exact (bw2 HB.out GE226.out GE234.out))⟩; clear hw; clear HO_5; clear BK226; clear BK234; clear HB; have HO_5 := n0_; have BK226 := n1_; have BK234 := n2_; have HB := n3_; clear n0_ n1_ n2_ n3_; have q24 : (x31_2 : Int) ≤ ((l1.length : Int) : Int) := of_decide_eq_true (by first | (with_reducible assumption) | assumption); obtain ⟨i024, hi024, _, hsz24, _⟩ := info_parts info52; have hroom24 : l1.length ≤ c1 := HC1.out; have hC24 : Kd.C k52 _ (some ad233) l1.length l1 := HR1.out; have hcut24 := cut_to (P := Try.prog) 25 52 .i64 Try.underlying25 hi024 (some ad233) l1.length c1 x31_2 (of_decide_eq_true (by first | (with_reducible assumption) | assumption)) q24 hroom24; have hr24 := Kd.C_take (m := (x31_2 : Int).toNat) hC24 (by omega); have hy24 : y235.length = (x31_2 : Int).toNat := (by rw [Ny235.out, List.length_take]; omega); rw [← Ny235.out] at hr24; rw [← hy24] at hcut24; have HR238 := Ax hr24; have HC238 := Ax (show y235.length ≤ c1 from by omega); clear hr24 hC24 hroom24 hi024 hsz24; have KY24 := Ax hy24; clear hy24; replace q24 := eq_true q24)); try go_wp2_with (first | ((with_reducible refine gate_dst (N := 8) rfl ?_); refine box_event ?hg (N := 8) ?hd (cs := #[.int .i64 0, .int .i64 0, .int .u8 0, .int .i64 0]) (t := 52) ?hr ?_; (case hd => rfl); (case hg => rfl); (case hr => first | (go_simp; done) | (go_simp; rfl)); intro gb234 hg w20 hbox hb; have n0_ := Ax (Kd.R_below (by (with_reducible repeat (first | apply Kd.R_alloc | apply Kd.R_drewN | apply Kd.R_drew)); exact HO_5.out) hb); have n1_ := Bx0 BK226 hb; have n2_ := Bs1 HB hb GE226.out; have n3_ := Ax (hbox); have n4_ := Gw1 HB hg GE226.out; have n5_ := Gw1 HB hg GE226.out; have n6_ := Nl0 BK226 hg; have n7_ := Nr0 BK226 hg; clear HO_5; clear BK226; clear HB; have HO_5 := n0_; have BK226 := n1_; have HB := n2_; have BK234 := n3_; have GW234 := n4_; have GE234 := n5_; have NB226_234 := n6_; have NB234_226 := n7_; clear n0_ n1_ n2_ n3_ n4_ n5_ n6_ n7_; clear hb hbox hg; have hnb21 := NB234_226.out; have hnc21 := NB226_234.out; obtain ⟨hcz22_0, hcz22_1, hcz22_2, hcz22_3, hfz22_0, hfz22_1, hfz22_2, hfz22_3⟩ := cl4 BK234) | ((with_reducible refine gate_store (t := 52) (p := 8) rfl ?_); (try (rw [drewN_self w20]; generalize hq_ : World.drewN w20 _ = w20; have n0_ := Ax (Kd.R_at hq_ HO_5.out); have n1_ := Ax (blk_at hq_ BK226.out); have n2_ := Ax (blk_at hq_ BK234.out); have n3_ := Ax (below_at hq_ HB.out); clear hq_ HO_5 BK226 BK234 HB; have HO_5 := n0_; have BK226 := n1_; have BK234 := n2_; have HB := n3_; clear n0_ n1_ n2_ n3_)); refine store_event (t := 52) (p := 8) (v := ?vo_w23) (w1 := ((((w20.setCell ⟨gb234, 0, none⟩ (.int .i64 ((rd_T52 l1 x31_2).f0.f0))).setCell ⟨gb234, 1, none⟩ (.int .i64 ((rd_T52 l1 x31_2).f0.f1))).setCell ⟨gb234, 2, none⟩ (.int .u8 ((rd_T52 l1 x31_2).f1.f0))).setCell ⟨gb234, 3, none⟩ (.int .i64 ((rd_T52 l1 x31_2).f1.f1)))) ?hg ?ho ?hn ?hr ?_; (case ho => rfl); (case hg => rfl); (case hn => rfl); (case hr => first | (go_simp; done) | (go_simp; rfl)); intro w23 hw; have n0_ : Aside0 (Kd.R k23 23 w23 w.heap.size (fun k_ => k_ ≠ gb226) u5 x5_2) := ⟨(by rw [hw]; exact (by (with_reducible repeat (first | apply Kd.R_alloc | apply Kd.R_drewN | apply Kd.R_drew)); exact Kd.R_mono (Kd.R_far (p := ⟨gb234, 3, none⟩) (Kd.R_far (p := ⟨gb234, 2, none⟩) (Kd.R_far (p := ⟨gb234, 1, none⟩) (Kd.R_far (p := ⟨gb234, 0, none⟩) (Kd.R_types HO_5.out BK234.out (by decide)) (fun _ hk => hk.2) (.int .i64 ((rd_T52 l1 x31_2).f0.f0))) (fun _ hk => hk.2) (.int .i64 ((rd_T52 l1 x31_2).f0.f1))) (fun _ hk => hk.2) (.int .u8 ((rd_T52 l1 x31_2).f1.f0))) (fun _ hk => hk.2) (.int .i64 ((rd_T52 l1 x31_2).f1.f1))) (fun _ hk => hk.1)))⟩; have n1_ : Aside0 (w23.heap[gb226]? = some (.cells #[.int .i64 a0_0, .int .i64 a0_1] 23 (0, 0))) := ⟨(by rw [hw]; exact (bf4 BK226.out NB226_234.out NB226_234.out NB226_234.out NB226_234.out))⟩; have n2_ : Aside0 (w23.heap[gb234]? = some (.cells #[.int .i64 ((rd_T52 l1 x31_2).f0.f0), .int .i64 ((rd_T52 l1 x31_2).f0.f1), .int .u8 ((rd_T52 l1 x31_2).f1.f0), .int .i64 ((rd_T52 l1 x31_2).f1.f1)] 52 (0, 0))) := ⟨(by rw [hw]; exact (by (with_reducible repeat (first | refine blk_drewN ?_ _ | refine blk_drew ?_ | refine blk_alloc ?_ _)); refine blk_put (cs := #[.int .i64 ((rd_T52 l1 x31_2).f0.f0), .int .i64 ((rd_T52 l1 x31_2).f0.f1), .int .u8 ((rd_T52 l1 x31_2).f1.f0), .int .i64 0]) ?_ 3 _ rfl; (with_reducible repeat (first | refine blk_drewN ?_ _ | refine blk_drew ?_ | refine blk_alloc ?_ _)); refine blk_put (cs := #[.int .i64 ((rd_T52 l1 x31_2).f0.f0), .int .i64 ((rd_T52 l1 x31_2).f0.f1), .int .u8 0, .int .i64 0]) ?_ 2 _ rfl; (with_reducible repeat (first | refine blk_drewN ?_ _ | refine blk_drew ?_ | refine blk_alloc ?_ _)); refine blk_put (cs := #[.int .i64 ((rd_T52 l1 x31_2).f0.f0), .int .i64 0, .int .u8 0, .int .i64 0]) ?_ 1 _ rfl; (with_reducible repeat (first | refine blk_drewN ?_ _ | refine blk_drew ?_ | refine blk_alloc ?_ _)); refine blk_put (cs := #[.int .i64 0, .int .i64 0, .int .u8 0, .int .i64 0]) ?_ 0 _ rfl; (with_reducible repeat (first | refine blk_drewN ?_ _ | refine blk_drew ?_ | refine blk_alloc ?_ _)); exact BK234.out))⟩; have n3_ : Aside0 (Below w.heap.size w w23) := ⟨(by rw [hw]; exact (bw2 HB.out GE226.out GE234.out))⟩; clear hw; clear HO_5; clear BK226; clear BK234; clear HB; have HO_5 := n0_; have BK226 := n1_; have BK234 := n2_; have HB := n3_; clear n0_ n1_ n2_ n3_; have q24 : (x31_2 : Int) ≤ ((l1.length : Int) : Int) := of_decide_eq_true (by first | (with_reducible assumption) | assumption); obtain ⟨i024, hi024, _, hsz24, _⟩ := info_parts info52; have hroom24 : l1.length ≤ c1 := HC1.out; have hC24 : Kd.C k52 _ (some ad233) l1.length l1 := HR1.out; have hcut24 := cut_to (P := Try.prog) 25 52 .i64 Try.underlying25 hi024 (some ad233) l1.length c1 x31_2 (of_decide_eq_true (by first | (with_reducible assumption) | assumption)) q24 hroom24; have hr24 := Kd.C_take (m := (x31_2 : Int).toNat) hC24 (by omega); have hy24 : y235.length = (x31_2 : Int).toNat := (by rw [Ny235.out, List.length_take]; omega); rw [← Ny235.out] at hr24; rw [← hy24] at hcut24; have HR238 := Ax hr24; have HC238 := Ax (show y235.length ≤ c1 from by omega); clear hr24 hC24 hroom24 hi024 hsz24; have KY24 := Ax hy24; clear hy24; replace q24 := eq_true q24)))
           go_loopg [9, 40] k2 (fun kq v9 v40 w' => ∃ (x9_3 : Bool) (x40_3 : Int), v9 = .bool x9_3 ∧ v40 = .int .i64 x40_3 ∧ Aside0 (spoorlaw20_LineWhole.l1 kq l1 x5_2 x6_2 x31_2 x9_3 l1 (l1.length : Int) x31_2 y235 (y235.length : Int) x40_3 a0_0 a0_1 ((rd_T52 l1 x31_2).f0.f0) ((rd_T52 l1 x31_2).f0.f1) ((rd_T52 l1 x31_2).f1.f0) ((rd_T52 l1 x31_2).f1.f1) = some r) ∧ Aside0 (kq ≤ k2) ∧ Aside0 (Kd.R k23 23 w' w.heap.size (fun k_ => k_ ≠ gb226) u5 x5_2) ∧ Aside0 (w'.heap[gb226]? = some (.cells #[.int .i64 a0_0, .int .i64 a0_1] 23 (0, 0))) ∧ Aside0 (w'.heap[gb234]? = some (.cells #[.int .i64 ((rd_T52 l1 x31_2).f0.f0), .int .i64 ((rd_T52 l1 x31_2).f0.f1), .int .u8 ((rd_T52 l1 x31_2).f1.f0), .int .i64 ((rd_T52 l1 x31_2).f1.f1)] 52 (0, 0))) ∧ Aside0 (Below w.heap.size w w'))
           case atStart => exact ⟨(false), (0), rS, rS, H', ⟨Nat.le_refl _⟩, ⟨by (with_reducible repeat (first | apply Kd.R_alloc | apply Kd.R_drewN | apply Kd.R_drew)); exact HO_5.out⟩, ⟨bf0 BK226.out⟩, ⟨bf0 BK234.out⟩, ⟨bw2 HB.out GE226.out GE234.out⟩⟩
           case round =>
            clear H'
            try clear c1
            try clear c2
            try clear p2
            try clear q2
            try clear hx2
            try clear c4
            try clear c7
            try clear c9
            try clear c9b0
            try clear c9b1
            try clear c14
            try clear c15
            try clear c15b0
            try clear c16
            try clear c16b0
            try clear c17
            try clear c17b0
            try clear c18
            try clear c18b0
            try clear c19
            try clear c19b0
            try clear c19b1
            try clear c21
            try clear p23
            try clear q23
            try clear hx23
            try clear q24
            try clear hcz10_0
            try clear hcz10_1
            try clear hcz12_0
            try clear hcz12_1
            try clear hcz22_0
            try clear hcz22_1
            try clear hcz22_2
            try clear hcz22_3
            try clear hfz10_0
            try clear hfz10_1
            try clear hfz12_0
            try clear hfz12_1
            try clear hfz22_0
            try clear hfz22_1
            try clear hfz22_2
            try clear hfz22_3
            try clear hx233_0
            try clear hx233_1
            try clear hx233_2
            try clear hx233_3
            try clear p2
            try clear p233
            try clear q233
            try clear q24
            obtain ⟨x9_3, x40_3, rfl, rfl, HA, HK3, HO_5, BK226, BK234, HB⟩ := hrel
            cases gk with
            | zero => exact absurd HA.out (by simp [spoorlaw20_LineWhole.l1])
            | succ k3 =>
             have H := HA.out
             clear HA
             simp only [spoorlaw20_LineWhole.l1] at H
             by_cases c25 : x40_3 < (y235.length : Int)
             ·rw [if_pos c25] at H
              have c25b0 : decide (x40_3 < (y235.length : Int)) = true := decide_eq_true c25
              clear c25
              by_cases c26 : 0 ≤ x40_3
              ·rw [if_pos c26] at H
               have c26b0 : decide (0 ≤ x40_3) = true := decide_eq_true c26
               clear c26
               by_cases c27 : x40_3 < (y235.length : Int)
               ·rw [if_pos c27] at H
                have c27b0 : decide (x40_3 < (y235.length : Int)) = true := decide_eq_true c27
                clear c27
                by_cases c28 : x9_3 = true
                ·subst c28
                 have H1 : (spoorlaw20_LineWhole.l1 k3 l1 x5_2 x6_2 x31_2 true l1 (l1.length : Int) x31_2 y235 (y235.length : Int) (wrap64 (x40_3 + 1)) a0_0 a0_1 ((rd_T52 l1 x31_2).f0.f0) ((rd_T52 l1 x31_2).f0.f1) ((rd_T52 l1 x31_2).f1.f0) ((rd_T52 l1 x31_2).f1.f1)) = some r := by rw [if_pos rfl] at H; exact H
                 clear H
                 have H := H1
                 clear H1
                 have H' := Ax H
                 clear H
                 have p239 : 0 ≤ (x40_3 : Int) := of_decide_eq_true (by first | (with_reducible assumption) | assumption)
                 have q239 : x40_3 < (y235.length : Int) := of_decide_eq_true (by first | (with_reducible assumption) | assumption)
                 obtain ⟨ad239, e239, hx239_0, hx239_1, hx239_2, hx239_3⟩ := at_T52 HR238.out x40_3 p239 q239
                 obtain rfl : ad233 = ad239 := (by injection e239)
                 replace hx239_0 := (HB.out.cell (World.block_lt_of_cell? w _ hx239_0)).trans hx239_0
                 replace hx239_1 := (HB.out.cell (World.block_lt_of_cell? w _ hx239_1)).trans hx239_1
                 replace hx239_2 := (HB.out.cell (World.block_lt_of_cell? w _ hx239_2)).trans hx239_2
                 replace hx239_3 := (HB.out.cell (World.block_lt_of_cell? w _ hx239_3)).trans hx239_3
                 replace p239 := eq_true p239
                 replace q239 := eq_true q239
                 go_wp2_with (first | ((with_reducible refine gate_dst (N := 11) rfl ?_); refine box_event ?hg (N := 11) ?hd (cs := #[.int .i64 0, .int .i64 0, .int .u8 0, .int .i64 0]) (t := 52) ?hr ?_; (case hd => rfl); (case hg => rfl); (case hr => first | (go_simp; done) | (go_simp; rfl)); intro gb240 hg w29 hbox hb; have n0_ := Ax (Kd.R_below (by (with_reducible repeat (first | apply Kd.R_alloc | apply Kd.R_drewN | apply Kd.R_drew)); exact HO_5.out) hb); have n1_ := Bx0 BK226 hb; have n2_ := Bx0 BK234 hb; have n3_ := Bs2 HB hb GE226.out GE234.out; have n4_ := Ax (hbox); have n5_ := Gw2 HB hg GE226.out GE234.out; have n6_ := Gw2 HB hg GE226.out GE234.out; have n7_ := Nl0 BK226 hg; have n8_ := Nr0 BK226 hg; have n9_ := Nl0 BK234 hg; have n10_ := Nr0 BK234 hg; clear HO_5; clear BK226; clear BK234; clear HB; have HO_5 := n0_; have BK226 := n1_; have BK234 := n2_; have HB := n3_; have BK240 := n4_; have GW240 := n5_; have GE240 := n6_; have NB226_240 := n7_; have NB240_226 := n8_; have NB234_240 := n9_; have NB240_234 := n10_; clear n0_ n1_ n2_ n3_ n4_ n5_ n6_ n7_ n8_ n9_ n10_; clear hb hbox hg; have hnb30 := NB240_226.out; have hnc30 := NB226_240.out; have hnb31 := NB240_234.out; have hnc31 := NB234_240.out; obtain ⟨hcz32_0, hcz32_1, hcz32_2, hcz32_3, hfz32_0, hfz32_1, hfz32_2, hfz32_3⟩ := cl4 BK240))
                 repeat (go_quiet (first | ((with_reducible refine gate_dst (N := 11) rfl ?_); refine box_event ?hg (N := 11) ?hd (cs := #[.int .i64 0, .int .i64 0, .int .u8 0, .int .i64 0]) (t := 52) ?hr ?_; (case hd => rfl); (case hg => rfl); (case hr => first | (go_simp; done) | (go_simp; rfl)); intro gb240 hg w29 hbox hb; have n0_ := Ax (Kd.R_below (by (with_reducible repeat (first | apply Kd.R_alloc | apply Kd.R_drewN | apply Kd.R_drew)); exact HO_5.out) hb); have n1_ := Bx0 BK226 hb; have n2_ := Bx0 BK234 hb; have n3_ := Bs2 HB hb GE226.out GE234.out; have n4_ := Ax (hbox); have n5_ := Gw2 HB hg GE226.out GE234.out; have n6_ := Gw2 HB hg GE226.out GE234.out; have n7_ := Nl0 BK226 hg; have n8_ := Nr0 BK226 hg; have n9_ := Nl0 BK234 hg; have n10_ := Nr0 BK234 hg; clear HO_5; clear BK226; clear BK234; clear HB; have HO_5 := n0_; have BK226 := n1_; have BK234 := n2_; have HB := n3_; have BK240 := n4_; have GW240 := n5_; have GE240 := n6_; have NB226_240 := n7_; have NB240_226 := n8_; have NB234_240 := n9_; have NB240_234 := n10_; clear n0_ n1_ n2_ n3_ n4_ n5_ n6_ n7_ n8_ n9_ n10_; clear hb hbox hg; have hnb30 := NB240_226.out; have hnc30 := NB226_240.out; have hnb31 := NB240_234.out; have hnc31 := NB234_240.out; obtain ⟨hcz32_0, hcz32_1, hcz32_2, hcz32_3, hfz32_0, hfz32_1, hfz32_2, hfz32_3⟩ := cl4 BK240)); try go_wp2_with (first | ((with_reducible refine gate_dst (N := 11) rfl ?_); refine box_event ?hg (N := 11) ?hd (cs := #[.int .i64 0, .int .i64 0, .int .u8 0, .int .i64 0]) (t := 52) ?hr ?_; (case hd => rfl); (case hg => rfl); (case hr => first | (go_simp; done) | (go_simp; rfl)); intro gb240 hg w29 hbox hb; have n0_ := Ax (Kd.R_below (by (with_reducible repeat (first | apply Kd.R_alloc | apply Kd.R_drewN | apply Kd.R_drew)); exact HO_5.out) hb); have n1_ := Bx0 BK226 hb; have n2_ := Bx0 BK234 hb; have n3_ := Bs2 HB hb GE226.out GE234.out; have n4_ := Ax (hbox); have n5_ := Gw2 HB hg GE226.out GE234.out; have n6_ := Gw2 HB hg GE226.out GE234.out; have n7_ := Nl0 BK226 hg; have n8_ := Nr0 BK226 hg; have n9_ := Nl0 BK234 hg; have n10_ := Nr0 BK234 hg; clear HO_5; clear BK226; clear BK234; clear HB; have HO_5 := n0_; have BK226 := n1_; have BK234 := n2_; have HB := n3_; have BK240 := n4_; have GW240 := n5_; have GE240 := n6_; have NB226_240 := n7_; have NB240_226 := n8_; have NB234_240 := n9_; have NB240_234 := n10_; clear n0_ n1_ n2_ n3_ n4_ n5_ n6_ n7_ n8_ n9_ n10_; clear hb hbox hg; have hnb30 := NB240_226.out; have hnc30 := NB226_240.out; have hnb31 := NB240_234.out; have hnc31 := NB234_240.out; obtain ⟨hcz32_0, hcz32_1, hcz32_2, hcz32_3, hfz32_0, hfz32_1, hfz32_2, hfz32_3⟩ := cl4 BK240)))
                 go_roundg k3
                 case measure => have := HJ4.out; have := HK2.out; have := HK3.out; omega
                 case rel => exact ⟨(true), (wrap64 (x40_3 + 1)), rS, rS, H', ⟨by have := HJ4.out; have := HK2.out; have := HK3.out; omega⟩, ⟨by (with_reducible repeat (first | apply Kd.R_alloc | apply Kd.R_drewN | apply Kd.R_drew)); exact Kd.R_mono (Kd.R_far (p := ⟨gb240, 3, none⟩) (Kd.R_far (p := ⟨gb240, 2, none⟩) (Kd.R_far (p := ⟨gb240, 1, none⟩) (Kd.R_far (p := ⟨gb240, 0, none⟩) (Kd.R_types HO_5.out BK240.out (by decide)) (fun _ hk => hk.2) (.int .i64 ((rd_T52 y235 x40_3).f0.f0))) (fun _ hk => hk.2) (.int .i64 ((rd_T52 y235 x40_3).f0.f1))) (fun _ hk => hk.2) (.int .u8 ((rd_T52 y235 x40_3).f1.f0))) (fun _ hk => hk.2) (.int .i64 ((rd_T52 y235 x40_3).f1.f1))) (fun _ hk => hk.1)⟩, ⟨bf4 BK226.out NB226_240.out NB226_240.out NB226_240.out NB226_240.out⟩, ⟨bf4 BK234.out NB234_240.out NB234_240.out NB234_240.out NB234_240.out⟩, ⟨bw3 HB.out GE226.out GE234.out GE240.out⟩⟩
                ·replace c28 := Bool.eq_false_iff.mpr c28
                 subst c28
                 have H1 : (spoorlaw20_LineWhole.l1 k3 l1 x5_2 x6_2 x31_2 (((rd_T52 y235 x40_3).f1.f0) == ((rd_T52 l1 x31_2).f1.f0) && (((rd_T52 y235 x40_3).f1.f1) == ((rd_T52 l1 x31_2).f1.f1))) l1 (l1.length : Int) x31_2 y235 (y235.length : Int) (wrap64 (x40_3 + 1)) a0_0 a0_1 ((rd_T52 l1 x31_2).f0.f0) ((rd_T52 l1 x31_2).f0.f1) ((rd_T52 l1 x31_2).f1.f0) ((rd_T52 l1 x31_2).f1.f1)) = some r := by rw [if_neg (show ¬ (false = true) by decide)] at H; exact H
                 clear H
                 have H := H1
                 clear H1
                 have H' := Ax H
                 clear H
                 have p239 : 0 ≤ (x40_3 : Int) := of_decide_eq_true (by first | (with_reducible assumption) | assumption)
                 have q239 : x40_3 < (y235.length : Int) := of_decide_eq_true (by first | (with_reducible assumption) | assumption)
                 obtain ⟨ad239, e239, hx239_0, hx239_1, hx239_2, hx239_3⟩ := at_T52 HR238.out x40_3 p239 q239
                 obtain rfl : ad233 = ad239 := (by injection e239)
                 replace hx239_0 := (HB.out.cell (World.block_lt_of_cell? w _ hx239_0)).trans hx239_0
                 replace hx239_1 := (HB.out.cell (World.block_lt_of_cell? w _ hx239_1)).trans hx239_1
                 replace hx239_2 := (HB.out.cell (World.block_lt_of_cell? w _ hx239_2)).trans hx239_2
                 replace hx239_3 := (HB.out.cell (World.block_lt_of_cell? w _ hx239_3)).trans hx239_3
                 replace p239 := eq_true p239
                 replace q239 := eq_true q239
                 go_wp2_with (first | ((with_reducible refine gate_dst (N := 11) rfl ?_); refine box_event ?hg (N := 11) ?hd (cs := #[.int .i64 0, .int .i64 0, .int .u8 0, .int .i64 0]) (t := 52) ?hr ?_; (case hd => rfl); (case hg => rfl); (case hr => first | (go_simp; done) | (go_simp; rfl)); intro gb240 hg w33 hbox hb; have n0_ := Ax (Kd.R_below (by (with_reducible repeat (first | apply Kd.R_alloc | apply Kd.R_drewN | apply Kd.R_drew)); exact HO_5.out) hb); have n1_ := Bx0 BK226 hb; have n2_ := Bx0 BK234 hb; have n3_ := Bs2 HB hb GE226.out GE234.out; have n4_ := Ax (hbox); have n5_ := Gw2 HB hg GE226.out GE234.out; have n6_ := Gw2 HB hg GE226.out GE234.out; have n7_ := Nl0 BK226 hg; have n8_ := Nr0 BK226 hg; have n9_ := Nl0 BK234 hg; have n10_ := Nr0 BK234 hg; clear HO_5; clear BK226; clear BK234; clear HB; have HO_5 := n0_; have BK226 := n1_; have BK234 := n2_; have HB := n3_; have BK240 := n4_; have GW240 := n5_; have GE240 := n6_; have NB226_240 := n7_; have NB240_226 := n8_; have NB234_240 := n9_; have NB240_234 := n10_; clear n0_ n1_ n2_ n3_ n4_ n5_ n6_ n7_ n8_ n9_ n10_; clear hb hbox hg; have hnb34 := NB240_226.out; have hnc34 := NB226_240.out; have hnb35 := NB240_234.out; have hnc35 := NB234_240.out; obtain ⟨hcz36_0, hcz36_1, hcz36_2, hcz36_3, hfz36_0, hfz36_1, hfz36_2, hfz36_3⟩ := cl4 BK240; have hnb37 := NB234_226.out; have hnc37 := NB226_234.out; obtain ⟨hcz38_0, hcz38_1, hcz38_2, hcz38_3, hfz38_0, hfz38_1, hfz38_2, hfz38_3⟩ := cl4 BK234))
                 repeat (go_quiet (first | ((with_reducible refine gate_dst (N := 11) rfl ?_); refine box_event ?hg (N := 11) ?hd (cs := #[.int .i64 0, .int .i64 0, .int .u8 0, .int .i64 0]) (t := 52) ?hr ?_; (case hd => rfl); (case hg => rfl); (case hr => first | (go_simp; done) | (go_simp; rfl)); intro gb240 hg w33 hbox hb; have n0_ := Ax (Kd.R_below (by (with_reducible repeat (first | apply Kd.R_alloc | apply Kd.R_drewN | apply Kd.R_drew)); exact HO_5.out) hb); have n1_ := Bx0 BK226 hb; have n2_ := Bx0 BK234 hb; have n3_ := Bs2 HB hb GE226.out GE234.out; have n4_ := Ax (hbox); have n5_ := Gw2 HB hg GE226.out GE234.out; have n6_ := Gw2 HB hg GE226.out GE234.out; have n7_ := Nl0 BK226 hg; have n8_ := Nr0 BK226 hg; have n9_ := Nl0 BK234 hg; have n10_ := Nr0 BK234 hg; clear HO_5; clear BK226; clear BK234; clear HB; have HO_5 := n0_; have BK226 := n1_; have BK234 := n2_; have HB := n3_; have BK240 := n4_; have GW240 := n5_; have GE240 := n6_; have NB226_240 := n7_; have NB240_226 := n8_; have NB234_240 := n9_; have NB240_234 := n10_; clear n0_ n1_ n2_ n3_ n4_ n5_ n6_ n7_ n8_ n9_ n10_; clear hb hbox hg; have hnb34 := NB240_226.out; have hnc34 := NB226_240.out; have hnb35 := NB240_234.out; have hnc35 := NB234_240.out; obtain ⟨hcz36_0, hcz36_1, hcz36_2, hcz36_3, hfz36_0, hfz36_1, hfz36_2, hfz36_3⟩ := cl4 BK240; have hnb37 := NB234_226.out; have hnc37 := NB226_234.out; obtain ⟨hcz38_0, hcz38_1, hcz38_2, hcz38_3, hfz38_0, hfz38_1, hfz38_2, hfz38_3⟩ := cl4 BK234)); try go_wp2_with (first | ((with_reducible refine gate_dst (N := 11) rfl ?_); refine box_event ?hg (N := 11) ?hd (cs := #[.int .i64 0, .int .i64 0, .int .u8 0, .int .i64 0]) (t := 52) ?hr ?_; (case hd => rfl); (case hg => rfl); (case hr => first | (go_simp; done) | (go_simp; rfl)); intro gb240 hg w33 hbox hb; have n0_ := Ax (Kd.R_below (by (with_reducible repeat (first | apply Kd.R_alloc | apply Kd.R_drewN | apply Kd.R_drew)); exact HO_5.out) hb); have n1_ := Bx0 BK226 hb; have n2_ := Bx0 BK234 hb; have n3_ := Bs2 HB hb GE226.out GE234.out; have n4_ := Ax (hbox); have n5_ := Gw2 HB hg GE226.out GE234.out; have n6_ := Gw2 HB hg GE226.out GE234.out; have n7_ := Nl0 BK226 hg; have n8_ := Nr0 BK226 hg; have n9_ := Nl0 BK234 hg; have n10_ := Nr0 BK234 hg; clear HO_5; clear BK226; clear BK234; clear HB; have HO_5 := n0_; have BK226 := n1_; have BK234 := n2_; have HB := n3_; have BK240 := n4_; have GW240 := n5_; have GE240 := n6_; have NB226_240 := n7_; have NB240_226 := n8_; have NB234_240 := n9_; have NB240_234 := n10_; clear n0_ n1_ n2_ n3_ n4_ n5_ n6_ n7_ n8_ n9_ n10_; clear hb hbox hg; have hnb34 := NB240_226.out; have hnc34 := NB226_240.out; have hnb35 := NB240_234.out; have hnc35 := NB234_240.out; obtain ⟨hcz36_0, hcz36_1, hcz36_2, hcz36_3, hfz36_0, hfz36_1, hfz36_2, hfz36_3⟩ := cl4 BK240; have hnb37 := NB234_226.out; have hnc37 := NB226_234.out; obtain ⟨hcz38_0, hcz38_1, hcz38_2, hcz38_3, hfz38_0, hfz38_1, hfz38_2, hfz38_3⟩ := cl4 BK234)))
                 go_roundg k3
                 case measure => have := HJ4.out; have := HK2.out; have := HK3.out; omega
                 case rel => exact ⟨((((rd_T52 y235 x40_3).f1.f0) == ((rd_T52 l1 x31_2).f1.f0) && (((rd_T52 y235 x40_3).f1.f1) == ((rd_T52 l1 x31_2).f1.f1)))), (wrap64 (x40_3 + 1)), rS, rS, H', ⟨by have := HJ4.out; have := HK2.out; have := HK3.out; omega⟩, ⟨by (with_reducible repeat (first | apply Kd.R_alloc | apply Kd.R_drewN | apply Kd.R_drew)); exact Kd.R_mono (Kd.R_far (p := ⟨gb240, 3, none⟩) (Kd.R_far (p := ⟨gb240, 2, none⟩) (Kd.R_far (p := ⟨gb240, 1, none⟩) (Kd.R_far (p := ⟨gb240, 0, none⟩) (Kd.R_types HO_5.out BK240.out (by decide)) (fun _ hk => hk.2) (.int .i64 ((rd_T52 y235 x40_3).f0.f0))) (fun _ hk => hk.2) (.int .i64 ((rd_T52 y235 x40_3).f0.f1))) (fun _ hk => hk.2) (.int .u8 ((rd_T52 y235 x40_3).f1.f0))) (fun _ hk => hk.2) (.int .i64 ((rd_T52 y235 x40_3).f1.f1))) (fun _ hk => hk.1)⟩, ⟨bf4 BK226.out NB226_240.out NB226_240.out NB226_240.out NB226_240.out⟩, ⟨bf4 BK234.out NB234_240.out NB234_240.out NB234_240.out NB234_240.out⟩, ⟨bw3 HB.out GE226.out GE234.out GE240.out⟩⟩
               ·rw [if_neg c27] at H
                exact absurd H (by simp)
              ·rw [if_neg c26] at H
               exact absurd H (by simp)
             ·rw [if_neg c25] at H
              have c25b0 : decide (x40_3 < (y235.length : Int)) = false := decide_eq_false c25
              clear c25
              have HC39 := Ax H
              clear H
              go_upto_region 16 with (fail)
              repeat (go_quiet (fail); go_upto_region 16 with (fail))
              go_cut [65] (fun v65 wc => ∃ (kq : Nat) (x65_38 : Bool), v65 = .bool x65_38 ∧ Aside0 (spoorlaw20_LineWhole.j3 kq l1 x5_2 x6_2 x9_3 l1 (l1.length : Int) x31_2 x65_38 a0_0 a0_1 ((rd_T52 l1 x31_2).f0.f0) ((rd_T52 l1 x31_2).f0.f1) ((rd_T52 l1 x31_2).f1.f0) ((rd_T52 l1 x31_2).f1.f1) = some r) ∧ Aside0 (kq ≤ k3) ∧ Aside0 (Kd.R k23 23 wc w.heap.size (fun k_ => k_ ≠ gb226) u5 x5_2) ∧ Aside0 (wc.heap[gb226]? = some (.cells #[.int .i64 a0_0, .int .i64 a0_1] 23 (0, 0))) ∧ Aside0 (wc.heap[gb234]? = some (.cells #[.int .i64 ((rd_T52 l1 x31_2).f0.f0), .int .i64 ((rd_T52 l1 x31_2).f0.f1), .int .u8 ((rd_T52 l1 x31_2).f1.f0), .int .i64 ((rd_T52 l1 x31_2).f1.f1)] 52 (0, 0))) ∧ Aside0 (Below w.heap.size w wc))
              case first =>
               have H := HC39.out
               clear HC39
               by_cases c40 : x31_2 > 0
               ·rw [if_pos c40] at H
                have c40b0 : decide (0 < x31_2) = true := decide_eq_true c40
                clear c40
                (first | rw [c40b0] | (simp only [i64_w, i32_w]; rw [c40b0]) | skip)
                obtain ⟨ji41, hji41⟩ : ∃ j_ : Int, (wrap64 (x31_2 - 1)) = j_ := ⟨_, rfl⟩
                replace H : (if 0 ≤ (ji41) then (if (ji41) < (l1.length : Int) then (spoorlaw20_LineWhole.j3 k3 l1 x5_2 x6_2 x9_3 l1 (l1.length : Int) x31_2 (((rd_T52 l1 (ji41)).f1.f0) == ((rd_T52 l1 x31_2).f1.f0) && (((rd_T52 l1 (ji41)).f1.f1) == ((rd_T52 l1 x31_2).f1.f1))) a0_0 a0_1 ((rd_T52 l1 x31_2).f0.f0) ((rd_T52 l1 x31_2).f0.f1) ((rd_T52 l1 x31_2).f1.f0) ((rd_T52 l1 x31_2).f1.f1)) else (none)) else (none)) = some r := by first | (rw [hji41] at H; exact H) | (simp only [hji41] at H ⊢; exact H)
                have hji41w : (IntKind.i64.wrap (x31_2 - 1)) = ji41 := (i64_w _).trans hji41
                by_cases c42 : 0 ≤ (ji41)
                ·rw [if_pos c42] at H
                 have c42b0 : decide (0 ≤ (ji41)) = true := decide_eq_true c42
                 clear c42
                 by_cases c43 : (ji41) < (l1.length : Int)
                 ·rw [if_pos c43] at H
                  have c43b0 : decide ((ji41) < (l1.length : Int)) = true := decide_eq_true c43
                  clear c43
                  have H' := Ax H
                  clear H
                  have p241 : 0 ≤ ((ji41) : Int) := of_decide_eq_true (by first | (with_reducible assumption) | assumption)
                  have q241 : (ji41) < (l1.length : Int) := of_decide_eq_true (by first | (with_reducible assumption) | assumption)
                  obtain ⟨ad241, e241, hx241_0, hx241_1, hx241_2, hx241_3⟩ := at_T52 HR1.out (ji41) p241 q241
                  obtain rfl : ad233 = ad241 := (by injection e241)
                  replace hx241_0 := (HB.out.cell (World.block_lt_of_cell? w _ hx241_0)).trans hx241_0
                  replace hx241_1 := (HB.out.cell (World.block_lt_of_cell? w _ hx241_1)).trans hx241_1
                  replace hx241_2 := (HB.out.cell (World.block_lt_of_cell? w _ hx241_2)).trans hx241_2
                  replace hx241_3 := (HB.out.cell (World.block_lt_of_cell? w _ hx241_3)).trans hx241_3
                  replace p241 := eq_true p241
                  replace q241 := eq_true q241
                  have hnb44 := NB234_226.out
                  have hnc44 := NB226_234.out
                  obtain ⟨hcz45_0, hcz45_1, hcz45_2, hcz45_3, hfz45_0, hfz45_1, hfz45_2, hfz45_3⟩ := cl4 BK234
                  go_wp2
                  repeat (go_quiet (fail); try go_wp2)
                  go_meet
                  case rel => exact ⟨_, ((((rd_T52 l1 (ji41)).f1.f0) == ((rd_T52 l1 x31_2).f1.f0) && (((rd_T52 l1 (ji41)).f1.f1) == ((rd_T52 l1 x31_2).f1.f1)))), (by first | rfl | (simp; done) | (simp only [← hji41] <;> (first | rfl | simp)) | (simp [*]; done)), H', ⟨by have := HJ4.out; have := HK2.out; have := HK3.out; first | omega | exact Nat.le_refl _⟩, ⟨by (with_reducible repeat (first | apply Kd.R_alloc | apply Kd.R_drewN | apply Kd.R_drew)); exact HO_5.out⟩, ⟨bf0 BK226.out⟩, ⟨bf0 BK234.out⟩, ⟨bw2 HB.out GE226.out GE234.out⟩⟩
                 ·rw [if_neg c43] at H
                  exact absurd H (by simp)
                ·rw [if_neg c42] at H
                 exact absurd H (by simp)
               ·rw [if_neg c40] at H
                have c40b0 : decide (0 < x31_2) = false := decide_eq_false c40
                clear c40
                (first | rw [c40b0] | (simp only [i64_w, i32_w]; rw [c40b0]) | skip)
                have H' := Ax H
                clear H
                go_wp2
                repeat (go_quiet (fail); try go_wp2)
                go_meet
                case rel => exact ⟨_, (false), rS, H', ⟨by have := HJ4.out; have := HK2.out; have := HK3.out; first | omega | exact Nat.le_refl _⟩, ⟨by (with_reducible repeat (first | apply Kd.R_alloc | apply Kd.R_drewN | apply Kd.R_drew)); exact HO_5.out⟩, ⟨bf0 BK226.out⟩, ⟨bf0 BK234.out⟩, ⟨bw2 HB.out GE226.out GE234.out⟩⟩
              case rest =>
               clear HC39
               try clear c1
               try clear c2
               try clear p2
               try clear q2
               try clear hx2
               try clear c3
               try clear c4
               try clear p6
               try clear c7
               try clear c9
               try clear c9b0
               try clear c9b1
               try clear c14
               try clear c15
               try clear c15b0
               try clear c16
               try clear c16b0
               try clear c17
               try clear c17b0
               try clear c18
               try clear c18b0
               try clear c19
               try clear c19b0
               try clear c19b1
               try clear c21
               try clear p23
               try clear q23
               try clear hx23
               try clear p24
               try clear q24
               try clear hx24
               try clear c25
               try clear c25b0
               try clear c26
               try clear c26b0
               try clear c27
               try clear c27b0
               try clear c28
               try clear c30
               try clear c31
               try clear c34
               try clear c35
               try clear c37
               try clear c40
               try clear c40b0
               try clear c42
               try clear c42b0
               try clear c43
               try clear c43b0
               try clear c44
               try clear hcz10_0
               try clear hcz10_1
               try clear hcz12_0
               try clear hcz12_1
               try clear hcz22_0
               try clear hcz22_1
               try clear hcz22_2
               try clear hcz22_3
               try clear hcz32_0
               try clear hcz32_1
               try clear hcz32_2
               try clear hcz32_3
               try clear hcz36_0
               try clear hcz36_1
               try clear hcz36_2
               try clear hcz36_3
               try clear hcz38_0
               try clear hcz38_1
               try clear hcz38_2
               try clear hcz38_3
               try clear hcz45_0
               try clear hcz45_1
               try clear hcz45_2
               try clear hcz45_3
               try clear hfz10_0
               try clear hfz10_1
               try clear hfz12_0
               try clear hfz12_1
               try clear hfz22_0
               try clear hfz22_1
               try clear hfz22_2
               try clear hfz22_3
               try clear hfz32_0
               try clear hfz32_1
               try clear hfz32_2
               try clear hfz32_3
               try clear hfz36_0
               try clear hfz36_1
               try clear hfz36_2
               try clear hfz36_3
               try clear hfz38_0
               try clear hfz38_1
               try clear hfz38_2
               try clear hfz38_3
               try clear hfz45_0
               try clear hfz45_1
               try clear hfz45_2
               try clear hfz45_3
               try clear hx233_0
               try clear hx233_1
               try clear hx233_2
               try clear hx233_3
               try clear hx239_0
               try clear hx239_1
               try clear hx239_2
               try clear hx239_3
               try clear hx241_0
               try clear hx241_1
               try clear hx241_2
               try clear hx241_3
               try clear p2
               try clear p23
               try clear p233
               try clear p239
               try clear p241
               try clear q2
               try clear q23
               try clear q233
               try clear q239
               try clear q24
               try clear q241
               obtain ⟨kq, x65_38, rfl, HA, HJ38, HO_5, BK226, BK234, HB⟩ := hcut
               cases kq with
               | zero => exact absurd HA.out (by simp [spoorlaw20_LineWhole.j3])
               | succ kj38 =>
                have H := HA.out
                clear HA
                simp only [spoorlaw20_LineWhole.j3] at H
                by_cases c46 : x65_38 = true
                ·subst c46
                 have H1 : (none) = some r := by rw [if_pos rfl] at H; exact H
                 clear H
                 have H := H1
                 clear H1
                 exact absurd H (by simp)
                ·replace c46 := Bool.eq_false_iff.mpr c46
                 subst c46
                 have H1 : (if x9_3 = true then (spoorlaw20_LineWhole.l0 kj38 l1 x5_2 x6_2 l1 (l1.length : Int) (wrap64 (x31_2 + 1)) a0_0 a0_1) else ((line_When.f kj38 a0_0 a0_1 l1 ((rd_T52 l1 x31_2).f1.f0) ((rd_T52 l1 x31_2).f1.f1)).bind fun bt242 => ((ivl_Long.f kj38 bt242.1).bind fun bt246 => ((ivl_Or.f kj38 x5_2 bt242.1).bind fun bt248 => (if bt242.2 = 0 then (if bt246.2 = 0 then (if bt248.2 = 0 then (if (bt242.1.length : Int) = 0 then (none) else (spoorlaw20_LineWhole.l0 kj38 l1 bt248.1 (wrap64 (x6_2 + bt246.1)) l1 (l1.length : Int) (wrap64 (x31_2 + 1)) a0_0 a0_1)) else (none)) else (none)) else (none)))))) = some r := by rw [if_neg (show ¬ (false = true) by decide)] at H; exact H
                 clear H
                 have H := H1
                 clear H1
                 by_cases c47 : x9_3 = true
                 ·subst c47
                  have H1 : (spoorlaw20_LineWhole.l0 kj38 l1 x5_2 x6_2 l1 (l1.length : Int) (wrap64 (x31_2 + 1)) a0_0 a0_1) = some r := by rw [if_pos rfl] at H; exact H
                  clear H
                  have H := H1
                  clear H1
                  have H' := Ax H
                  clear H
                  go_wp2
                  repeat (go_quiet (fail); try go_wp2)
                  go_roundg kj38
                  case measure => have := HJ4.out; have := HK2.out; have := HK3.out; have := HJ38.out; omega
                  case rel => exact ⟨(x5_2), (x6_2), (wrap64 (x31_2 + 1)), rS, rS, H', ⟨by have := HJ4.out; have := HK2.out; have := HK3.out; have := HJ38.out; omega⟩, ⟨by (with_reducible repeat (first | apply Kd.R_alloc | apply Kd.R_drewN | apply Kd.R_drew)); exact HO_5.out⟩, ⟨bf0 BK226.out⟩, ⟨bw2 HB.out GE226.out GE234.out⟩⟩
                 ·replace c47 := Bool.eq_false_iff.mpr c47
                  subst c47
                  have H1 : ((line_When.f kj38 a0_0 a0_1 l1 ((rd_T52 l1 x31_2).f1.f0) ((rd_T52 l1 x31_2).f1.f1)).bind fun bt242 => ((ivl_Long.f kj38 bt242.1).bind fun bt246 => ((ivl_Or.f kj38 x5_2 bt242.1).bind fun bt248 => (if bt242.2 = 0 then (if bt246.2 = 0 then (if bt248.2 = 0 then (if (bt242.1.length : Int) = 0 then (none) else (spoorlaw20_LineWhole.l0 kj38 l1 bt248.1 (wrap64 (x6_2 + bt246.1)) l1 (l1.length : Int) (wrap64 (x31_2 + 1)) a0_0 a0_1)) else (none)) else (none)) else (none))))) = some r := by rw [if_neg (show ¬ (false = true) by decide)] at H; exact H
                  clear H
                  have H := H1
                  clear H1
                  replace H := Option.bind_eq_some_iff.mp H
                  obtain ⟨⟨t242, t245⟩, A480, H⟩ := H
                  replace H : ((ivl_Long.f kj38 t242).bind fun bt246 => ((ivl_Or.f kj38 x5_2 t242).bind fun bt248 => (if t245 = 0 then (if bt246.2 = 0 then (if bt248.2 = 0 then (if (t242.length : Int) = 0 then (none) else (spoorlaw20_LineWhole.l0 kj38 l1 bt248.1 (wrap64 (x6_2 + bt246.1)) l1 (l1.length : Int) (wrap64 (x31_2 + 1)) a0_0 a0_1)) else (none)) else (none)) else (none)))) = some r := H
                  have A48 := Ax A480
                  clear A480
                  replace H := Option.bind_eq_some_iff.mp H
                  obtain ⟨⟨t246, t247⟩, A490, H⟩ := H
                  replace H : ((ivl_Or.f kj38 x5_2 t242).bind fun bt248 => (if t245 = 0 then (if t247 = 0 then (if bt248.2 = 0 then (if (t242.length : Int) = 0 then (none) else (spoorlaw20_LineWhole.l0 kj38 l1 bt248.1 (wrap64 (x6_2 + t246)) l1 (l1.length : Int) (wrap64 (x31_2 + 1)) a0_0 a0_1)) else (none)) else (none)) else (none))) = some r := H
                  have A49 := Ax A490
                  clear A490
                  replace H := Option.bind_eq_some_iff.mp H
                  obtain ⟨⟨t248, t249⟩, A500, H⟩ := H
                  replace H : (if t245 = 0 then (if t247 = 0 then (if t249 = 0 then (if (t242.length : Int) = 0 then (none) else (spoorlaw20_LineWhole.l0 kj38 l1 t248 (wrap64 (x6_2 + t246)) l1 (l1.length : Int) (wrap64 (x31_2 + 1)) a0_0 a0_1)) else (none)) else (none)) else (none)) = some r := H
                  have A50 := Ax A500
                  clear A500
                  by_cases c51 : t245 = 0
                  ·rw [if_pos c51] at H
                   have c51b0 : (t245 == 0) = true := beq_iff_eq.mpr c51
                   have c51b1 : (t245 != 0) = false := bne_eq_false_iff_eq.mpr c51
                   clear c51
                   by_cases c52 : t247 = 0
                   ·rw [if_pos c52] at H
                    have c52b0 : (t247 == 0) = true := beq_iff_eq.mpr c52
                    have c52b1 : (t247 != 0) = false := bne_eq_false_iff_eq.mpr c52
                    clear c52
                    by_cases c53 : t249 = 0
                    ·rw [if_pos c53] at H
                     have c53b0 : (t249 == 0) = true := beq_iff_eq.mpr c53
                     have c53b1 : (t249 != 0) = false := bne_eq_false_iff_eq.mpr c53
                     clear c53
                     by_cases c54 : (t242.length : Int) = 0
                     ·rw [if_pos c54] at H
                      exact absurd H (by simp)
                     ·rw [if_neg c54] at H
                      have c54b0 : ((t242.length : Int) == 0) = false := beq_eq_false_iff_ne.mpr c54
                      have c54b1 : ((t242.length : Int) != 0) = true := bne_iff_ne.mpr c54
                      have c54b2 : ¬ (t242 = []) := fun h_ => c54 (by rw [h_]; rfl)
                      have H' := Ax H
                      clear H
                      have hnb55 := NB226_234.out
                      have hnc55 := NB234_226.out
                      obtain ⟨hcz56_0, hcz56_1, hfz56_0, hfz56_1⟩ := cl2 BK226
                      obtain ⟨hcz57_0, hcz57_1, hcz57_2, hcz57_3, hfz57_0, hfz57_1, hfz57_2, hfz57_3⟩ := cl4 BK234
                      go_wp2_with (first | (go_at_call 16; (with_reducible refine (line_When.calls kj38 a0_0 a0_1 _ _ l1 ((rd_T52 l1 x31_2).f1.f0) ((rd_T52 l1 x31_2).f1.f1) t242 t245 _ ?side1 ?side2 A48.out).mono ?_); (case side1 => repeat (first | exact (Kd.C_below HR1.out HB.out) | (with_reducible refine Kd.C_alloc ?_ _) | (with_reducible refine Kd.C_drewN ?_ _) | (with_reducible refine Kd.C_drew ?_))); (case side2 => exact HC1.out); rintro e w58 ⟨v243, rfl, ho0, hb⟩; have n0_ := Ax (Kd.R_elder' (by (with_reducible repeat (first | apply Kd.R_alloc | apply Kd.R_drewN | apply Kd.R_drew)); exact HO_5.out) (Kd.R_base ho0) hb); have n1_ := Ax (Kd.R_lower (Kd.R_newB (Kd.R_new' ho0 (Kd.R_lt (by (with_reducible repeat (first | apply Kd.R_alloc | apply Kd.R_drewN | apply Kd.R_drew)); exact HO_5.out))) (g := gb226) (o := .cells #[.int .i64 a0_0, .int .i64 a0_1] 23 (0, 0)) (bf0 BK226.out)) (below_size (bw2 HB.out GE226.out GE234.out))); have n2_ := Bx0 BK226 hb; have n3_ := Bx0 BK234 hb; have n4_ := Bs2 HB hb GE226.out GE234.out; clear HO_5; clear BK226; clear BK234; clear HB; have HO_5 := n0_; have HO244 := n1_; have BK226 := n2_; have BK234 := n3_; have HB := n4_; clear n0_ n1_ n2_ n3_ n4_; (try clear hb); (try clear ho0); obtain ⟨Ao59, co59, eo59⟩ := Kd.R_slice HO244.out; subst eo59) | (go_at_call 24; (with_reducible refine (ivl_Long.calls kj38 _ _ t242 t246 t247 _ ?side1 ?side2 A49.out).mono ?_); (case side1 => repeat (first | exact (Kd.R_reads' HO244.out).2.2 | (with_reducible refine Kd.C_alloc ?_ _) | (with_reducible refine Kd.C_drewN ?_ _) | (with_reducible refine Kd.C_drew ?_))); (case side2 => exact (Kd.R_reads' HO244.out).2.1); rintro e w60 ⟨rfl, hb⟩; have n0_ := Ax (Kd.R_below (by (with_reducible repeat (first | apply Kd.R_alloc | apply Kd.R_drewN | apply Kd.R_drew)); exact HO_5.out) hb); have n1_ := Ax (Kd.R_below (by (with_reducible repeat (first | apply Kd.R_alloc | apply Kd.R_drewN | apply Kd.R_drew)); exact HO244.out) hb); have n2_ := Bx0 BK226 hb; have n3_ := Bx0 BK234 hb; have n4_ := Bs2 HB hb GE226.out GE234.out; clear HO_5; clear HO244; clear BK226; clear BK234; clear HB; have HO_5 := n0_; have HO244 := n1_; have BK226 := n2_; have BK234 := n3_; have HB := n4_; clear n0_ n1_ n2_ n3_ n4_; (try clear hb); obtain ⟨Ao61, co61, eo61⟩ := Kd.R_slice HO_5.out; subst eo61) | (go_at_call 25; (with_reducible refine (ivl_Or.calls kj38 _ _ x5_2 _ _ t242 t248 t249 _ ?side1 ?side2 ?side3 ?side4 A50.out).mono ?_); (case side1 => repeat (first | exact (Kd.R_reads' HO_5.out).2.2 | (with_reducible refine Kd.C_alloc ?_ _) | (with_reducible refine Kd.C_drewN ?_ _) | (with_reducible refine Kd.C_drew ?_))); (case side2 => exact (Kd.R_reads' HO_5.out).2.1); (case side3 => repeat (first | exact (Kd.R_reads' HO244.out).2.2 | (with_reducible refine Kd.C_alloc ?_ _) | (with_reducible refine Kd.C_drewN ?_ _) | (with_reducible refine Kd.C_drew ?_))); (case side4 => exact (Kd.R_reads' HO244.out).2.1); rintro e w62 ⟨v250, rfl, ho0, hb⟩; have n0_ := Ax (Kd.R_elder' (by (with_reducible repeat (first | apply Kd.R_alloc | apply Kd.R_drewN | apply Kd.R_drew)); exact HO_5.out) (Kd.R_base ho0) hb); have n1_ := Ax (Kd.R_elder' (by (with_reducible repeat (first | apply Kd.R_alloc | apply Kd.R_drewN | apply Kd.R_drew)); exact HO244.out) (Kd.R_base ho0) hb); have n2_ := Ax (Kd.R_lower (Kd.R_newB (Kd.R_new' (Kd.R_new' ho0 (Kd.R_lt (by (with_reducible repeat (first | apply Kd.R_alloc | apply Kd.R_drewN | apply Kd.R_drew)); exact HO_5.out))) (Kd.R_lt (by (with_reducible repeat (first | apply Kd.R_alloc | apply Kd.R_drewN | apply Kd.R_drew)); exact HO244.out))) (g := gb226) (o := .cells #[.int .i64 a0_0, .int .i64 a0_1] 23 (0, 0)) (bf0 BK226.out)) (below_size (bw2 HB.out GE226.out GE234.out))); have n3_ := Bx0 BK226 hb; have n4_ := Bx0 BK234 hb; have n5_ := Bs2 HB hb GE226.out GE234.out; clear HO_5; clear HO244; clear BK226; clear BK234; clear HB; have HO_5 := n0_; have HO244 := n1_; have HO251 := n2_; have BK226 := n3_; have BK234 := n4_; have HB := n5_; clear n0_ n1_ n2_ n3_ n4_ n5_; (try clear hb); (try clear ho0)))
                      repeat (go_quiet (first | (go_at_call 16; (with_reducible refine (line_When.calls kj38 a0_0 a0_1 _ _ l1 ((rd_T52 l1 x31_2).f1.f0) ((rd_T52 l1 x31_2).f1.f1) t242 t245 _ ?side1 ?side2 A48.out).mono ?_); (case side1 => repeat (first | exact (Kd.C_below HR1.out HB.out) | (with_reducible refine Kd.C_alloc ?_ _) | (with_reducible refine Kd.C_drewN ?_ _) | (with_reducible refine Kd.C_drew ?_))); (case side2 => exact HC1.out); rintro e w58 ⟨v243, rfl, ho0, hb⟩; have n0_ := Ax (Kd.R_elder' (by (with_reducible repeat (first | apply Kd.R_alloc | apply Kd.R_drewN | apply Kd.R_drew)); exact HO_5.out) (Kd.R_base ho0) hb); have n1_ := Ax (Kd.R_lower (Kd.R_newB (Kd.R_new' ho0 (Kd.R_lt (by (with_reducible repeat (first | apply Kd.R_alloc | apply Kd.R_drewN | apply Kd.R_drew)); exact HO_5.out))) (g := gb226) (o := .cells #[.int .i64 a0_0, .int .i64 a0_1] 23 (0, 0)) (bf0 BK226.out)) (below_size (bw2 HB.out GE226.out GE234.out))); have n2_ := Bx0 BK226 hb; have n3_ := Bx0 BK234 hb; have n4_ := Bs2 HB hb GE226.out GE234.out; clear HO_5; clear BK226; clear BK234; clear HB; have HO_5 := n0_; have HO244 := n1_; have BK226 := n2_; have BK234 := n3_; have HB := n4_; clear n0_ n1_ n2_ n3_ n4_; (try clear hb); (try clear ho0); obtain ⟨Ao59, co59, eo59⟩ := Kd.R_slice HO244.out; subst eo59) | (go_at_call 24; (with_reducible refine (ivl_Long.calls kj38 _ _ t242 t246 t247 _ ?side1 ?side2 A49.out).mono ?_); (case side1 => repeat (first | exact (Kd.R_reads' HO244.out).2.2 | (with_reducible refine Kd.C_alloc ?_ _) | (with_reducible refine Kd.C_drewN ?_ _) | (with_reducible refine Kd.C_drew ?_))); (case side2 => exact (Kd.R_reads' HO244.out).2.1); rintro e w60 ⟨rfl, hb⟩; have n0_ := Ax (Kd.R_below (by (with_reducible repeat (first | apply Kd.R_alloc | apply Kd.R_drewN | apply Kd.R_drew)); exact HO_5.out) hb); have n1_ := Ax (Kd.R_below (by (with_reducible repeat (first | apply Kd.R_alloc | apply Kd.R_drewN | apply Kd.R_drew)); exact HO244.out) hb); have n2_ := Bx0 BK226 hb; have n3_ := Bx0 BK234 hb; have n4_ := Bs2 HB hb GE226.out GE234.out; clear HO_5; clear HO244; clear BK226; clear BK234; clear HB; have HO_5 := n0_; have HO244 := n1_; have BK226 := n2_; have BK234 := n3_; have HB := n4_; clear n0_ n1_ n2_ n3_ n4_; (try clear hb); obtain ⟨Ao61, co61, eo61⟩ := Kd.R_slice HO_5.out; subst eo61) | (go_at_call 25; (with_reducible refine (ivl_Or.calls kj38 _ _ x5_2 _ _ t242 t248 t249 _ ?side1 ?side2 ?side3 ?side4 A50.out).mono ?_); (case side1 => repeat (first | exact (Kd.R_reads' HO_5.out).2.2 | (with_reducible refine Kd.C_alloc ?_ _) | (with_reducible refine Kd.C_drewN ?_ _) | (with_reducible refine Kd.C_drew ?_))); (case side2 => exact (Kd.R_reads' HO_5.out).2.1); (case side3 => repeat (first | exact (Kd.R_reads' HO244.out).2.2 | (with_reducible refine Kd.C_alloc ?_ _) | (with_reducible refine Kd.C_drewN ?_ _) | (with_reducible refine Kd.C_drew ?_))); (case side4 => exact (Kd.R_reads' HO244.out).2.1); rintro e w62 ⟨v250, rfl, ho0, hb⟩; have n0_ := Ax (Kd.R_elder' (by (with_reducible repeat (first | apply Kd.R_alloc | apply Kd.R_drewN | apply Kd.R_drew)); exact HO_5.out) (Kd.R_base ho0) hb); have n1_ := Ax (Kd.R_elder' (by (with_reducible repeat (first | apply Kd.R_alloc | apply Kd.R_drewN | apply Kd.R_drew)); exact HO244.out) (Kd.R_base ho0) hb); have n2_ := Ax (Kd.R_lower (Kd.R_newB (Kd.R_new' (Kd.R_new' ho0 (Kd.R_lt (by (with_reducible repeat (first | apply Kd.R_alloc | apply Kd.R_drewN | apply Kd.R_drew)); exact HO_5.out))) (Kd.R_lt (by (with_reducible repeat (first | apply Kd.R_alloc | apply Kd.R_drewN | apply Kd.R_drew)); exact HO244.out))) (g := gb226) (o := .cells #[.int .i64 a0_0, .int .i64 a0_1] 23 (0, 0)) (bf0 BK226.out)) (below_size (bw2 HB.out GE226.out GE234.out))); have n3_ := Bx0 BK226 hb; have n4_ := Bx0 BK234 hb; have n5_ := Bs2 HB hb GE226.out GE234.out; clear HO_5; clear HO244; clear BK226; clear BK234; clear HB; have HO_5 := n0_; have HO244 := n1_; have HO251 := n2_; have BK226 := n3_; have BK234 := n4_; have HB := n5_; clear n0_ n1_ n2_ n3_ n4_ n5_; (try clear hb); (try clear ho0))); try go_wp2_with (first | (go_at_call 16; (with_reducible refine (line_When.calls kj38 a0_0 a0_1 _ _ l1 ((rd_T52 l1 x31_2).f1.f0) ((rd_T52 l1 x31_2).f1.f1) t242 t245 _ ?side1 ?side2 A48.out).mono ?_); (case side1 => repeat (first | exact (Kd.C_below HR1.out HB.out) | (with_reducible refine Kd.C_alloc ?_ _) | (with_reducible refine Kd.C_drewN ?_ _) | (with_reducible refine Kd.C_drew ?_))); (case side2 => exact HC1.out); rintro e w58 ⟨v243, rfl, ho0, hb⟩; have n0_ := Ax (Kd.R_elder' (by (with_reducible repeat (first | apply Kd.R_alloc | apply Kd.R_drewN | apply Kd.R_drew)); exact HO_5.out) (Kd.R_base ho0) hb); have n1_ := Ax (Kd.R_lower (Kd.R_newB (Kd.R_new' ho0 (Kd.R_lt (by (with_reducible repeat (first | apply Kd.R_alloc | apply Kd.R_drewN | apply Kd.R_drew)); exact HO_5.out))) (g := gb226) (o := .cells #[.int .i64 a0_0, .int .i64 a0_1] 23 (0, 0)) (bf0 BK226.out)) (below_size (bw2 HB.out GE226.out GE234.out))); have n2_ := Bx0 BK226 hb; have n3_ := Bx0 BK234 hb; have n4_ := Bs2 HB hb GE226.out GE234.out; clear HO_5; clear BK226; clear BK234; clear HB; have HO_5 := n0_; have HO244 := n1_; have BK226 := n2_; have BK234 := n3_; have HB := n4_; clear n0_ n1_ n2_ n3_ n4_; (try clear hb); (try clear ho0); obtain ⟨Ao59, co59, eo59⟩ := Kd.R_slice HO244.out; subst eo59) | (go_at_call 24; (with_reducible refine (ivl_Long.calls kj38 _ _ t242 t246 t247 _ ?side1 ?side2 A49.out).mono ?_); (case side1 => repeat (first | exact (Kd.R_reads' HO244.out).2.2 | (with_reducible refine Kd.C_alloc ?_ _) | (with_reducible refine Kd.C_drewN ?_ _) | (with_reducible refine Kd.C_drew ?_))); (case side2 => exact (Kd.R_reads' HO244.out).2.1); rintro e w60 ⟨rfl, hb⟩; have n0_ := Ax (Kd.R_below (by (with_reducible repeat (first | apply Kd.R_alloc | apply Kd.R_drewN | apply Kd.R_drew)); exact HO_5.out) hb); have n1_ := Ax (Kd.R_below (by (with_reducible repeat (first | apply Kd.R_alloc | apply Kd.R_drewN | apply Kd.R_drew)); exact HO244.out) hb); have n2_ := Bx0 BK226 hb; have n3_ := Bx0 BK234 hb; have n4_ := Bs2 HB hb GE226.out GE234.out; clear HO_5; clear HO244; clear BK226; clear BK234; clear HB; have HO_5 := n0_; have HO244 := n1_; have BK226 := n2_; have BK234 := n3_; have HB := n4_; clear n0_ n1_ n2_ n3_ n4_; (try clear hb); obtain ⟨Ao61, co61, eo61⟩ := Kd.R_slice HO_5.out; subst eo61) | (go_at_call 25; (with_reducible refine (ivl_Or.calls kj38 _ _ x5_2 _ _ t242 t248 t249 _ ?side1 ?side2 ?side3 ?side4 A50.out).mono ?_); (case side1 => repeat (first | exact (Kd.R_reads' HO_5.out).2.2 | (with_reducible refine Kd.C_alloc ?_ _) | (with_reducible refine Kd.C_drewN ?_ _) | (with_reducible refine Kd.C_drew ?_))); (case side2 => exact (Kd.R_reads' HO_5.out).2.1); (case side3 => repeat (first | exact (Kd.R_reads' HO244.out).2.2 | (with_reducible refine Kd.C_alloc ?_ _) | (with_reducible refine Kd.C_drewN ?_ _) | (with_reducible refine Kd.C_drew ?_))); (case side4 => exact (Kd.R_reads' HO244.out).2.1); rintro e w62 ⟨v250, rfl, ho0, hb⟩; have n0_ := Ax (Kd.R_elder' (by (with_reducible repeat (first | apply Kd.R_alloc | apply Kd.R_drewN | apply Kd.R_drew)); exact HO_5.out) (Kd.R_base ho0) hb); have n1_ := Ax (Kd.R_elder' (by (with_reducible repeat (first | apply Kd.R_alloc | apply Kd.R_drewN | apply Kd.R_drew)); exact HO244.out) (Kd.R_base ho0) hb); have n2_ := Ax (Kd.R_lower (Kd.R_newB (Kd.R_new' (Kd.R_new' ho0 (Kd.R_lt (by (with_reducible repeat (first | apply Kd.R_alloc | apply Kd.R_drewN | apply Kd.R_drew)); exact HO_5.out))) (Kd.R_lt (by (with_reducible repeat (first | apply Kd.R_alloc | apply Kd.R_drewN | apply Kd.R_drew)); exact HO244.out))) (g := gb226) (o := .cells #[.int .i64 a0_0, .int .i64 a0_1] 23 (0, 0)) (bf0 BK226.out)) (below_size (bw2 HB.out GE226.out GE234.out))); have n3_ := Bx0 BK226 hb; have n4_ := Bx0 BK234 hb; have n5_ := Bs2 HB hb GE226.out GE234.out; clear HO_5; clear HO244; clear BK226; clear BK234; clear HB; have HO_5 := n0_; have HO244 := n1_; have HO251 := n2_; have BK226 := n3_; have BK234 := n4_; have HB := n5_; clear n0_ n1_ n2_ n3_ n4_ n5_; (try clear hb); (try clear ho0))))
                      go_roundg kj38
                      case measure => have := HJ4.out; have := HK2.out; have := HK3.out; have := HJ38.out; omega
                      case rel => exact ⟨(t248), (wrap64 (x6_2 + t246)), (wrap64 (x31_2 + 1)), rS, rS, H', ⟨by have := HJ4.out; have := HK2.out; have := HK3.out; have := HJ38.out; omega⟩, ⟨by (with_reducible repeat (first | apply Kd.R_alloc | apply Kd.R_drewN | apply Kd.R_drew)); exact Kd.R_mono HO251.out (fun _ hk => hk.2)⟩, ⟨bf0 BK226.out⟩, ⟨bw2 HB.out GE226.out GE234.out⟩⟩
                    ·rw [if_neg c53] at H
                     exact absurd H (by simp)
                   ·rw [if_neg c52] at H
                    exact absurd H (by simp)
                  ·rw [if_neg c51] at H
                   exact absurd H (by simp)
          ·rw [if_neg c19] at H
           exact absurd H (by simp)
         ·rw [if_neg c17] at H
          exact absurd H (by simp)
        ·rw [if_neg c16] at H
         exact absurd H (by simp)
       ·rw [if_neg c15] at H
        have c15b0 : decide (x31_2 < (l1.length : Int)) = false := decide_eq_false c15
        clear c15
        obtain ⟨y229, hy229⟩ : ∃ y_ : List (S23), y_ = (([(⟨a0_0, a0_1⟩ : S23)] : List (S23))) := ⟨_, rfl⟩
        replace H : ((spoorref19_Same.f k2 x5_2 y229).bind fun t232 => (if t232 = true then (some (x6_2 == (wrap64 ((wrap64 (a0_1 - a0_0)) + 1)))) else (none))) = some r := by first | (rw [hy229]; with_reducible exact H) | (have H2_ := (Option.bind_some _ _).symm.trans H; rw [hy229]; with_reducible exact H2_) | (have H2_ := (Option.bind_some _ _).symm.trans H; with_reducible exact H2_) | with_reducible exact H | (rw [hy229]; exact H) | exact H
        have Ny229 := Ax hy229
        clear hy229
        replace H := Option.bind_eq_some_iff.mp H
        obtain ⟨t232, A630, H⟩ := H
        replace H : (if t232 = true then (some (x6_2 == (wrap64 ((wrap64 (a0_1 - a0_0)) + 1)))) else (none)) = some r := H
        have A63 := Ax A630
        clear A630
        by_cases c64 : t232 = true
        ·subst c64
         have H1 : (some (x6_2 == (wrap64 ((wrap64 (a0_1 - a0_0)) + 1)))) = some r := by rw [if_pos rfl] at H; exact H
         clear H
         have H := H1
         clear H1
         obtain rfl := Option.some.inj H
         obtain ⟨hcz65_0, hcz65_1, hfz65_0, hfz65_1⟩ := cl2 BK226
         go_wp2_with (first | ((with_reducible refine gate_dst (N := 108) rfl ?_); refine Kd.R_lit k23 _ 23 ?hg (N := 108) ?hd (xs := ([(⟨a0_0, a0_1⟩ : S23)] : List (S23))) (inner := [.int .i64 a0_0, .int .i64 a0_1]) (ok := fun _ => True) (okp := fun _ => True) ?hr ?hp (fun _ hk => hk) trivial (Below.refl _ _) (Nat.le_refl _) (by simp) ?_; (case hd => rfl); (case hg => rfl); (case hr => first | (go_simp; done) | (go_simp; rfl)); (case hp => exact (Reps.c2 (show Kd.M k23 _ _ _ (⟨a0_0, a0_1⟩ : S23) [.int .i64 a0_0, .int .i64 a0_1] from (k23_mkM _ _ _ (⟨a0_0, a0_1⟩ : S23) )) (Reps.none _ _))); intro v230 w66 ho67 hb hg_ hnew_; clear hg_ hnew_; (first | rw [← Ny229.out] at ho67 | (simp only [Int.reduceToNat] at ho67; rw [← Ny229.out] at ho67)); have n0_ := Ax (Kd.R_elder' (by (with_reducible repeat (first | apply Kd.R_alloc | apply Kd.R_drewN | apply Kd.R_drew)); exact HO_5.out) (Kd.R_base ho67) hb); have n1_ := Ax (Kd.R_lower (Kd.R_newB (Kd.R_new' ho67 (Kd.R_lt (by (with_reducible repeat (first | apply Kd.R_alloc | apply Kd.R_drewN | apply Kd.R_drew)); exact HO_5.out))) (g := gb226) (o := .cells #[.int .i64 a0_0, .int .i64 a0_1] 23 (0, 0)) (bf0 BK226.out)) (below_size (bw1 HB.out GE226.out))); have n2_ := Bx0 BK226 hb; have n3_ := Bs1 HB hb GE226.out; clear HO_5; clear BK226; clear HB; have HO_5 := n0_; have HO231 := n1_; have BK226 := n2_; have HB := n3_; clear n0_ n1_ n2_ n3_; clear hb ho67; obtain ⟨Ao68, co68, eo68⟩ := Kd.R_slice HO_5.out; subst eo68; obtain ⟨Ao69, co69, eo69⟩ := Kd.R_slice HO231.out; subst eo69) | (go_at_call 22; (with_reducible refine (spoorref19_Same.calls k2 _ _ x5_2 _ _ y229 true _ ?side1 ?side2 ?side3 ?side4 A63.out).mono ?_); (case side1 => repeat (first | exact (Kd.R_reads' HO_5.out).2.2 | (with_reducible refine Kd.C_alloc ?_ _) | (with_reducible refine Kd.C_drewN ?_ _) | (with_reducible refine Kd.C_drew ?_))); (case side2 => exact (Kd.R_reads' HO_5.out).2.1); (case side3 => repeat (first | exact (Kd.R_reads' HO231.out).2.2 | (with_reducible refine Kd.C_alloc ?_ _) | (with_reducible refine Kd.C_drewN ?_ _) | (with_reducible refine Kd.C_drew ?_))); (case side4 => exact (Kd.R_reads' HO231.out).2.1); rintro e w' ⟨rfl, ⟨nd, rfl⟩⟩; (try first | exact ⟨rfl, _, World.drewN_drewN _ _ _⟩ | exact ⟨rfl, _, Eq.trans (World.drewN_drewN _ _ _) (congrArg (World.drewN _) (Nat.add_assoc _ _ _))⟩); obtain ⟨hcz70_0, hcz70_1, hfz70_0, hfz70_1⟩ := cl2 BK226))
         repeat (go_quiet (first | ((with_reducible refine gate_dst (N := 108) rfl ?_); refine Kd.R_lit k23 _ 23 ?hg (N := 108) ?hd (xs := ([(⟨a0_0, a0_1⟩ : S23)] : List (S23))) (inner := [.int .i64 a0_0, .int .i64 a0_1]) (ok := fun _ => True) (okp := fun _ => True) ?hr ?hp (fun _ hk => hk) trivial (Below.refl _ _) (Nat.le_refl _) (by simp) ?_; (case hd => rfl); (case hg => rfl); (case hr => first | (go_simp; done) | (go_simp; rfl)); (case hp => exact (Reps.c2 (show Kd.M k23 _ _ _ (⟨a0_0, a0_1⟩ : S23) [.int .i64 a0_0, .int .i64 a0_1] from (k23_mkM _ _ _ (⟨a0_0, a0_1⟩ : S23) )) (Reps.none _ _))); intro v230 w66 ho67 hb hg_ hnew_; clear hg_ hnew_; (first | rw [← Ny229.out] at ho67 | (simp only [Int.reduceToNat] at ho67; rw [← Ny229.out] at ho67)); have n0_ := Ax (Kd.R_elder' (by (with_reducible repeat (first | apply Kd.R_alloc | apply Kd.R_drewN | apply Kd.R_drew)); exact HO_5.out) (Kd.R_base ho67) hb); have n1_ := Ax (Kd.R_lower (Kd.R_newB (Kd.R_new' ho67 (Kd.R_lt (by (with_reducible repeat (first | apply Kd.R_alloc | apply Kd.R_drewN | apply Kd.R_drew)); exact HO_5.out))) (g := gb226) (o := .cells #[.int .i64 a0_0, .int .i64 a0_1] 23 (0, 0)) (bf0 BK226.out)) (below_size (bw1 HB.out GE226.out))); have n2_ := Bx0 BK226 hb; have n3_ := Bs1 HB hb GE226.out; clear HO_5; clear BK226; clear HB; have HO_5 := n0_; have HO231 := n1_; have BK226 := n2_; have HB := n3_; clear n0_ n1_ n2_ n3_; clear hb ho67; obtain ⟨Ao68, co68, eo68⟩ := Kd.R_slice HO_5.out; subst eo68; obtain ⟨Ao69, co69, eo69⟩ := Kd.R_slice HO231.out; subst eo69) | (go_at_call 22; (with_reducible refine (spoorref19_Same.calls k2 _ _ x5_2 _ _ y229 true _ ?side1 ?side2 ?side3 ?side4 A63.out).mono ?_); (case side1 => repeat (first | exact (Kd.R_reads' HO_5.out).2.2 | (with_reducible refine Kd.C_alloc ?_ _) | (with_reducible refine Kd.C_drewN ?_ _) | (with_reducible refine Kd.C_drew ?_))); (case side2 => exact (Kd.R_reads' HO_5.out).2.1); (case side3 => repeat (first | exact (Kd.R_reads' HO231.out).2.2 | (with_reducible refine Kd.C_alloc ?_ _) | (with_reducible refine Kd.C_drewN ?_ _) | (with_reducible refine Kd.C_drew ?_))); (case side4 => exact (Kd.R_reads' HO231.out).2.1); rintro e w' ⟨rfl, ⟨nd, rfl⟩⟩; (try first | exact ⟨rfl, _, World.drewN_drewN _ _ _⟩ | exact ⟨rfl, _, Eq.trans (World.drewN_drewN _ _ _) (congrArg (World.drewN _) (Nat.add_assoc _ _ _))⟩); obtain ⟨hcz70_0, hcz70_1, hfz70_0, hfz70_1⟩ := cl2 BK226)); try go_wp2_with (first | ((with_reducible refine gate_dst (N := 108) rfl ?_); refine Kd.R_lit k23 _ 23 ?hg (N := 108) ?hd (xs := ([(⟨a0_0, a0_1⟩ : S23)] : List (S23))) (inner := [.int .i64 a0_0, .int .i64 a0_1]) (ok := fun _ => True) (okp := fun _ => True) ?hr ?hp (fun _ hk => hk) trivial (Below.refl _ _) (Nat.le_refl _) (by simp) ?_; (case hd => rfl); (case hg => rfl); (case hr => first | (go_simp; done) | (go_simp; rfl)); (case hp => exact (Reps.c2 (show Kd.M k23 _ _ _ (⟨a0_0, a0_1⟩ : S23) [.int .i64 a0_0, .int .i64 a0_1] from (k23_mkM _ _ _ (⟨a0_0, a0_1⟩ : S23) )) (Reps.none _ _))); intro v230 w66 ho67 hb hg_ hnew_; clear hg_ hnew_; (first | rw [← Ny229.out] at ho67 | (simp only [Int.reduceToNat] at ho67; rw [← Ny229.out] at ho67)); have n0_ := Ax (Kd.R_elder' (by (with_reducible repeat (first | apply Kd.R_alloc | apply Kd.R_drewN | apply Kd.R_drew)); exact HO_5.out) (Kd.R_base ho67) hb); have n1_ := Ax (Kd.R_lower (Kd.R_newB (Kd.R_new' ho67 (Kd.R_lt (by (with_reducible repeat (first | apply Kd.R_alloc | apply Kd.R_drewN | apply Kd.R_drew)); exact HO_5.out))) (g := gb226) (o := .cells #[.int .i64 a0_0, .int .i64 a0_1] 23 (0, 0)) (bf0 BK226.out)) (below_size (bw1 HB.out GE226.out))); have n2_ := Bx0 BK226 hb; have n3_ := Bs1 HB hb GE226.out; clear HO_5; clear BK226; clear HB; have HO_5 := n0_; have HO231 := n1_; have BK226 := n2_; have HB := n3_; clear n0_ n1_ n2_ n3_; clear hb ho67; obtain ⟨Ao68, co68, eo68⟩ := Kd.R_slice HO_5.out; subst eo68; obtain ⟨Ao69, co69, eo69⟩ := Kd.R_slice HO231.out; subst eo69) | (go_at_call 22; (with_reducible refine (spoorref19_Same.calls k2 _ _ x5_2 _ _ y229 true _ ?side1 ?side2 ?side3 ?side4 A63.out).mono ?_); (case side1 => repeat (first | exact (Kd.R_reads' HO_5.out).2.2 | (with_reducible refine Kd.C_alloc ?_ _) | (with_reducible refine Kd.C_drewN ?_ _) | (with_reducible refine Kd.C_drew ?_))); (case side2 => exact (Kd.R_reads' HO_5.out).2.1); (case side3 => repeat (first | exact (Kd.R_reads' HO231.out).2.2 | (with_reducible refine Kd.C_alloc ?_ _) | (with_reducible refine Kd.C_drewN ?_ _) | (with_reducible refine Kd.C_drew ?_))); (case side4 => exact (Kd.R_reads' HO231.out).2.1); rintro e w' ⟨rfl, ⟨nd, rfl⟩⟩; (try first | exact ⟨rfl, _, World.drewN_drewN _ _ _⟩ | exact ⟨rfl, _, Eq.trans (World.drewN_drewN _ _ _) (congrArg (World.drewN _) (Nat.add_assoc _ _ _))⟩); obtain ⟨hcz70_0, hcz70_1, hfz70_0, hfz70_1⟩ := cl2 BK226)))
         go_ret
         exact ⟨eS, bw1 HB.out GE226.out⟩
        ·replace c64 := Bool.eq_false_iff.mpr c64
         subst c64
         have H1 : (none) = some r := by rw [if_neg (show ¬ (false = true) by decide)] at H; exact H
         clear H
         have H := H1
         clear H1
         exact absurd H (by simp)
 ·replace c4 := Bool.eq_false_iff.mpr c4
  subst c4
  have H1 : (none) = some r := by rw [if_neg (show ¬ (false = true) by decide)] at H; exact H
  clear H
  have H := H1
  clear H1
  exact absurd H (by simp)
end Go.Proofs.Ytghklhdooemjdaa.Q
end
section
namespace Go.Proofs.Ytghklhdooemjdaa.Open
set_option linter.unusedVariables false
open Go.RowKit Go.WideShapes Go.Proofs.YtghklhdooemjdaaW.PrintWords Go.Proofs.YtghklhdooemjdaaW.PrintLast Go.Proofs.YtghklhdooemjdaaW.PrintMore
open Go.Proofs.Ytghklhdooemjdaa.Rows (uptoBulk uptoBulkAll)
def Opens {α : Type} (P : Program) (t : TypeId) (K : Kd α) (wf : α → Prop) (mu : α → Nat) : Prop :=
  ∀ {H : Type} (enc : TypeId × Value → H) (W : World) (spare : Nat → Bool) (held : Bool) (n : Nat) (cs : List Value) (x : DataW H × List MemPlace),
    DataW.trod enc P W 0 spare held n t cs = some x → ∃ a, K.K W a cs ∧ wf a ∧ mu a ≤ uptoBulk x.1
def wfInt (k : IntKind) (n : Int) : Prop := (Lit.int k n).wf = true
def wfAll {α : Type} (wf : α → Prop) (l : List α) : Prop := ∀ a ∈ l, wf a
def mu1 {α : Type} (_ : α) : Nat := 1
def muAll {α : Type} (mu : α → Nat) : List α → Nat
  | [] => 1
  | a :: l => mu a + muAll mu l
theorem wfAll_nil {α : Type} (wf : α → Prop) : wfAll wf [] := fun _ h => by cases h
theorem opens_int {P : Program} {t : TypeId} {k : IntKind} (hu : P.underlying t = some (.int k)) : Opens P t (Kd.int k) (wfInt k) mu1 := by
  intro H enc W spare held n cs x h
  obtain ⟨a, rfl, rfl, hw⟩ := DataW.trod_int hu h
  exact ⟨a, rfl, hw, by simp [mu1, uptoBulk]⟩
theorem opens_list {α H : Type} {P : Program} {e : TypeId} {K : Kd α} {wf : α → Prop} {mu : α → Nat} (he : Opens P e K wf mu) (enc : TypeId × Value → H) (W : World) (spare : Nat → Bool) (held : Bool) (n : Nat) (rd : Nat → Option (List Value)) :
    ∀ (elems : List (DataW H × List MemPlace)) (off : Nat), (∀ i, i < elems.length → (rd (off + i)).bind (DataW.trod enc P W 0 spare held n e) = elems[i]?) →
      ∃ l : List α, l.length = elems.length ∧ (∀ i a, l[i]? = some a → ∃ cs, rd (off + i) = some cs ∧ K.K W a cs) ∧ wfAll wf l ∧ muAll mu l ≤ uptoBulkAll (elems.map (·.1)) + 1
  | [], off, _ => ⟨[], rfl, (fun i a h => by simp at h), wfAll_nil _, by simp [muAll, uptoBulkAll]⟩
  | x :: elems, off, h => by
    have h0 := h 0 (by simp)
    simp only [Nat.add_zero, List.getElem?_cons_zero] at h0
    obtain ⟨cs, hc, ht⟩ := Option.bind_eq_some_iff.1 h0
    obtain ⟨a, hK, hw, hm⟩ := he enc W spare held n cs x ht
    obtain ⟨l, hl, hr, hwf, hmu⟩ := opens_list he enc W spare held n rd elems (off + 1) (fun i hi => by
      have := h (i + 1) (by simp; omega)
      rw [List.getElem?_cons_succ] at this
      rwa [show off + 1 + i = off + (i + 1) by omega])
    refine ⟨a :: l, by simp [hl], ?_, ?_, ?_⟩
    · intro i b hb
      cases i with
      | zero =>
        obtain rfl : a = b := by simpa using hb
        exact ⟨cs, hc, hK⟩
      | succ i =>
        rw [List.getElem?_cons_succ] at hb
        obtain ⟨cs', h1, h2⟩ := hr i b hb
        exact ⟨cs', by rwa [show off + (i + 1) = off + 1 + i by omega], h2⟩
    · intro b hb
      rcases List.mem_cons.1 hb with rfl | hb
      · exact hw
      · exact hwf b hb
    · simp only [muAll, List.map_cons, uptoBulkAll]
      omega
theorem cells_some {W : World} {ad : Addr} {n : Nat} {cs : List Value} (h : W.cells? 0 ad n = some cs) : cs.length = n ∧ ∀ i u, cs[i]? = some u → W.cell? (ad.add i) = some u := by
  obtain ⟨_, hl, hc⟩ := World.cells?_some h
  refine ⟨hl, fun i u hi => ?_⟩
  rw [hc i (by rw [← hl]; exact (List.getElem?_eq_some_iff.1 hi).1)]
  exact hi
theorem opens_slice {α : Type} {P : Program} {t e : TypeId} {K : Kd α} {wf : α → Prop} {mu : α → Nat} (he : Opens P e K wf mu) (hu : P.underlying t = some (.slice e)) (hsz : P.cellsOf e = K.sz) (e' : Nat) :
    Opens P t (Kd.slice e' K) (fun l => wfAll wf l ∧ l.length ≤ maxLen) (muAll mu) := by
  intro H enc W spare held n cs x h
  rcases DataW.trod_slice hu h with ⟨rfl, rfl⟩ | ⟨a, len, cap, elems, rest, m, rfl, rfl, rfl, _, hlc, hcm, hel, hrd, _, _⟩
  · exact ⟨[], ⟨none, 0, rfl, Nat.le_refl _, rfl, Nat.zero_le _, fun h => absurd h (Nat.lt_irrefl _)⟩, ⟨wfAll_nil _, by simp⟩, by simp [muAll, uptoBulk]⟩
  · obtain ⟨l, hl, hr, hw, hm⟩ := opens_list he enc W spare held m (fun i => W.cells? 0 (a.add (i * P.cellsOf e)) (P.cellsOf e)) elems 0 (fun i hi => by
      rw [Nat.zero_add]
      exact hrd i (by omega))
    refine ⟨l, ⟨some a, cap, by rw [hl, hel], by omega, ?_⟩, ⟨hw, by omega⟩, ?_⟩
    · refine ⟨rfl, by simp only [maxLen] at hcm; omega, fun _ => ⟨a, rfl, fun j p hp => ?_⟩⟩
      obtain ⟨cs, hc, hK⟩ := hr j p hp
      rw [Nat.zero_add] at hc
      obtain ⟨h1, h2⟩ := cells_some hc
      refine ⟨cs, by rw [h1, hsz], hK, fun i u hi => ?_⟩
      have := h2 i u hi
      rwa [Addr.add_add, hsz] at this
    · simp only [uptoBulk]
      omega
theorem sized_row {H : Type} {enc : TypeId × Value → H} {P : Program} {W : World} {base : Nat} {spare : Nat → Bool} {held : Bool} {t e : TypeId} {a : Option Addr} {len cap : Nat} {d : DataW H} {ps : List MemPlace} {ts : List TypeId} {ds : List (DataW H)} {j : Nat}
    (hsz : (DataW.weightsEach P ts ds).all (· ≤ reachBytes) = true) (ht : ts[j]? = some t) (hd : ds[j]? = some d) (hu : P.underlying t = some (.slice e)) {B : Nat} (hB : P.bytesOf e = B)
    (h : DataW.Trod enc P W base spare held t (.slice a len cap) d ps) : len * B ≤ 140737488351232 := by
  obtain ⟨fuel, hf⟩ := h
  rcases DataW.trod_slice hu hf with ⟨hcs, _⟩ | ⟨a', len', cap', elems, rest, m, _, hcs, hx, _, hlc, hcm, hel, hrd, _, _⟩
  · simp [Value.cells] at hcs
    obtain ⟨rfl, rfl, rfl⟩ := hcs
    simp
  · simp [Value.cells] at hcs
    obtain ⟨rfl, rfl, rfl⟩ := hcs
    obtain ⟨hx, _⟩ := Prod.mk.inj hx
    subst hx
    have z := sized_slice hsz ht hd hu
    rw [hB] at z
    exact Nat.le_trans (Nat.mul_le_mul_right _ (by simp only [List.length_map]; omega)) z
end Go.Proofs.Ytghklhdooemjdaa.Open
end
section
namespace Go.Proofs.Ytghklhdooemjdaa.Q
set_option linter.unusedVariables false
set_option linter.unusedSimpArgs false
open Go.RowKit Go.Proofs.YtghklhdooemjdaaW.PrintWords Go.Proofs.YtghklhdooemjdaaW.PrintLast Go.Proofs.YtghklhdooemjdaaW.PrintMore Go.Proofs.Ytghklhdooemjdaa.Open
open Go.Proofs.Ytghklhdooemjdaa.Rows (uptoBulk uptoBulkAll)
def wf23 (x : S23) : Prop := (wfInt .i64) x.f0 ∧ (wfInt .i64) x.f1
def mu23 (x : S23) : Nat := mu1 x.f0 + mu1 x.f1 + 1
set_option maxRecDepth 100000 in
theorem opn23 : Opens Try.prog 23 k23 wf23 mu23 := by
  intro H enc W spare held n cs x h
  obtain ⟨xs, m, rfl, rfl, hl, hs, hf⟩ := DataW.trod_struct Try.underlying23 h
  have hc : cs.length = 2 := hl.trans (by kernel_rfl)
  have hx : xs.length = 2 := hs
  clear hl hs h
  match cs, hc, xs, hx, hf with
  | [c0, c1], _, [y0, y1], _, hf =>
    have e0 : Try.prog.cellsOf 2 = 1 := by kernel_rfl
    have e1 : Try.prog.cellsOf 2 = 1 := by kernel_rfl
    have g0 := hf 0 _ rfl
    simp only [List.getElem_toArray, List.getElem_cons_zero, List.getElem_cons_succ, e0] at g0
    obtain ⟨a0, K0, w0, m0⟩ := (opens_int Try.underlying2) enc W spare held m [c0] y0 g0
    have g1 := hf 1 _ rfl
    simp only [List.getElem_toArray, List.getElem_cons_zero, List.getElem_cons_succ, e1] at g1
    obtain ⟨a1, K1, w1, m1⟩ := (opens_int Try.underlying2) enc W spare held m [c1] y1 g1
    exact ⟨⟨a0, a1⟩, ⟨[c0], [c1], rfl, K0, K1⟩, ⟨w0, w1⟩, by simp only [mu23, List.map_cons, List.map_nil, uptoBulk, uptoBulkAll]; omega⟩
def wf35 (x : S35) : Prop := (wfInt .u8) x.f0 ∧ (wfInt .i64) x.f1
def mu35 (x : S35) : Nat := mu1 x.f0 + mu1 x.f1 + 1
set_option maxRecDepth 100000 in
theorem opn35 : Opens Try.prog 35 k35 wf35 mu35 := by
  intro H enc W spare held n cs x h
  obtain ⟨xs, m, rfl, rfl, hl, hs, hf⟩ := DataW.trod_struct Try.underlying35 h
  have hc : cs.length = 2 := hl.trans (by kernel_rfl)
  have hx : xs.length = 2 := hs
  clear hl hs h
  match cs, hc, xs, hx, hf with
  | [c0, c1], _, [y0, y1], _, hf =>
    have e0 : Try.prog.cellsOf 33 = 1 := by kernel_rfl
    have e1 : Try.prog.cellsOf 3 = 1 := by kernel_rfl
    have g0 := hf 0 _ rfl
    simp only [List.getElem_toArray, List.getElem_cons_zero, List.getElem_cons_succ, e0] at g0
    obtain ⟨a0, K0, w0, m0⟩ := (opens_int Try.underlying33) enc W spare held m [c0] y0 g0
    have g1 := hf 1 _ rfl
    simp only [List.getElem_toArray, List.getElem_cons_zero, List.getElem_cons_succ, e1] at g1
    obtain ⟨a1, K1, w1, m1⟩ := (opens_int Try.underlying3) enc W spare held m [c1] y1 g1
    exact ⟨⟨a0, a1⟩, ⟨[c0], [c1], rfl, K0, K1⟩, ⟨w0, w1⟩, by simp only [mu35, List.map_cons, List.map_nil, uptoBulk, uptoBulkAll]; omega⟩
def wf52 (x : S52) : Prop := wf23 x.f0 ∧ wf35 x.f1
def mu52 (x : S52) : Nat := mu23 x.f0 + mu35 x.f1 + 1
set_option maxRecDepth 100000 in
theorem opn52 : Opens Try.prog 52 k52 wf52 mu52 := by
  intro H enc W spare held n cs x h
  obtain ⟨xs, m, rfl, rfl, hl, hs, hf⟩ := DataW.trod_struct Try.underlying52 h
  have hc : cs.length = 4 := hl.trans (by kernel_rfl)
  have hx : xs.length = 2 := hs
  clear hl hs h
  match cs, hc, xs, hx, hf with
  | [c0, c1, c2, c3], _, [y0, y1], _, hf =>
    have e0 : Try.prog.cellsOf 23 = 2 := by kernel_rfl
    have e1 : Try.prog.cellsOf 35 = 2 := by kernel_rfl
    have g0 := hf 0 _ rfl
    simp only [List.getElem_toArray, List.getElem_cons_zero, List.getElem_cons_succ, e0] at g0
    obtain ⟨a0, K0, w0, m0⟩ := opn23 enc W spare held m [c0, c1] y0 g0
    have g1 := hf 1 _ rfl
    simp only [List.getElem_toArray, List.getElem_cons_zero, List.getElem_cons_succ, e1] at g1
    obtain ⟨a1, K1, w1, m1⟩ := opn35 enc W spare held m [c2, c3] y1 g1
    exact ⟨⟨a0, a1⟩, ⟨[c0, c1], [c2, c3], rfl, K0, K1⟩, ⟨w0, w1⟩, by simp only [mu52, List.map_cons, List.map_nil, uptoBulk, uptoBulkAll]; omega⟩
end Go.Proofs.Ytghklhdooemjdaa.Q
end
section
namespace Go.Proofs.Ytghklhdooemjdaa.Q
set_option linter.unusedVariables false
open Go.RowKit Go.Proofs.YtghklhdooemjdaaW.PrintWords Go.Proofs.YtghklhdooemjdaaW.PrintLast Go.Proofs.YtghklhdooemjdaaW.PrintMore Go.Proofs.Ytghklhdooemjdaa.Open
def spoorlaw20_LineWhole.Pure : Prop := ∀ (a0_0 : Int) (a0_1 : Int) (l1 : List (S52)), wf23 (⟨a0_0, a0_1⟩ : S23) → (fun l => wfAll wf52 l ∧ l.length ≤ maxLen) l1 → l1.length * 32 ≤ 140737488351232 → ∃ k, spoorlaw20_LineWhole.f k a0_0 a0_1 l1 = some true
end Go.Proofs.Ytghklhdooemjdaa.Q
end
section
namespace Go.Proofs.Ytghklhdooemjdaa.Base
set_option linter.unusedVariables false
open Go.RowKit Go.Proofs.YtghklhdooemjdaaW.PrintWords Go.Proofs.YtghklhdooemjdaaW.PrintLast Go.Proofs.YtghklhdooemjdaaW.PrintMore
theorem Ev.pos {α : Type} {c : Prop} [Decidable c] {f g : Nat → Option α} {r : α} (h : c) (k : Ev f r) : Ev (fun n => if c then f n else g n) r := Ev.congr (fun _ => if_pos h) k
theorem Ev.neg {α : Type} {c : Prop} [Decidable c] {f g : Nat → Option α} {r : α} (h : ¬ c) (k : Ev g r) : Ev (fun n => if c then f n else g n) r := Ev.congr (fun _ => if_neg h) k
theorem Ev.const {α : Type} {o : Option α} {r : α} (h : o = some r) : Ev (fun _ => o) r := ⟨0, fun _ _ => h⟩
theorem Ev.succ {α : Type} {g : Nat → Option α} {r : α} (h : Ev (fun k => g (k + 1)) r) : Ev g r := Ev.step (fun _ => rfl) h
theorem Ev.to {α : Type} {g : Nat → Option α} {r q : α} (h : Ev g r) (e : r = q) : Ev g q := e ▸ h
theorem w64 {n : Int} (h0 : -9223372036854775808 ≤ n) (h1 : n ≤ 9223372036854775807) : wrap64 n = n := by unfold wrap64; omega
theorem wf_i64 {n : Int} (h : (Lit.int .i64 n).wf = true) : -9223372036854775808 ≤ n ∧ n ≤ 9223372036854775807 := by
  have h1 : IntKind.i64.min ≤ n ∧ n ≤ IntKind.i64.max := by simpa [Lit.wf] using h
  have a : IntKind.i64.min = -9223372036854775808 := by decide
  have b : IntKind.i64.max = 9223372036854775807 := by decide
  omega
def Bytes (l : List Int) : Prop := ∀ x ∈ l, 0 ≤ x ∧ x < 256
theorem Bytes.nil : Bytes [] := fun _ h => by cases h
theorem Bytes.cons {x : Int} {l : List Int} (h0 : 0 ≤ x) (h1 : x < 256) (h : Bytes l) : Bytes (x :: l) := fun y hy => by
  rcases List.mem_cons.1 hy with rfl | hy
  · exact ⟨h0, h1⟩
  · exact h y hy
theorem Bytes.head {x : Int} {l : List Int} (h : Bytes (x :: l)) : 0 ≤ x ∧ x < 256 := h x (by simp)
theorem Bytes.tail {x : Int} {l : List Int} (h : Bytes (x :: l)) : Bytes l := fun y hy => h y (by simp [hy])
theorem Bytes.append {a b : List Int} (ha : Bytes a) (hb : Bytes b) : Bytes (a ++ b) := fun x hx => (List.mem_append.1 hx).elim (ha x) (hb x)
theorem Bytes.right {a b : List Int} (h : Bytes (a ++ b)) : Bytes b := fun x hx => h x (by simp [hx])
theorem Bytes.drop {l : List Int} (h : Bytes l) (n : Nat) : Bytes (l.drop n) := fun x hx => h x (List.mem_of_mem_drop hx)
theorem Bytes.take {l : List Int} (h : Bytes l) (n : Nat) : Bytes (l.take n) := fun x hx => h x (List.mem_of_mem_take hx)
end Go.Proofs.Ytghklhdooemjdaa.Base
end
section
namespace Go.Proofs.Ytghklhdooemjdaa.Line
set_option linter.unusedVariables false
open Go.RowKit Go.Proofs.Ytghklhdooemjdaa.Q Go.Proofs.YtghklhdooemjdaaW.PrintWords Go.Proofs.YtghklhdooemjdaaW.PrintLast Go.Proofs.Ytghklhdooemjdaa.Base Go.Proofs.Ytghklhdooemjdaa.Open
abbrev Iv := S23
abbrev Er := S52
abbrev Vd := S35
abbrev Rn := S102
theorem dlt {α : Type} {l : List α} {i : Nat} {c : α} {m : List α} (h : l.drop i = c :: m) : i < l.length := by
  have := congrArg List.length h
  simp at this
  omega
theorem dnext {α : Type} {l : List α} {i : Nat} {x : α} {r : List α} (h : l.drop i = x :: r) : l.drop (i + 1) = r := by rw [← List.drop_drop, h]; rfl
theorem rdV {l : List Er} {i : Nat} {x : Er} {r : List Er} (h : l.drop i = x :: r) : rd_T52 l (i : Int) = x := by
  have e : l[i]? = some x := by rw [← List.head?_drop, h]; rfl
  simp [rd_T52, List.getD_eq_getElem?_getD, e]
theorem rdI {l : List Iv} {i : Nat} {x : Iv} {r : List Iv} (h : l.drop i = x :: r) : rd_T23 l (i : Int) = x := by
  have e : l[i]? = some x := by rw [← List.head?_drop, h]; rfl
  simp [rd_T23, List.getD_eq_getElem?_getD, e]
def runOf (x : Iv) : Rn := ⟨x.f0, x.f1⟩
theorem runs_l (l : List Iv) (hl : l.length ≤ 17592186044416) : ∀ (r : List Iv) (i : Nat) (a : List Rn), l.drop i = r → a.length = i → i ≤ l.length →
    Ev (fun k => ivl_runs.l0 k (a ++ List.replicate (l.length - i) z102) l (l.length : Int) (i : Int)) (a ++ r.map runOf)
  | [], i, a, hd, ha, hi => by
    have h1 : l.length ≤ i := List.drop_eq_nil_iff.1 hd
    refine Ev.succ ?_
    simp only [ivl_runs.l0]
    refine Ev.neg (by omega) (Ev.const ?_)
    rw [show l.length - i = 0 by omega]
    rfl
  | x :: r, i, a, hd, ha, hi => by
    have hlt := dlt hd
    refine Ev.succ ?_
    simp only [ivl_runs.l0, rdI hd]
    refine Ev.pos (by omega) (Ev.pos (by omega) (Ev.pos (by omega) (Ev.pos (by rw [List.length_append, List.length_replicate]; omega) ?_)))
    rw [w64 (by omega) (by omega), show ((i : Int) + 1) = ((i + 1 : Nat) : Int) by omega, Int.toNat_natCast]
    have e : (a ++ List.replicate (l.length - i) z102).set i (⟨x.f0, x.f1⟩ : Rn) = (a ++ [runOf x]) ++ List.replicate (l.length - (i + 1)) z102 := by
      rw [show l.length - i = (l.length - (i + 1)) + 1 by omega, List.replicate_succ, List.set_append_right _ _ (by omega), ha, Nat.sub_self, List.append_assoc]
      rfl
    rw [e]
    refine Ev.to (runs_l l hl r (i + 1) (a ++ [runOf x]) (dnext hd) (by simp [ha]) (by omega)) ?_
    rw [List.append_assoc]
    rfl
theorem runs_ev (l : List Iv) (hl : l.length ≤ 17592186044416) : Ev (fun k => ivl_runs.f k l) (l.map runOf) := by
  simp only [ivl_runs.f, Int.toNat_natCast]
  refine Ev.pos (by omega) (Ev.pos hl ?_)
  exact runs_l l hl l 0 [] rfl rfl (Nat.zero_le _)
theorem ivl_ev (l : List Iv) : Ev (fun k => ivl_Check.f k l) (if l.length ≤ 1024 ∧ soundL none (l.map runOf) = true then 0 else 2) := by
  simp only [ivl_Check.f]
  by_cases h : 1024 < (l.length : Int)
  · rw [if_neg (by omega)]
    exact Ev.pos h (Ev.const rfl)
  · refine Ev.neg h (Ev.bind (runs_ev l (by omega)) (Ev.const ?_))
    by_cases s : soundL none (l.map runOf) = true
    · rw [if_pos s, if_pos ⟨by omega, s⟩]
    · rw [if_neg s, if_neg (fun hh => s hh.2)]
def winP (a b : Int) : Prop := 0 ≤ a ∧ a ≤ b ∧ b ≤ 1099511627776
instance (a b : Int) : Decidable (winP a b) := by unfold winP; infer_instance
theorem win_ev (a b : Int) : Ev (fun k => line_window.f k a b) (decide (winP a b)) := by
  simp only [line_window.f]
  refine Ev.bind (ivl_ev _) (Ev.const ?_)
  have e : soundL none (List.map runOf [(⟨a, b⟩ : Iv)]) = decide (winP a b) := by
    show (if a < 0 ∨ b < a ∨ 1099511627776 < b then false else true) = _
    by_cases h : winP a b
    · rw [if_neg (by unfold winP at h; omega), decide_eq_true h]
    · rw [if_pos (by unfold winP at h; omega), decide_eq_false h]
  rw [e]
  by_cases h : winP a b
  · rw [decide_eq_true h, if_pos ⟨by simp, rfl⟩]; rfl
  · rw [decide_eq_false h, if_neg (fun hh => by cases hh.2)]; rfl
def stepB (w1 : Int) (p : Option Er) (x : Er) : Bool := rightB x.f1 && decide (x.f0.f0 ≤ x.f0.f1) && decide (x.f0.f1 ≤ w1) && (match p with
  | none => true
  | some q => decide (x.f0.f0 - 1 = q.f0.f1) && !(x.f1.f0 == q.f1.f0 && x.f1.f1 == q.f1.f1))
def chkB (w1 : Int) : Option Er → List Er → Bool
  | _, [] => true
  | p, x :: xs => stepB w1 p x && chkB w1 (some x) xs
def prevOf (l : List Er) (i : Nat) : Option Er := if i = 0 then none else l[i - 1]?
def ec (b : Bool) : Int := if b = true then 0 else 2
theorem j2_no (l m : List Er) (i n j a b c d e f : Int) : Ev (fun k => line_Check.j2 k l i m n j true a b c d e f) 2 := by
  refine Ev.succ ?_
  simp only [line_Check.j2]
  exact Ev.pos trivial (Ev.const rfl)
def bndE (x : Er) : Prop := -9223372036854775808 ≤ x.f0.f0 ∧ x.f0.f0 ≤ 9223372036854775807 ∧ -9223372036854775808 ≤ x.f0.f1 ∧ x.f0.f1 ≤ 9223372036854775807
theorem wf_era {x : Er} (h : wf52 x) : bndE x := by
  unfold bndE
  obtain ⟨⟨h1, h2⟩, _⟩ := h
  have a := wf_i64 h1
  have b := wf_i64 h2
  omega
theorem chk_l (l : List Er) (hw : ∀ x ∈ l, bndE x) (hl : l.length ≤ 1024) (w0 w1 : Int) (hw1 : w1 ≤ 1099511627776) : ∀ (r : List Er) (i : Nat), l.drop i = r → (∀ q, prevOf l i = some q → q.f0.f1 ≤ w1) → Ev (fun k => line_Check.l0 k l l (l.length : Int) (i : Int) w0 w1) (ec (chkB w1 (prevOf l i) r))
  | [], i, hd, hpv => by
    have h1 : l.length ≤ i := List.drop_eq_nil_iff.1 hd
    refine Ev.succ ?_
    simp only [line_Check.l0]
    exact Ev.neg (by omega) (Ev.const rfl)
  | x :: r, i, hd, hpv => by
    have hlt := dlt hd
    have hxb := hw x (List.mem_of_mem_drop (i := i) (by rw [hd]; simp))
    unfold bndE at hxb
    have hp : prevOf l (i + 1) = some x := by
      unfold prevOf
      rw [if_neg (by omega), Nat.add_sub_cancel, ← List.head?_drop, hd]
      rfl
    have ih : x.f0.f1 ≤ w1 → Ev (fun k => line_Check.l0 k l l (l.length : Int) ((i + 1 : Nat) : Int) w0 w1) (ec (chkB w1 (some x) r)) := fun hx1 => by
      have := chk_l l hw hl w0 w1 hw1 r (i + 1) (dnext hd) (fun q hq => by rw [hp] at hq; cases hq; exact hx1)
      rwa [hp] at this
    refine Ev.succ ?_
    simp only [line_Check.l0, rdV hd]
    refine Ev.pos (by omega) (Ev.pos (by omega) (Ev.pos (by omega) ?_))
    rw [right_some]
    simp only [Option.bind_some, chkB]
    by_cases h1 : rightB x.f1 = true
    · refine Ev.pos h1 ?_
      by_cases h2 : x.f0.f1 < x.f0.f0
      · have e : stepB w1 (prevOf l i) x = false := by unfold stepB; rw [decide_eq_false (show ¬ x.f0.f0 ≤ x.f0.f1 by omega)]; simp
        rw [e]
        exact Ev.pos h2 (j2_no ..)
      · refine Ev.neg h2 ?_
        by_cases h3 : x.f0.f1 > w1
        · have e : stepB w1 (prevOf l i) x = false := by unfold stepB; rw [decide_eq_false (show ¬ x.f0.f1 ≤ w1 by omega)]; simp
          rw [e, decide_eq_true h3]
          exact j2_no ..
        · rw [decide_eq_false h3]
          refine Ev.succ ?_
          simp only [line_Check.j2]
          refine Ev.neg (by simp) ?_
          by_cases h4 : (i : Int) > 0
          · refine Ev.pos h4 ?_
            obtain ⟨q, hq⟩ : ∃ q, l[i - 1]? = some q := ⟨_, List.getElem?_eq_getElem (by omega)⟩
            have hpq : prevOf l i = some q := by unfold prevOf; rw [if_neg (by omega)]; exact hq
            have hqb := hw q (List.mem_of_getElem? hq)
            unfold bndE at hqb
            have hrd : rd_T52 l (wrap64 ((i : Int) - 1)) = q := by
              rw [w64 (by omega) (by omega), show ((i : Int) - 1) = ((i - 1 : Nat) : Int) by omega]
              simp [rd_T52, List.getD_eq_getElem?_getD, hq]
            rw [hpq, hrd]
            refine Ev.pos (by rw [w64 (by omega) (by omega)]; omega) (Ev.pos (by rw [w64 (by omega) (by omega)]; omega) ?_)
            have hs : stepB w1 (some q) x = (decide (x.f0.f0 - 1 = q.f0.f1) && !(x.f1.f0 == q.f1.f0 && x.f1.f1 == q.f1.f1)) := by
              unfold stepB
              rw [h1, decide_eq_true (show x.f0.f0 ≤ x.f0.f1 by omega), decide_eq_true (show x.f0.f1 ≤ w1 by omega)]
              simp
            rw [hs]
            by_cases h5 : x.f0.f0 - 1 = q.f0.f1
            · refine Ev.pos (by rw [w64 (by omega) (by omega)]; exact h5) ?_
              rw [decide_eq_true h5]
              by_cases h6 : (x.f1.f0 == q.f1.f0 && x.f1.f1 == q.f1.f1) = true
              · rw [h6]
                exact Ev.pos rfl (Ev.const rfl)
              · refine Ev.neg h6 ?_
                rw [Bool.eq_false_iff.2 h6, w64 (by omega) (by omega), show ((i : Int) + 1) = ((i + 1 : Nat) : Int) by omega]
                exact ih (by omega)
            · rw [decide_eq_false h5]
              refine Ev.neg (fun hh => ?_) (Ev.const rfl)
              rcases Int.lt_or_le x.f0.f0 (-9223372036854775807) with hm | hm
              · have e1 : x.f0.f0 = -9223372036854775808 := by omega
                rw [e1] at hh
                have e2 : wrap64 (-9223372036854775808 - 1) = 9223372036854775807 := by unfold wrap64; omega
                rw [e2] at hh
                have := hpv q hpq
                omega
              · rw [w64 (by omega) (by omega)] at hh
                exact h5 hh
          · refine Ev.neg h4 ?_
            obtain rfl : i = 0 := by omega
            have hs : stepB w1 (prevOf l 0) x = true := by
              unfold stepB prevOf
              rw [h1, decide_eq_true (show x.f0.f0 ≤ x.f0.f1 by omega), decide_eq_true (show x.f0.f1 ≤ w1 by omega)]
              rfl
            rw [hs, w64 (by omega) (by omega)]
            exact ih (by omega)
    · refine Ev.neg h1 ?_
      have e : stepB w1 (prevOf l i) x = false := by unfold stepB; rw [Bool.eq_false_iff.2 h1]; simp
      rw [e]
      exact j2_no ..
def lineB (w0 w1 : Int) (l : List Er) : Bool := decide (winP w0 w1) && decide (0 < l.length) && decide (l.length ≤ 1024) && decide ((rd_T52 l 0).f0.f0 = w0) && decide ((rd_T52 l ((l.length - 1 : Nat) : Int)).f0.f1 = w1) && chkB w1 none l
theorem j0_no (l : List Er) (a b : Int) : Ev (fun k => line_Check.j0 k l true a b) 2 := by
  refine Ev.succ ?_
  simp only [line_Check.j0]
  exact Ev.pos trivial (Ev.const rfl)
theorem check_ev (l : List Er) (hw : ∀ x ∈ l, bndE x) (w0 w1 : Int) : Ev (fun k => line_Check.f k w0 w1 l) (ec (lineB w0 w1 l)) := by
  simp only [line_Check.f]
  refine Ev.bind (win_ev w0 w1) ?_
  by_cases c0 : winP w0 w1
  case neg =>
    have e : lineB w0 w1 l = false := by unfold lineB; rw [decide_eq_false c0]; simp
    rw [e, decide_eq_false c0]
    exact Ev.neg (by simp) (j0_no ..)
  rw [decide_eq_true c0]
  refine Ev.pos rfl ?_
  by_cases c1 : l.length = 0
  · have e : lineB w0 w1 l = false := by unfold lineB; rw [decide_eq_false (show ¬ 0 < l.length by omega)]; simp
    rw [e]
    exact Ev.pos (by omega) (j0_no ..)
  refine Ev.neg (by omega) ?_
  by_cases c2 : l.length ≤ 1024
  case neg =>
    have e : lineB w0 w1 l = false := by unfold lineB; rw [decide_eq_false c2]; simp
    rw [e]
    exact Ev.pos (by omega) (j0_no ..)
  refine Ev.neg (by omega) (Ev.pos (by omega) ?_)
  by_cases c3 : (rd_T52 l 0).f0.f0 = w0
  case neg =>
    have e : lineB w0 w1 l = false := by unfold lineB; rw [decide_eq_false c3]; simp
    rw [e]
    exact Ev.neg c3 (j0_no ..)
  refine Ev.pos c3 ?_
  rw [w64 (by omega) (by omega), show ((l.length : Int) - 1) = ((l.length - 1 : Nat) : Int) by omega]
  refine Ev.pos (by omega) (Ev.pos (by omega) ?_)
  by_cases c4 : (rd_T52 l ((l.length - 1 : Nat) : Int)).f0.f1 = w1
  case neg =>
    have e : lineB w0 w1 l = false := by unfold lineB; rw [decide_eq_false c4]; simp
    rw [e, bne_iff_ne.mpr c4]
    exact j0_no ..
  have e : lineB w0 w1 l = chkB w1 none l := by
    unfold lineB
    rw [decide_eq_true c0, decide_eq_true (show 0 < l.length by omega), decide_eq_true c2, decide_eq_true c3, decide_eq_true c4]
    simp
  rw [e, c4, bne_self_eq_false]
  refine Ev.succ ?_
  simp only [line_Check.j0]
  refine Ev.neg (by simp) ?_
  exact chk_l l hw c2 w0 w1 (by unfold winP at c0; omega) l 0 rfl (fun q hq => by simp [prevOf] at hq)
def cont : Int → List Er → Option Int
  | f, [] => some f
  | f, x :: xs => if x.f0.f0 = f ∧ f ≤ x.f0.f1 ∧ rightB x.f1 = true then cont (x.f0.f1 + 1) xs else none
def sameV (a b : Vd) : Prop := a.f0 = b.f0 ∧ a.f1 = b.f1
instance (a b : Vd) : Decidable (sameV a b) := by unfold sameV; infer_instance
theorem sameV_eq {a b : Vd} (h : sameV a b) : a = b := by
  obtain ⟨h1, h2⟩ := h
  cases a; cases b
  simp only at h1 h2
  rw [h1, h2]
def alt : Option Vd → List Er → Prop
  | _, [] => True
  | none, x :: xs => alt (some x.f1) xs
  | some v, x :: xs => ¬ sameV x.f1 v ∧ alt (some x.f1) xs
theorem cont_le : ∀ (l : List Er) (f a : Int), cont f l = some a → f ≤ a
  | [], f, a, h => by
    obtain rfl := Option.some.inj h
    omega
  | x :: xs, f, a, h => by
    unfold cont at h
    by_cases c : x.f0.f0 = f ∧ f ≤ x.f0.f1 ∧ rightB x.f1 = true
    · rw [if_pos c] at h
      have := cont_le xs _ a h
      omega
    · rw [if_neg c] at h
      cases h
theorem cont_init : ∀ (l : List Er) (f a : Int) (x : Er), cont f (l ++ [x]) = some a → ∃ b, cont f l = some b ∧ x.f0.f0 = b ∧ b ≤ x.f0.f1 ∧ rightB x.f1 = true ∧ a = x.f0.f1 + 1
  | [], f, a, x, h => by
    simp only [List.nil_append, cont] at h
    by_cases c : x.f0.f0 = f ∧ f ≤ x.f0.f1 ∧ rightB x.f1 = true
    · rw [if_pos c] at h
      exact ⟨f, rfl, c.1, c.2.1, c.2.2, (Option.some.inj h).symm⟩
    · rw [if_neg c] at h
      cases h
  | y :: ys, f, a, x, h => by
    rw [List.cons_append] at h
    unfold cont at h
    by_cases c : y.f0.f0 = f ∧ f ≤ y.f0.f1 ∧ rightB y.f1 = true
    · rw [if_pos c] at h
      obtain ⟨b, h1, h2⟩ := cont_init ys _ a x h
      refine ⟨b, ?_, h2⟩
      unfold cont
      rw [if_pos c]
      exact h1
    · rw [if_neg c] at h
      cases h
structure LineOk (w0 w1 : Int) (l : List Er) : Prop where
  win : winP w0 w1
  ne : l ≠ []
  len : l.length ≤ 1024
  cont : cont w0 l = some (w1 + 1)
  alt : alt none l
def afterE : Option Er → Int → Prop
  | none, _ => True
  | some q, f => f = q.f0.f1 + 1
theorem chk_iff (w1 : Int) : ∀ (l : List Er) (p : Option Er), chkB w1 p l = true ↔
    (l = [] ∨ ∃ x xs a, l = x :: xs ∧ afterE p x.f0.f0 ∧ cont x.f0.f0 l = some a ∧ alt (p.map (·.f1)) l ∧ a ≤ w1 + 1)
  | [], p => by simp [chkB]
  | x :: xs, p => by
    have ih := chk_iff w1 xs (some x)
    have e1 : cont x.f0.f0 (x :: xs) = if x.f0.f0 ≤ x.f0.f1 ∧ rightB x.f1 = true then cont (x.f0.f1 + 1) xs else none := by
      show (if x.f0.f0 = x.f0.f0 ∧ x.f0.f0 ≤ x.f0.f1 ∧ rightB x.f1 = true then cont (x.f0.f1 + 1) xs else none) = _
      simp
    simp only [chkB, Bool.and_eq_true, ih]
    constructor
    · rintro ⟨hs, hr⟩
      right
      unfold stepB at hs
      simp only [Bool.and_eq_true, decide_eq_true_eq] at hs
      obtain ⟨⟨⟨h1, h2⟩, h3⟩, h4⟩ := hs
      have hp : afterE p x.f0.f0 ∧ ∀ v, p.map (·.f1) = some v → ¬ sameV x.f1 v := by
        cases p with
        | none => exact ⟨trivial, fun v hv => by cases hv⟩
        | some q =>
          simp only [Bool.and_eq_true, decide_eq_true_eq, Bool.not_eq_true', Bool.and_eq_false_iff, beq_eq_false_iff_ne] at h4
          refine ⟨show x.f0.f0 = q.f0.f1 + 1 by omega, fun v hv => ?_⟩
          obtain rfl : q.f1 = v := Option.some.inj hv
          rintro ⟨g1, g2⟩
          rcases h4.2 with h | h
          · exact h g1
          · exact h g2
      have halt : ∀ ys, alt (some x.f1) ys → alt (p.map (·.f1)) (x :: ys) := fun ys hy => by
        cases hpm : p.map (·.f1) with
        | none => exact hy
        | some v => exact ⟨hp.2 v hpm, hy⟩
      rcases hr with rfl | ⟨y, ys, a, rfl, hy1, hy2, hy3, hy4⟩
      · exact ⟨x, [], x.f0.f1 + 1, rfl, hp.1, by rw [e1, if_pos ⟨h2, h1⟩]; rfl, halt _ trivial, by omega⟩
      · have hy1' : y.f0.f0 = x.f0.f1 + 1 := hy1
        exact ⟨x, y :: ys, a, rfl, hp.1, by rw [e1, if_pos ⟨h2, h1⟩, ← hy1']; exact hy2, halt _ hy3, hy4⟩
    · rintro (h | ⟨x', xs', a, h, hp, hc, ha, hle⟩)
      · cases h
      · obtain ⟨rfl, rfl⟩ := List.cons.inj h
        rw [e1] at hc
        by_cases c : x.f0.f0 ≤ x.f0.f1 ∧ rightB x.f1 = true
        case neg => rw [if_neg c] at hc; cases hc
        rw [if_pos c] at hc
        have h5 := cont_le _ _ _ hc
        have hsp : ∀ q, p = some q → x.f0.f0 - 1 = q.f0.f1 ∧ ¬ sameV x.f1 q.f1 := fun q hq => by
          subst hq
          have h6 : x.f0.f0 = q.f0.f1 + 1 := hp
          exact ⟨by omega, ha.1⟩
        have haxs : alt (some x.f1) xs := by
          cases p with
          | none => exact ha
          | some q => exact ha.2
        constructor
        · unfold stepB
          rw [c.2, decide_eq_true c.1, decide_eq_true (show x.f0.f1 ≤ w1 by omega)]
          cases p with
          | none => rfl
          | some q =>
            obtain ⟨h7, h8⟩ := hsp q rfl
            simp only [decide_eq_true h7, Bool.true_and, Bool.and_true, Bool.not_eq_true', Bool.and_eq_false_iff, beq_eq_false_iff_ne]
            by_cases g : x.f1.f0 = q.f1.f0
            · exact .inr (fun g2 => h8 ⟨g, g2⟩)
            · exact .inl g
        · cases xs with
          | nil => exact .inl rfl
          | cons y ys =>
            right
            have hy : y.f0.f0 = x.f0.f1 + 1 := by
              unfold cont at hc
              by_cases d : y.f0.f0 = x.f0.f1 + 1 ∧ x.f0.f1 + 1 ≤ y.f0.f1 ∧ rightB y.f1 = true
              · exact d.1
              · rw [if_neg d] at hc; cases hc
            exact ⟨y, ys, a, rfl, hy, by rw [hy]; exact hc, haxs, hle⟩
theorem cont_last : ∀ (l : List Er) (f a : Int) (x : Er), cont f l = some a → l.getLast? = some x → a = x.f0.f1 + 1 := by
  intro l f a x h hx
  obtain ⟨l', rfl⟩ := List.getLast?_eq_some_iff.1 hx
  obtain ⟨b, _, _, _, _, e⟩ := cont_init l' f a x h
  exact e
theorem rd_last (l : List Er) (h : l ≠ []) : l.getLast? = some (rd_T52 l ((l.length - 1 : Nat) : Int)) := by
  have hl : l.length - 1 < l.length := by have := List.length_pos_iff.2 h; omega
  rw [List.getLast?_eq_getElem?, List.getElem?_eq_getElem hl]
  simp [rd_T52, List.getD_eq_getElem?_getD, hl]
theorem line_iff (w0 w1 : Int) (l : List Er) : lineB w0 w1 l = true ↔ LineOk w0 w1 l := by
  unfold lineB
  simp only [Bool.and_eq_true, decide_eq_true_eq]
  constructor
  · rintro ⟨⟨⟨⟨⟨h1, h2⟩, h3⟩, h4⟩, h5⟩, h6⟩
    have hne : l ≠ [] := fun e => by subst e; cases h2
    rcases (chk_iff w1 l none).1 h6 with h | ⟨x, xs, a, rfl, _, hc, ha, _⟩
    · exact absurd h hne
    · have e4 : x.f0.f0 = w0 := h4
      rw [e4] at hc
      have := cont_last _ _ _ _ hc (rd_last _ hne)
      rw [h5] at this
      subst this
      exact ⟨h1, hne, h3, hc, ha⟩
  · rintro ⟨h1, h2, h3, h4, h5⟩
    have hlast := cont_last _ _ _ _ h4 (rd_last _ h2)
    have hlen := List.length_pos_iff.2 h2
    cases l with
    | nil => exact absurd rfl h2
    | cons x xs =>
      have e4 : x.f0.f0 = w0 := by
        unfold cont at h4
        by_cases d : x.f0.f0 = w0 ∧ w0 ≤ x.f0.f1 ∧ rightB x.f1 = true
        · exact d.1
        · rw [if_neg d] at h4; cases h4
      refine ⟨⟨⟨⟨⟨h1, hlen⟩, h3⟩, e4⟩, by omega⟩, (chk_iff w1 _ none).2 (.inr ⟨x, xs, w1 + 1, rfl, trivial, ?_, h5, Int.le_refl _⟩)⟩
      rw [e4]
      exact h4
theorem cont_bnd : ∀ (l : List Er) (f a : Int), cont f l = some a → ∀ x ∈ l, f ≤ x.f0.f0 ∧ x.f0.f0 ≤ x.f0.f1 ∧ x.f0.f1 < a
  | [], f, a, h, x, hx => by cases hx
  | y :: ys, f, a, h, x, hx => by
    unfold cont at h
    by_cases c : y.f0.f0 = f ∧ f ≤ y.f0.f1 ∧ rightB y.f1 = true
    · rw [if_pos c] at h
      have hle := cont_le _ _ _ h
      rcases List.mem_cons.1 hx with rfl | hx
      · omega
      · have := cont_bnd ys _ a h x hx
        omega
    · rw [if_neg c] at h; cases h
theorem LineOk.bnd {w0 w1 : Int} {l : List Er} (h : LineOk w0 w1 l) : ∀ x ∈ l, bndE x := fun x hx => by
  have := cont_bnd l _ _ h.cont x hx
  have hw := h.win
  unfold winP at hw
  unfold bndE
  omega
end Go.Proofs.Ytghklhdooemjdaa.Line
end
section
namespace Go.Proofs.Ytghklhdooemjdaa.Line
set_option linter.unusedVariables false
open Go.RowKit Go.Proofs.Ytghklhdooemjdaa.Q Go.Proofs.YtghklhdooemjdaaW.PrintWords Go.Proofs.YtghklhdooemjdaaW.PrintLast Go.Proofs.YtghklhdooemjdaaW.PrintMore Go.Proofs.Ytghklhdooemjdaa.Base Go.Proofs.Ytghklhdooemjdaa.Open
theorem same19_l (l : List Iv) (hl : l.length ≤ 4194304) : ∀ (r : List Iv) (i : Nat), l.drop i = r → Ev (fun k => spoorref19_Same.l0 k l l (l.length : Int) (i : Int)) true
  | [], i, hd => by
    have h1 : l.length ≤ i := List.drop_eq_nil_iff.1 hd
    refine Ev.succ ?_
    simp only [spoorref19_Same.l0]
    exact Ev.neg (by omega) (Ev.const rfl)
  | x :: r, i, hd => by
    have hlt := dlt hd
    refine Ev.succ ?_
    simp only [spoorref19_Same.l0, rdI hd]
    refine Ev.pos (by omega) (Ev.pos (by omega) (Ev.pos (by omega) (Ev.pos (by omega) (Ev.neg (by simp) ?_))))
    rw [w64 (by omega) (by omega), show ((i : Int) + 1) = ((i + 1 : Nat) : Int) by omega]
    exact same19_l l hl r (i + 1) (dnext hd)
theorem same19_ev (l : List Iv) (hl : l.length ≤ 4194304) : Ev (fun k => spoorref19_Same.f k l l) true := by
  simp only [spoorref19_Same.f]
  exact Ev.pos trivial (same19_l l hl l 0 rfl)
def whenE (v0 v1 : Int) (x : Er) : Option Iv := if x.f1.f0 = v0 ∧ x.f1.f1 = v1 then some ⟨x.f0.f0, x.f0.f1⟩ else none
def whenV (w0 w1 : Int) (l : List Er) (v0 v1 : Int) : List Iv × Int := if lineB w0 w1 l = true then (l.filterMap (whenE v0 v1), 0) else ([], 2)
theorem when_l (v0 v1 : Int) (l : List Er) (hl : l.length ≤ 1024) : ∀ (r : List Er) (i : Nat) (a : List Iv), l.drop i = r → a.length ≤ i → Ev (fun k => line_When.l0 k a l (l.length : Int) (i : Int) v0 v1) (a ++ r.filterMap (whenE v0 v1), 0)
  | [], i, a, hd, ha => by
    have h1 : l.length ≤ i := List.drop_eq_nil_iff.1 hd
    refine Ev.succ ?_
    simp only [line_When.l0]
    exact Ev.neg (by omega) (Ev.const (by simp))
  | x :: r, i, a, hd, ha => by
    have hlt := dlt hd
    refine Ev.succ ?_
    simp only [line_When.l0, rdV hd]
    refine Ev.pos (by omega) (Ev.pos (by omega) (Ev.pos (by omega) ?_))
    rw [w64 (by omega) (by omega), show ((i : Int) + 1) = ((i + 1 : Nat) : Int) by omega]
    by_cases c : x.f1.f0 = v0 ∧ x.f1.f1 = v1
    · have e : whenE v0 v1 x = some ⟨x.f0.f0, x.f0.f1⟩ := if_pos c
      rw [List.filterMap_cons, e]
      refine Ev.pos (by simp [c.1, c.2]) (Ev.pos (by omega) ?_)
      have ih := when_l v0 v1 l hl r (i + 1) (a ++ [⟨x.f0.f0, x.f0.f1⟩]) (dnext hd) (by simp; omega)
      rw [List.append_assoc] at ih
      exact ih
    · have e : whenE v0 v1 x = none := if_neg c
      rw [List.filterMap_cons, e]
      exact Ev.neg (by simpa using c) (when_l v0 v1 l hl r (i + 1) a (dnext hd) (by omega))
theorem when_ev (w0 w1 : Int) (l : List Er) (hb : ∀ x ∈ l, bndE x) (v0 v1 : Int) : Ev (fun k => line_When.f k w0 w1 l v0 v1) (whenV w0 w1 l v0 v1) := by
  simp only [line_When.f]
  refine Ev.bind (check_ev l hb w0 w1) ?_
  unfold whenV
  by_cases c : lineB w0 w1 l = true
  case neg =>
    rw [if_neg c, Bool.eq_false_iff.2 c]
    exact Ev.neg (by decide) (Ev.const rfl)
  rw [if_pos c, c]
  exact Ev.pos rfl (when_l v0 v1 l ((line_iff w0 w1 l).1 c).len l 0 [] rfl (Nat.le_refl _))
def ivOf (x : Rn) : Iv := ⟨x.f0, x.f1⟩
theorem ivs_back (l : List Iv) : (l.map runOf).map ivOf = l := by
  rw [List.map_map]
  conv => rhs; rw [← List.map_id l]
  exact List.map_congr_left (fun x _ => rfl)
theorem runs_back (l : List Rn) : (l.map ivOf).map runOf = l := by
  rw [List.map_map]
  conv => rhs; rw [← List.map_id l]
  exact List.map_congr_left (fun x _ => rfl)
theorem sound_snd : ∀ (l : List Rn) (p : Option Int), (∀ u, p = some u → u ≤ 1099511627776) → (soundL p l = true ↔ Snd l ∧ ∀ u, p = some u → ∀ y ∈ l, u + 1 < y.f0)
  | [], p, _ => by
    have e : soundL p [] = true := by cases p <;> rfl
    exact ⟨fun _ => ⟨⟨fun y hy => by simp at hy, List.Pairwise.nil⟩, fun u _ y hy => by simp at hy⟩, fun _ => e⟩
  | x :: xs, p, hp => by
    have e : soundL p (x :: xs) = if x.f0 < 0 ∨ x.f1 < x.f0 ∨ 1099511627776 < x.f1 then false else
      match p with
      | none => soundL (some x.f1) xs
      | some t => if t = 1099511627776 ∨ x.f0 ≤ t + 1 then false else soundL (some x.f1) xs := by cases p <;> rfl
    rw [e]
    by_cases c : x.f0 < 0 ∨ x.f1 < x.f0 ∨ 1099511627776 < x.f1
    · rw [if_pos c]
      refine ⟨fun h => (by cases h), fun h => ?_⟩
      have := h.1.1 x (List.mem_cons_self ..)
      unfold okR at this
      omega
    rw [if_neg c]
    have ih := sound_snd xs (some x.f1) (fun u hu => by rw [← Option.some.inj hu]; omega)
    have hok : okR x := by unfold okR; omega
    have cons : (soundL (some x.f1) xs = true) ↔ Snd (x :: xs) := by
      rw [ih]
      constructor
      · rintro ⟨⟨h1, h2⟩, h3⟩
        refine ⟨fun y hy => ?_, List.pairwise_cons.2 ⟨fun y hy => h3 _ rfl y hy, h2⟩⟩
        rcases List.mem_cons.1 hy with e | m
        · rw [e]; exact hok
        · exact h1 y m
      · intro h
        exact ⟨h.tail, fun u hu y hy => by rw [← Option.some.inj hu]; exact (List.pairwise_cons.1 h.2).1 y hy⟩
    cases p with
    | none =>
      dsimp only
      rw [cons]
      exact ⟨fun h => ⟨h, fun u hu => (by cases hu)⟩, fun h => h.1⟩
    | some t =>
      have ht := hp t rfl
      dsimp only
      by_cases d : t = 1099511627776 ∨ x.f0 ≤ t + 1
      · rw [if_pos d]
        refine ⟨fun h => (by cases h), fun h => ?_⟩
        have := h.2 t rfl x (List.mem_cons_self ..)
        omega
      · rw [if_neg d, cons]
        refine ⟨fun h => ⟨h, fun u hu y hy => ?_⟩, fun h => h.1⟩
        obtain rfl := Option.some.inj hu
        rcases List.mem_cons.1 hy with e | m
        · rw [e]; omega
        · have := (List.pairwise_cons.1 h.2).1 y m; omega
theorem sound_none (l : List Rn) : soundL none l = true ↔ Snd l := by
  rw [sound_snd l none (fun u hu => by cases hu)]
  exact ⟨fun h => h.1, fun h => ⟨h, fun u hu => by cases hu⟩⟩
def SndI (l : List Iv) : Prop := Snd (l.map runOf)
theorem check_ok {l : List Iv} (hl : l.length ≤ 1024) (hs : SndI l) : Ev (fun k => ivl_Check.f k l) 0 := Ev.to (ivl_ev l) (if_pos ⟨hl, (sound_none _).2 hs⟩)
theorem rows_ev {a b : List Iv} (ha : a.length ≤ 1024) (hb : b.length ≤ 1024) (sa : SndI a) (sb : SndI b) : Ev (fun k => ivl_rows.f k [a, b]) 0 := by
  have e1 : wrap64 ((0 : Int) + 1) = 1 := w64 (by omega) (by omega)
  have e2 : wrap64 ((1 : Int) + 1) = 2 := w64 (by omega) (by omega)
  simp only [ivl_rows.f, List.length_cons, List.length_nil]
  refine Ev.succ ?_
  simp only [ivl_rows.l0, List.length_cons, List.length_nil, e1]
  refine Ev.pos (by omega) (Ev.pos (by omega) (Ev.pos (by omega) (Ev.bind (check_ok (l := a) ha sa) (Ev.pos rfl ?_))))
  refine Ev.succ ?_
  simp only [ivl_rows.l0, List.length_cons, List.length_nil, e2]
  refine Ev.pos (by omega) (Ev.pos (by omega) (Ev.pos (by omega) (Ev.bind (check_ok (l := b) hb sb) (Ev.pos rfl ?_))))
  refine Ev.succ ?_
  simp only [ivl_rows.l0, List.length_cons, List.length_nil]
  exact Ev.neg (by omega) (Ev.const rfl)
theorem rdR {l : List Rn} {i : Nat} {x : Rn} {r : List Rn} (h : l.drop i = x :: r) : rd_T102 l (i : Int) = x := by
  have := dlt h
  rw [List.drop_eq_getElem_cons this] at h
  simp only [rd_T102, Int.toNat_natCast, List.getD_eq_getElem?_getD, List.getElem?_eq_getElem this, Option.getD_some]
  exact (List.cons.inj h).1
theorem told_l (l : List Rn) (hl : l.length ≤ 1024) : ∀ (r : List Rn) (i : Nat) (a : List Iv), l.drop i = r → a.length = i → Ev (fun k => ivl_told.l0 k a l (l.length : Int) (i : Int)) (a ++ r.map ivOf, 0)
  | [], i, a, hd, ha => by
    have h1 : l.length ≤ i := List.drop_eq_nil_iff.1 hd
    refine Ev.succ ?_
    simp only [ivl_told.l0]
    exact Ev.neg (by omega) (Ev.const (by simp))
  | x :: r, i, a, hd, ha => by
    have hlt := dlt hd
    refine Ev.succ ?_
    simp only [ivl_told.l0, rdR hd]
    refine Ev.pos (by omega) (Ev.pos (by omega) (Ev.pos (by omega) (Ev.pos (by omega) ?_)))
    rw [w64 (by omega) (by omega), show ((i : Int) + 1) = ((i + 1 : Nat) : Int) by omega]
    have ih := told_l l hl r (i + 1) (a ++ [ivOf x]) (dnext hd) (by simp [ha])
    rw [List.append_assoc] at ih
    exact ih
theorem told_ev (l : List Rn) (hl : l.length ≤ 1024) : Ev (fun k => ivl_told.f k l) (l.map ivOf, 0) := by
  simp only [ivl_told.f]
  exact Ev.neg (by omega) (told_l l hl l 0 [] rfl rfl)
theorem or_ev {a b : List Iv} (hab : a.length + b.length ≤ 1024) (sa : SndI a) (sb : SndI b) : Ev (fun k => ivl_Or.f k a b) ((joinR ((a ++ b).map runOf)).map ivOf, 0) := by
  have hok : ∀ x ∈ (a ++ b).map runOf, okR x := fun x hx => by
    rw [List.map_append] at hx
    rcases List.mem_append.1 hx with h | h
    · exact sa.1 x h
    · exact sb.1 x h
  have hlen := joinR_len ((a ++ b).map runOf)
  rw [List.length_map, List.length_append] at hlen
  simp only [ivl_Or.f]
  refine Ev.bind (rows_ev (by omega) (by omega) sa sb) (Ev.neg (by decide) (Ev.bind (runs_ev (a ++ b) (by rw [List.length_append]; omega)) (Ev.pos ⟨by omega, by rw [List.length_map, List.length_append]; omega, ?_⟩ (told_ev _ (by omega)))))
  exact List.all_eq_true.2 (fun x hx => decide_eq_true (hok x hx))
theorem or_ok {a b : List Iv} (sa : SndI a) (sb : SndI b) : SndI ((joinR ((a ++ b).map runOf)).map ivOf) ∧ (∀ t, inN t (((joinR ((a ++ b).map runOf)).map ivOf).map runOf) ↔ inN t (a.map runOf) ∨ inN t (b.map runOf)) ∧ ((joinR ((a ++ b).map runOf)).map ivOf).length ≤ a.length + b.length := by
  have hok : ∀ x ∈ (a ++ b).map runOf, okR x := fun x hx => by
    rw [List.map_append] at hx
    rcases List.mem_append.1 hx with h | h
    · exact sa.1 x h
    · exact sb.1 x h
  obtain ⟨h1, h2⟩ := joinR_ok hok
  have hlen := joinR_len ((a ++ b).map runOf)
  rw [List.length_map, List.length_append] at hlen
  unfold SndI
  rw [runs_back]
  refine ⟨h1, fun t => ?_, by rw [List.length_map]; exact hlen⟩
  rw [h2, List.map_append, inN_app]
def lenI (x : Iv) : Int := x.f1 - x.f0 + 1
def sumI (l : List Iv) : Int := (l.map lenI).sum
theorem long_l (l : List Iv) (hl : l.length ≤ 1024) (M : Int) (hM : M = 1099511627777) (hb : ∀ x ∈ l, 0 ≤ x.f0 ∧ x.f0 ≤ x.f1 ∧ x.f1 ≤ 1099511627776) (r : List Iv) : ∀ (i : Nat) (s : Int), l.drop i = r → 0 ≤ s → s ≤ (i : Int) * M → Ev (fun k => ivl_Long.l0 k s l (l.length : Int) (i : Int)) (s + sumI r, 0) := by
  induction r with
  | nil =>
    intro i s hd h0 h1
    have h1 : l.length ≤ i := List.drop_eq_nil_iff.1 hd
    refine Ev.succ ?_
    simp only [ivl_Long.l0]
    exact Ev.neg (by omega) (Ev.const (by simp [sumI]))
  | cons x r ih =>
    intro i s hd h0 h1
    have hlt := dlt hd
    have hx : x ∈ l := by
      have : x ∈ l.drop i := by rw [hd]; exact List.mem_cons_self ..
      exact List.mem_of_mem_drop this
    obtain ⟨b1, b2, b3⟩ := hb x hx
    refine Ev.succ ?_
    simp only [ivl_Long.l0, rdI hd]
    refine Ev.pos (by omega) (Ev.pos (by omega) (Ev.pos (by omega) ?_))
    have hi : (i : Int) ≤ 1024 := by omega
    have hs2 : s ≤ 1125899906843648 := by subst hM; omega
    rw [w64 (n := x.f1 - x.f0) (by omega) (by omega), w64 (n := x.f1 - x.f0 + 1) (by omega) (by omega), w64 (n := s + (x.f1 - x.f0 + 1)) (by omega) (by omega), w64 (n := (i : Int) + 1) (by omega) (by omega), show ((i : Int) + 1) = ((i + 1 : Nat) : Int) by omega]
    refine Ev.to (ih (i + 1) (s + (x.f1 - x.f0 + 1)) (dnext hd) (by omega) (by subst hM; omega)) ?_
    simp only [sumI, List.map_cons, List.sum_cons, lenI]
    rw [Int.add_assoc]
theorem long_ev {l : List Iv} (hl : l.length ≤ 1024) (hs : SndI l) : Ev (fun k => ivl_Long.f k l) (sumI l, 0) := by
  simp only [ivl_Long.f]
  refine Ev.bind (check_ok hl hs) (Ev.pos rfl ?_)
  refine Ev.to (long_l l hl _ rfl (fun x hx => hs.1 (runOf x) (List.mem_map_of_mem hx)) l 0 0 rfl (Int.le_refl _) (by omega)) ?_
  rw [Int.zero_add]
theorem when_snd (v0 v1 : Int) : ∀ (l : List Er) (a e : Int) (p : Option Vd) (u : Option Int), cont a l = some e → 0 ≤ a → e ≤ 1099511627777 → alt p l →
    (∀ z, u = some z → z + 1 ≤ a ∧ (z + 1 = a → ∃ q, p = some q ∧ q.f0 = v0 ∧ q.f1 = v1)) → Snd ((l.filterMap (whenE v0 v1)).map runOf) ∧ ∀ z, u = some z → ∀ y ∈ (l.filterMap (whenE v0 v1)).map runOf, z + 1 < y.f0
  | [], a, e, p, u, h, h0, he, ha, hu => ⟨⟨fun y hy => by simp at hy, List.Pairwise.nil⟩, fun z _ y hy => by simp at hy⟩
  | x :: xs, a, e, p, u, h, h0, he, ha, hu => by
    have hc : x.f0.f0 = a ∧ a ≤ x.f0.f1 ∧ cont (x.f0.f1 + 1) xs = some e := by
      unfold cont at h
      by_cases c : x.f0.f0 = a ∧ a ≤ x.f0.f1 ∧ rightB x.f1 = true
      · rw [if_pos c] at h; exact ⟨c.1, c.2.1, h⟩
      · rw [if_neg c] at h; cases h
    obtain ⟨k1, k2, k3⟩ := hc
    have hle := cont_le _ _ _ k3
    have haxs : alt (some x.f1) xs := by
      cases p with
      | none => exact ha
      | some v => exact ha.2
    by_cases c : x.f1.f0 = v0 ∧ x.f1.f1 = v1
    · have e1 : whenE v0 v1 x = some ⟨x.f0.f0, x.f0.f1⟩ := if_pos c
      rw [List.filterMap_cons, e1]
      obtain ⟨i1, i2⟩ := when_snd v0 v1 xs (x.f0.f1 + 1) e (some x.f1) (some x.f0.f1) k3 (by omega) he haxs (fun z hz => by
        obtain rfl := Option.some.inj hz
        exact ⟨Int.le_refl _, fun _ => ⟨x.f1, rfl, c.1, c.2⟩⟩)
      have i3 := i2 _ rfl
      have hst : ∀ z, u = some z → z + 1 < x.f0.f0 := fun z hz => by
        obtain ⟨g1, g2⟩ := hu z hz
        have g3 : z + 1 ≠ a := fun hza => by
          obtain ⟨q, hp, q1, q2⟩ := g2 hza
          subst hp
          exact ha.1 ⟨c.1.trans q1.symm, c.2.trans q2.symm⟩
        omega
      refine ⟨⟨fun y hy => ?_, List.pairwise_cons.2 ⟨fun y hy => i3 y hy, i1.2⟩⟩, fun z hz y hy => ?_⟩
      · rcases List.mem_cons.1 hy with e2 | m
        · rw [e2]
          show 0 ≤ x.f0.f0 ∧ x.f0.f0 ≤ x.f0.f1 ∧ x.f0.f1 ≤ 1099511627776
          omega
        · exact i1.1 y m
      · rcases List.mem_cons.1 hy with e2 | m
        · rw [e2]; exact hst z hz
        · have := i3 y m
          have := hst z hz
          omega
    · have e1 : whenE v0 v1 x = none := if_neg c
      rw [List.filterMap_cons, e1]
      exact when_snd v0 v1 xs (x.f0.f1 + 1) e (some x.f1) u k3 (by omega) he haxs (fun z hz => by
        have := (hu z hz).1
        exact ⟨by omega, fun h2 => by omega⟩)
theorem when_ok {w0 w1 : Int} {l : List Er} (h : LineOk w0 w1 l) (v0 v1 : Int) : SndI (l.filterMap (whenE v0 v1)) := by
  have hw := h.win
  unfold winP at hw
  exact (when_snd v0 v1 l w0 (w1 + 1) none none h.cont hw.1 (by omega) h.alt (fun z hz => by cases hz)).1
theorem when_in (v0 v1 t : Int) : ∀ (l : List Er), inN t ((l.filterMap (whenE v0 v1)).map runOf) ↔ ∃ y ∈ l, (y.f1.f0 = v0 ∧ y.f1.f1 = v1) ∧ y.f0.f0 ≤ t ∧ t ≤ y.f0.f1
  | [] => ⟨fun ⟨z, hz, _⟩ => by simp at hz, fun ⟨z, hz, _⟩ => by simp at hz⟩
  | x :: xs => by
    have ih := when_in v0 v1 t xs
    by_cases c : x.f1.f0 = v0 ∧ x.f1.f1 = v1
    · have e1 : whenE v0 v1 x = some ⟨x.f0.f0, x.f0.f1⟩ := if_pos c
      rw [List.filterMap_cons, e1, List.map_cons, inN_cons, ih]
      simp only [List.mem_cons, exists_eq_or_imp]
      exact or_congr ⟨fun h => ⟨c, h⟩, fun h => h.2⟩ Iff.rfl
    · have e1 : whenE v0 v1 x = none := if_neg c
      rw [List.filterMap_cons, e1, ih]
      simp only [List.mem_cons, exists_eq_or_imp]
      exact ⟨.inr, fun h => h.elim (fun h => absurd h.1 c) id⟩
def eqVB (a b : Vd) : Bool := a.f0 == b.f0 && a.f1 == b.f1
theorem eqVB_iff (a b : Vd) : eqVB a b = true ↔ a.f0 = b.f0 ∧ a.f1 = b.f1 := by
  unfold eqVB
  rw [Bool.and_eq_true, beq_iff_eq, beq_iff_eq]
def seenV (p : List Er) (v : Vd) : Bool := p.any (fun y => eqVB y.f1 v)
def cntS (l : List Er) (P : Vd → Bool) : Nat := (l.filter (fun y => P y.f1)).length
def sumS (l : List Er) (P : Vd → Bool) : Int := ((l.filter (fun y => P y.f1)).map (fun y => y.f0.f1 - y.f0.f0 + 1)).sum
theorem seenV_snoc (p : List Er) (x : Er) (v : Vd) : seenV (p ++ [x]) v = (seenV p v || eqVB x.f1 v) := by
  unfold seenV
  rw [List.any_append]
  simp
theorem split_cs (P P' : Vd → Bool) (v : Vd) (h : ∀ q, P' q = (P q || eqVB v q)) (hv : P v = false) : ∀ (l : List Er), cntS l P' = cntS l P + (l.filterMap (whenE v.f0 v.f1)).length ∧ sumS l P' = sumS l P + sumI (l.filterMap (whenE v.f0 v.f1))
  | [] => ⟨rfl, rfl⟩
  | x :: xs => by
    obtain ⟨i1, i2⟩ := split_cs P P' v h hv xs
    unfold cntS sumS at *
    by_cases c : x.f1.f0 = v.f0 ∧ x.f1.f1 = v.f1
    · have e0 : x.f1 = v := sameV_eq c
      have e1 : whenE v.f0 v.f1 x = some ⟨x.f0.f0, x.f0.f1⟩ := if_pos c
      have e2 : P x.f1 = false := by rw [e0]; exact hv
      have e3 : P' x.f1 = true := by rw [h, (eqVB_iff v x.f1).2 ⟨c.1.symm, c.2.symm⟩, Bool.or_true]
      rw [List.filterMap_cons, e1, List.filter_cons_of_pos (by simpa using e3), List.filter_cons_of_neg (by simp [e2])]
      constructor
      · simp only [List.length_cons]; omega
      · simp only [sumI, List.map_cons, List.sum_cons, lenI] at *
        omega
    · have e1 : whenE v.f0 v.f1 x = none := if_neg c
      have e3 : P' x.f1 = P x.f1 := by
        rw [h]
        have : eqVB v x.f1 = false := Bool.eq_false_iff.2 (fun hh => c ⟨((eqVB_iff _ _).1 hh).1.symm, ((eqVB_iff _ _).1 hh).2.symm⟩)
        rw [this, Bool.or_false]
      rw [List.filterMap_cons, e1]
      by_cases d : P x.f1 = true
      · rw [List.filter_cons_of_pos (by simpa [e3] using d), List.filter_cons_of_pos (by simpa using d)]
        constructor
        · simp only [List.length_cons]; omega
        · simp only [List.map_cons, List.sum_cons] at *
          omega
      · rw [List.filter_cons_of_neg (by simpa [e3] using d), List.filter_cons_of_neg (by simpa using d)]
        exact ⟨i1, i2⟩
theorem cont_sum : ∀ (l : List Er) (a e : Int), cont a l = some e → (l.map (fun y => y.f0.f1 - y.f0.f0 + 1)).sum = e - a
  | [], a, e, h => by
    obtain rfl := Option.some.inj h
    simp
  | x :: xs, a, e, h => by
    unfold cont at h
    by_cases c : x.f0.f0 = a ∧ a ≤ x.f0.f1 ∧ rightB x.f1 = true
    · rw [if_pos c] at h
      have ih := cont_sum xs _ _ h
      rw [List.map_cons, List.sum_cons, ih]
      omega
    · rw [if_neg c] at h; cases h
theorem cont_in (t : Int) : ∀ (l : List Er) (a e : Int), cont a l = some e → ((∃ y ∈ l, y.f0.f0 ≤ t ∧ t ≤ y.f0.f1) ↔ a ≤ t ∧ t < e)
  | [], a, e, h => by
    obtain rfl := Option.some.inj h
    exact ⟨fun ⟨z, hz, _⟩ => by simp at hz, fun h => by omega⟩
  | x :: xs, a, e, h => by
    unfold cont at h
    by_cases c : x.f0.f0 = a ∧ a ≤ x.f0.f1 ∧ rightB x.f1 = true
    · rw [if_pos c] at h
      have ih := cont_in t xs _ _ h
      have hle := cont_le _ _ _ h
      simp only [List.mem_cons, exists_eq_or_imp]
      rw [ih]
      omega
    · rw [if_neg c] at h; cases h
theorem sumS_bnd (P : Vd → Bool) : ∀ (l : List Er) (a e : Int), cont a l = some e → 0 ≤ sumS l P ∧ sumS l P ≤ e - a
  | [], a, e, h => by
    obtain rfl := Option.some.inj h
    simp [sumS]
  | x :: xs, a, e, h => by
    unfold cont at h
    by_cases c : x.f0.f0 = a ∧ a ≤ x.f0.f1 ∧ rightB x.f1 = true
    · rw [if_pos c] at h
      obtain ⟨i1, i2⟩ := sumS_bnd P xs _ _ h
      unfold sumS at *
      by_cases d : P x.f1 = true
      · rw [List.filter_cons_of_pos (by simpa using d), List.map_cons, List.sum_cons]
        omega
      · rw [List.filter_cons_of_neg (by simpa using d)]
        omega
    · rw [if_neg c] at h; cases h
theorem cntS_le (l : List Er) (P : Vd → Bool) : cntS l P ≤ l.length := List.length_filter_le _ _
end Go.Proofs.Ytghklhdooemjdaa.Line
end
section
namespace Go.Proofs.Ytghklhdooemjdaa.Pure
set_option linter.unusedVariables false
open Go.RowKit Go.Proofs.Ytghklhdooemjdaa.Q Go.Proofs.YtghklhdooemjdaaW.PrintWords Go.Proofs.YtghklhdooemjdaaW.PrintLast Go.Proofs.Ytghklhdooemjdaa.Base Go.Proofs.Ytghklhdooemjdaa.Open Go.Proofs.Ytghklhdooemjdaa.Line
theorem lives_ev5 : Ev spoorlaw20_lives.f true := Ev.of spoorlaw20_lives.mono (k := 200) (by decide +kernel)
theorem alt_at : ∀ (l : List Er) (p : Option Vd) (i : Nat) (x y : Er), alt p l → l[i]? = some y → l[i + 1]? = some x → ¬ sameV x.f1 y.f1
  | [], _, _, _, _, _, h, _ => by simp at h
  | z :: zs, p, 0, x, y, ha, hy, hx => by
    have hz : alt (some z.f1) zs := by
      cases p with
      | none => exact ha
      | some v => exact ha.2
    have e : z = y := by simpa using hy
    subst e
    cases zs with
    | nil => simp at hx
    | cons u us =>
      have e2 : u = x := by simpa using hx
      subst e2
      exact hz.1
  | z :: zs, p, i + 1, x, y, ha, hy, hx => by
    have hz : alt (some z.f1) zs := by
      cases p with
      | none => exact ha
      | some v => exact ha.2
    exact alt_at zs _ i x y hz (by simpa using hy) (by simpa using hx)
theorem whole_in (l : List Er) (all : List Iv) (s : Int) (i : Int) (w0 w1 e0 e1 : Int) (v : Vd) (m : List Er) (hm : m.length ≤ 200) (R : Bool) : ∀ (q : List Er) (j : Nat) (b : Bool), m.drop j = q →
    Ev (fun k => spoorlaw20_LineWhole.l1 k l all s i (b || seenV q v) l (l.length : Int) i m (m.length : Int) (m.length : Int) w0 w1 e0 e1 v.f0 v.f1) R →
    Ev (fun k => spoorlaw20_LineWhole.l1 k l all s i b l (l.length : Int) i m (m.length : Int) (j : Int) w0 w1 e0 e1 v.f0 v.f1) R
  | [], j, b, hd, h => by
    have h1 : m.length ≤ j := List.drop_eq_nil_iff.1 hd
    have e : (b || seenV [] v) = b := by cases b <;> rfl
    rw [e] at h
    refine Ev.succ ?_
    simp only [spoorlaw20_LineWhole.l1]
    refine Ev.neg (by omega) ?_
    have h2 : Ev (fun k => spoorlaw20_LineWhole.l1 (k + 1) l all s i b l (l.length : Int) i m (m.length : Int) (m.length : Int) w0 w1 e0 e1 v.f0 v.f1) R := by
      obtain ⟨K, hK⟩ := h
      exact ⟨K, fun n hn => hK (n + 1) (by omega)⟩
    simp only [spoorlaw20_LineWhole.l1] at h2
    exact Ev.congr (fun n => (if_neg (Int.lt_irrefl _)).symm) h2
  | x :: q, j, b, hd, h => by
    have hlt := dlt hd
    refine Ev.succ ?_
    simp only [spoorlaw20_LineWhole.l1, rdV hd]
    refine Ev.pos (by omega) (Ev.pos (by omega) (Ev.pos (by omega) ?_))
    rw [w64 (by omega) (by omega), show ((j : Int) + 1) = ((j + 1 : Nat) : Int) by omega]
    have es : seenV (x :: q) v = (eqVB x.f1 v || seenV q v) := rfl
    by_cases c : b = true
    · subst c
      rw [Bool.true_or] at h
      exact Ev.pos rfl (whole_in l all s i w0 w1 e0 e1 v m hm R q (j + 1) true (dnext hd) (by rw [Bool.true_or]; exact h))
    · have c2 : b = false := Bool.eq_false_iff.2 c
      subst c2
      rw [Bool.false_or, es] at h
      exact Ev.neg (by decide) (whole_in l all s i w0 w1 e0 e1 v m hm R q (j + 1) (x.f1.f0 == v.f0 && x.f1.f1 == v.f1) (dnext hd) h)
theorem seenV_of {p : List Er} {y : Er} (h : y ∈ p) : seenV p y.f1 = true := List.any_eq_true.2 ⟨y, h, (eqVB_iff _ _).2 ⟨rfl, rfl⟩⟩
theorem whole_l {w0 w1 : Int} {l : List Er} (h : LineOk w0 w1 l) (hl : l.length ≤ 200) : ∀ (r : List Er) (i : Nat) (all : List Iv) (s : Int), l.drop i = r → SndI all → all.length ≤ cntS l (seenV (l.take i)) → s = sumS l (seenV (l.take i)) →
    (∀ t, inN t (all.map runOf) ↔ ∃ y ∈ l, seenV (l.take i) y.f1 = true ∧ y.f0.f0 ≤ t ∧ t ≤ y.f0.f1) →
    Ev (fun k => spoorlaw20_LineWhole.l0 k l all s l (l.length : Int) (i : Int) w0 w1) true
  | [], i, all, s, hd, h1, h2, h3, h4 => by
    have hi : l.length ≤ i := List.drop_eq_nil_iff.1 hd
    rw [List.take_of_length_le hi] at h2 h3 h4
    have hw := h.win
    unfold winP at hw
    have hone : Snd [(⟨w0, w1⟩ : Rn)] := ⟨fun y hy => by rw [List.mem_singleton.1 hy]; exact hw, List.pairwise_singleton _ _⟩
    have e1 := Snd.one _ _ h1 hone (fun t => by
      rw [h4 t, inN_one]
      have h5 := cont_in t l _ _ h.cont
      constructor
      · rintro ⟨y, hy, _, hr⟩
        have := h5.1 ⟨y, hy, hr⟩
        show w0 ≤ t ∧ t ≤ w1
        omega
      · intro hr
        have hr2 : w0 ≤ t ∧ t ≤ w1 := hr
        obtain ⟨y, hy, hr3⟩ := h5.2 (by omega)
        exact ⟨y, hy, seenV_of hy, hr3⟩)
    have e2 : all = [⟨w0, w1⟩] := by
      rw [← ivs_back all, e1]
      rfl
    have e3 : s = w1 + 1 - w0 := by
      rw [h3, ← cont_sum l _ _ h.cont]
      unfold sumS
      rw [List.filter_eq_self.2 (fun y hy => seenV_of hy)]
    rw [e2]
    refine Ev.succ ?_
    simp only [spoorlaw20_LineWhole.l0]
    refine Ev.neg (by omega) (Ev.bind (same19_ev [⟨w0, w1⟩] (by simp)) (Ev.pos rfl (Ev.const ?_)))
    rw [w64 (n := w1 - w0) (by omega) (by omega), w64 (n := w1 - w0 + 1) (by omega) (by omega), e3]
    rw [show w1 + 1 - w0 = w1 - w0 + 1 by omega]
    simp
  | x :: r, i, all, s, hd, h1, h2, h3, h4 => by
    have hlt := dlt hd
    have hx : x ∈ l := by
      have : x ∈ l.drop i := by rw [hd]; exact List.mem_cons_self ..
      exact List.mem_of_mem_drop this
    have hxi : l[i]? = some x := by
      have := congrArg (fun z => z[0]?) hd
      simpa using this
    have htk : l.take (i + 1) = l.take i ++ [x] := by
      rw [List.take_add_one, hxi]
      rfl
    have hP : ∀ q, seenV (l.take (i + 1)) q = (seenV (l.take i) q || eqVB x.f1 q) := fun q => by rw [htk, seenV_snoc]
    have hlen : (l.take i).length = i := by rw [List.length_take]; omega
    have hw := h.win
    unfold winP at hw
    have hs1 := sumS_bnd (seenV (l.take i)) l _ _ h.cont
    have hc1 := cntS_le l (seenV (l.take i))
    refine Ev.succ ?_
    simp only [spoorlaw20_LineWhole.l0, rdV hd]
    refine Ev.pos (by omega) (Ev.pos (by omega) (Ev.pos (by omega) (Ev.pos (by omega) (Ev.bind (Ev.const (by rw [Int.toNat_natCast])) ?_))))
    refine whole_in l all s (i : Int) w0 w1 x.f0.f0 x.f0.f1 x.f1 (l.take i) (by omega) true (l.take i) 0 false rfl ?_
    rw [Bool.false_or]
    refine Ev.succ ?_
    simp only [spoorlaw20_LineWhole.l1]
    refine Ev.neg (Int.lt_irrefl _) ?_
    have go : Ev (fun k => spoorlaw20_LineWhole.j3 k l all s (seenV (l.take i) x.f1) l (l.length : Int) (i : Int) false w0 w1 x.f0.f0 x.f0.f1 x.f1.f0 x.f1.f1) true := by
      refine Ev.succ ?_
      simp only [spoorlaw20_LineWhole.j3]
      refine Ev.neg (by decide) ?_
      rw [w64 (n := (i : Int) + 1) (by omega) (by omega), show ((i : Int) + 1) = ((i + 1 : Nat) : Int) by omega]
      by_cases c : seenV (l.take i) x.f1 = true
      · refine Ev.pos c ?_
        have hPP : seenV (l.take (i + 1)) = seenV (l.take i) := funext fun q => by
          rw [hP]
          by_cases d : eqVB x.f1 q = true
          · have e : x.f1 = q := sameV_eq ((eqVB_iff _ _).1 d)
            rw [← e, c]
            rfl
          · rw [Bool.eq_false_iff.2 d, Bool.or_false]
        exact whole_l h hl r (i + 1) all s (dnext hd) h1 (by rw [hPP]; exact h2) (by rw [hPP]; exact h3) (by rw [hPP]; exact h4)
      · refine Ev.neg c ?_
        have cf : seenV (l.take i) x.f1 = false := Bool.eq_false_iff.2 c
        obtain ⟨k1, k2⟩ := split_cs (seenV (l.take i)) (seenV (l.take (i + 1))) x.f1 hP cf l
        have hW := when_ok h x.f1.f0 x.f1.f1
        have hcn := cntS_le l (seenV (l.take (i + 1)))
        have hsn := sumS_bnd (seenV (l.take (i + 1))) l _ _ h.cont
        have e1 : whenV w0 w1 l x.f1.f0 x.f1.f1 = (l.filterMap (whenE x.f1.f0 x.f1.f1), 0) := if_pos ((line_iff w0 w1 l).2 h)
        have hwh := when_ev w0 w1 l h.bnd x.f1.f0 x.f1.f1
        rw [e1] at hwh
        obtain ⟨o1, o2, o3⟩ := or_ok h1 hW
        have L1 : (l.filterMap (whenE x.f1.f0 x.f1.f1)).length ≤ 1024 := by omega
        have L2 : all.length + (l.filterMap (whenE x.f1.f0 x.f1.f1)).length ≤ 1024 := by omega
        refine Ev.bind hwh (Ev.bind (long_ev L1 hW) (Ev.bind (or_ev L2 h1 hW) (Ev.pos rfl (Ev.pos rfl (Ev.pos rfl (Ev.neg ?_ ?_))))))
        · dsimp only
          have : (⟨x.f0.f0, x.f0.f1⟩ : Iv) ∈ l.filterMap (whenE x.f1.f0 x.f1.f1) := List.mem_filterMap.2 ⟨x, hx, if_pos ⟨rfl, rfl⟩⟩
          have := List.length_pos_of_mem this
          omega
        · dsimp only
          rw [w64 (n := s + sumI (l.filterMap (whenE x.f1.f0 x.f1.f1))) (by omega) (by omega)]
          refine whole_l h hl r (i + 1) _ _ (dnext hd) o1 (by omega) (by omega) (fun t => ?_)
          rw [o2 t, h4 t, when_in]
          constructor
          · rintro (⟨y, hy, hs, hr⟩ | ⟨y, hy, hv, hr⟩)
            · exact ⟨y, hy, by rw [hP, hs]; rfl, hr⟩
            · exact ⟨y, hy, by rw [hP, (eqVB_iff _ _).2 ⟨hv.1.symm, hv.2.symm⟩, Bool.or_true], hr⟩
          · rintro ⟨y, hy, hs, hr⟩
            rw [hP, Bool.or_eq_true] at hs
            rcases hs with hs | hs
            · exact .inl ⟨y, hy, hs, hr⟩
            · have := (eqVB_iff _ _).1 hs
              exact .inr ⟨y, hy, ⟨this.1.symm, this.2.symm⟩, hr⟩
    by_cases c : 0 < i
    · refine Ev.pos (by omega) ?_
      rw [w64 (n := (i : Int) - 1) (by omega) (by omega), show ((i : Int) - 1) = ((i - 1 : Nat) : Int) by omega]
      refine Ev.pos (by omega) (Ev.pos (by omega) ?_)
      have hy : i - 1 < l.length := by omega
      have e2 : rd_T52 l ((i - 1 : Nat) : Int) = l[i - 1] := by
        simp [rd_T52, List.getD_eq_getElem?_getD, hy]
      rw [e2]
      have hn := alt_at l none (i - 1) x l[i - 1] h.alt (List.getElem?_eq_getElem hy) (by rw [show i - 1 + 1 = i by omega]; exact hxi)
      have e3 : (l[i - 1].f1.f0 == x.f1.f0 && l[i - 1].f1.f1 == x.f1.f1) = false := Bool.eq_false_iff.2 (fun hh => by
        rw [Bool.and_eq_true, beq_iff_eq, beq_iff_eq] at hh
        exact hn ⟨hh.1.symm, hh.2.symm⟩)
      rw [e3]
      exact go
    · exact Ev.neg (by omega) go
theorem LineWhole : spoorlaw20_LineWhole.Pure := by
  intro w0 w1 l h0 h1 hB
  have hwl : ∀ x ∈ l, bndE x := fun x hx => wf_era (h1.1 x hx)
  clear h0 h1 hB
  refine Ev.rounds (g := fun k => spoorlaw20_LineWhole.f k w0 w1 l) (r := true) ?_
  simp only [spoorlaw20_LineWhole.f]
  have big : Ev (fun k => spoorlaw20_LineWhole.j0 k l true w0 w1) true := by
    refine Ev.succ ?_
    simp only [spoorlaw20_LineWhole.j0]
    exact Ev.pos trivial (Ev.const rfl)
  refine Ev.bind lives_ev5 (Ev.pos rfl (Ev.bind (check_ev l hwl w0 w1) ?_))
  by_cases c : lineB w0 w1 l = true
  case neg =>
    rw [Bool.eq_false_iff.2 c]
    exact Ev.neg (by decide) big
  rw [c]
  refine Ev.pos rfl ?_
  by_cases d : (l.length : Int) > 200
  · rw [decide_eq_true d]
    exact big
  rw [decide_eq_false d]
  refine Ev.succ ?_
  simp only [spoorlaw20_LineWhole.j0]
  refine Ev.neg (by decide) ?_
  have h := (line_iff w0 w1 l).1 c
  refine whole_l h (by omega) l 0 [] 0 rfl ⟨fun y hy => by simp at hy, List.Pairwise.nil⟩ (Nat.zero_le _) ?_ (fun t => ?_)
  · have e : l.filter (fun y => seenV (l.take 0) y.f1) = [] := List.filter_eq_nil_iff.2 (fun y _ => by simp [seenV])
    unfold sumS
    rw [e]
    rfl
  · exact ⟨fun ⟨z, hz, _⟩ => by simp at hz, fun ⟨y, _, hs, _⟩ => by simp [seenV] at hs⟩
end Go.Proofs.Ytghklhdooemjdaa.Pure
end
section
namespace Go.Proofs.Ytghklhdooemjdaa.lineWhole
open Go.ChangeShapes Go.WideShapes Go.ChangeAt Go.RowKit Go.Proofs.Ytghklhdooemjdaa.Open Go.Proofs.Ytghklhdooemjdaa.Q
open Go.ChangeMaps (open_string shut_string)
set_option linter.unusedVariables false
theorem own : ownKnob Try.prog.godebug = none := by kernel_rfl
theorem laidOut : laidOutB Try.prog = true := by kernel_rfl
set_option maxRecDepth 100000 in
theorem contract (H : Type) (enc : TypeId × Value → H) (W : World) (base : Nat) (args : Array Value) (ds gs : List (DataW H)) (before : List MemPlace)
    (hval : ∀ (j : Nat) t v, Try.f7.params[j]? = some t → args[j]? = some v → Value.okWide Try.prog W .any base t v)
    (hW : DataW.Whole enc Try.prog Try.f7.params.toList Rows.lineWholeSpec.vars false W args.toList ds gs before) (hsz0 : (DataW.weightsEach Try.prog (Try.f7.params.toList ++ Rows.lineWholeSpec.plain.varTypes Try.prog) (ds ++ gs)).all (· ≤ reachBytes) = true) :
    Calls Try.prog 7 args W fun e W' => ∃ v, e = .returned v ∧ Rows.lineWholeSpec.post enc Try.prog Try.f7 false true false false W args v W' := by
  have hW' := hW
  obtain ⟨p, q, hA0, hV, rfl, hfz, hnd⟩ := hW
  have hA : DataW.TrodAll enc Try.prog W 0 (fun _ => true) true Try.f7.params.toList args.toList ds p := hA0
  have hsz : (DataW.weightsEach Try.prog (Try.f7.params.toList ++ Rows.lineWholeSpec.plain.varTypes Try.prog) (ds ++ gs)).all (· ≤ reachBytes) = true := hsz0
  rw [Try.params7] at hA hval hsz
  obtain ⟨v0, vs0, d0, ds0, p0, q0, hargs, rfl, rfl, h0, r0⟩ := trodAll_cons hA
  obtain ⟨v1, vs1, d1, ds1, p1, q1, rfl, rfl, rfl, h1, r1⟩ := trodAll_cons r0
  obtain ⟨rfl, rfl, rfl⟩ := trodAll_nil r1
  obtain rfl : args = #[v0, v1] := by cases args; simp_all
  obtain ⟨rfl, rfl⟩ := trodVars_none hV
  have k0 := h0
  have lt0 : ∀ x ∈ p0, x.block < W.heap.size := by obtain ⟨m, hm⟩ := k0; exact DataW.trod_lt m _ _ _ hm
  obtain ⟨fu0, hf0⟩ := h0
  obtain ⟨b0, K0, o0, u0⟩ := opn23 enc W _ _ _ _ _ hf0
  have z0 := k23_open K0
  obtain rfl : v0 = .agg #[.int .i64 b0.f0, .int .i64 b0.f1] := by obtain ⟨x, rfl, _⟩ := okWide_struct Try.underlying23 (hval 0 23 v0 rfl rfl); exact congrArg Value.agg (Array.toList_inj.mp (show x.toList = [.int .i64 b0.f0, .int .i64 b0.f1] from z0))
  have k1 := h1
  have lt1 : ∀ x ∈ p1, x.block < W.heap.size := by obtain ⟨m, hm⟩ := k1; exact DataW.trod_lt m _ _ _ hm
  obtain ⟨fu1, hf1⟩ := h1
  obtain ⟨b1, K1, o1, u1⟩ := (opens_slice opn52 Try.underlying25 (by kernel_rfl) 52) enc W _ _ _ _ _ hf1
  obtain ⟨A1, c1, z1, lc1, C1⟩ := K1
  obtain rfl : v1 = .slice A1 b1.length c1 := by obtain ⟨x, y, z, rfl⟩ := okWide_slice Try.underlying25 (hval 1 25 v1 rfl rfl); exact (List.cons.inj (show [Value.slice x y z] = [Value.slice A1 b1.length c1] from z1)).1
  have sz1 : b1.length * 32 ≤ 140737488351232 := sized_row hsz (j := 1) (t := 25) rfl rfl Try.underlying25 (by kernel_rfl) k1
  obtain ⟨k, h⟩ := Pure.LineWhole b0.f0 b0.f1 b1 o0 o1 sz1
  refine (spoorlaw20_LineWhole.calls k b0.f0 b0.f1 A1 c1 b1 true W C1 lc1 h).mono fun e W' ⟨he, hd⟩ => ?_
  have bel := hd
  subst he
  exact ⟨_, rfl, _, _, _, [], _, [], hW', trodAll_mk1 (shut_bool Try.underlying4 _), (trodAll_cons_mk (Below.trod laidOut (by kernel_rfl) (of_decide_eq_true (by kernel_rfl)) k0 bel lt0) (trodAll_cons_mk (Below.trod laidOut (by kernel_rfl) (of_decide_eq_true (by kernel_rfl)) k1 bel lt1) trodAll_mk0)), rfl, bel.frame _, fun h => by cases h⟩
set_option maxRecDepth 100000 in
theorem lifted (os : Os) (started : os.Started) (H : Type) (enc : TypeId × Value → H) :
    ReturnsInHanded {} Try.checked os 7 .any (Rows.lineWholeSpec.pre6 enc Try.prog Try.f7 Rows.lineWholeRow.domain false) (Rows.lineWholeSpec.post enc Try.prog Try.f7 false true false false) := by
  refine returnsInHanded_of_change_sized (C := Try.checked) own started (by kernel_rfl) Try.func7
    (ChangeSpec.witness6 (enc := enc) (C := Try.checked) false ⟨#[], #[.agg #[.int .i64 0, .int .i64 0], .slice none 0 0], []⟩ 8 (by kernel_rfl) (by kernel_rfl) (by kernel_rfl) (by kernel_rfl)) ?_
  intro W base args ds gs before hval hW _ hsz _
  exact contract H enc W base args ds gs before hval hW hsz
theorem over : Rows.lineWholeRow.holds Try.pinned (OpenSpec.ofChange Rows.lineWholeSpec) :=
  OpenClaim.holds_of_wide 7 Try.f7 rfl rfl rfl rfl rfl rfl rfl ⟨rfl, rfl, rfl, rfl, rfl⟩ rfl rfl rfl rfl rfl (by kernel_rfl) Try.func7 (by kernel_rfl)
    (of_decide_eq_true (by kernel_rfl)) (by unfold Func.isWrapper; first | (rw [if_pos (by decide +kernel)]; kernel_rfl) | (rw [if_neg (by decide +kernel)]; exact ⟨rfl, rfl⟩))
    (fun os started H enc _ => lifted os started H enc)
theorem proved : Rows.LineWholeSaid := over
#print axioms proved
end Go.Proofs.Ytghklhdooemjdaa.lineWhole
namespace Go.Proofs.Ytghklhdooemjdaa
theorem lineWhole_holds : Rows.LineWholeSaid := lineWhole.proved
end Go.Proofs.Ytghklhdooemjdaa
end
