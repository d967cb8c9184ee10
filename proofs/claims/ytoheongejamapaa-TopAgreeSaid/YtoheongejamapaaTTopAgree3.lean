/- The times at which two lines of a window tell the same are those at which one verdict holds in both; with those at which they differ they are the window, and none is both. -/
import Derived.Shelf.RegionOpen
import Derived.Deep.RegionLaw
import Derived.BigQuiet
import Derived.Deep.RegionWith
import Derived.Outline
import Derived.Laws.EntriesVeiled
import Derived.WalkSpells
import Derived.Shelf.SlSortCmp.WholeK
import Derived.Test.YtoheongejamapaaRows
import Derived.ChangeArms
import Derived.WideShapes
import Derived.SizedLaws
import Derived.Laws.BytesArg
import Derived.Laws.BitsLemmas
import Derived.WalkKit
import Derived.ProofKit
import Derived.OpenShut
import Derived.ShutString
import Derived.ChangeOld
import Derived.Below
import Derived.JoinedCond
import Derived.Test.YtoheongejamapaaTTopAgree2
section
namespace Go.Proofs.Ytoheongejamapaa.Q
open Go.RowKit Go.Proofs.YtoheongejamapaaW.PrintWords Go.Proofs.YtoheongejamapaaW.PrintLast Go.Proofs.YtoheongejamapaaW.PrintMore
attribute [local go_sem] max2_int min2_int max_two min_two max_three min_three max_four min_four   -- for this text's walks alone
set_option linter.unusedVariables false
set_option linter.unusedSimpArgs false
attribute [local go_sem high] eqA23
theorem infoR19 : (Try.prog.info? 77).map (fun i => (i.zero, i.size, i.bytes)) = some (some (.agg #[(.int .i64 0), (.int .i64 0)]), 2, 16) := by kernel_rfl
set_option maxRecDepth 100000 in
set_option maxHeartbeats 4000000 in
theorem clone_is (A : Option Addr) (c : Nat) (l : List S77) (hL : l.length * 16 ≤ 140737488355328) (w : World) (hr : Kd.C k77 w A l.length l) (hc : l.length ≤ c) :
    Calls Try.prog 35 #[.slice A l.length c] w fun e w' => ∃ v : Value, e = .returned v ∧ Kd.R k77 77 w' w.heap.size (fun _ => True) v l ∧ Below w.heap.size w w' := by
  have HR := Aside0.mk hr
  have HM := Aside0.mk (Kd.C_max hr)
  have HL := Aside0.mk hL
  clear hr hL
  have q : ∀ (w : World) (a : Option Addr) (n c : Nat), (binOp .eql 64 (.slice a n c) (.slice none 0 0)).run Try.prog w = .ok (.bool a.isNone) w := fun w a n c => Lib.run_eql_slice_nil w 64 77 a n c 0 0 Try.underlying64
  go_enter Try.func35, Try.ntmps35
  cases A with
  | none =>
    have hl : l = [] := by
      cases l with
      | nil => rfl
      | cons x xs =>
        obtain ⟨ad, e, _⟩ := HR.out.2.2 (Nat.succ_pos _)
        cases e
    subst hl
    go_wp2
    go_ret
    exact ⟨_, rfl, Kd.R_nil _ _ _ _ _, Below.refl _ _⟩
  | some ad =>
    go_wp2_with (first | ((with_reducible refine gate_dst (N := 5) rfl ?_); refine Kd.R_lit k77 _ 77 ?hg (N := 5) ?hd (xs := ([] : List (S77))) (inner := []) (ok := fun _ => True) (okp := fun _ => True) ?hr ?hp (fun _ hk => hk) trivial (Below.refl _ _) (Nat.le_refl _) (by simp) ?_; (case hd => rfl); (case hg => rfl); (case hr => first | (go_simp; done) | (go_simp; rfl)); (case hp => exact (Reps.none _ _)); intro v1 w1 ho1 hb1 hg_ hnew_; clear hg_ hnew_; have HO1 := Aside0.mk ho1; have HB1 := Aside0.mk hb1; clear ho1 hb1) | ((with_reducible refine gate_builtin (b := .append) (xs := #[.tmp 5, .tmp 6]) rfl ?_); at_builtin; refine Kd.R_append_rows k77 (w0 := w) w.heap.size rfl (.tmp 5) (.tmp 6) 64 77 (.agg #[(.int .i64 0), (.int .i64 0)]) 16 rfl Try.underlying64 infoR19 rfl (by decide) (by omega) v1 [] l _ _ _ (fun _ => True) (fun _ => False) rfl rfl HO1.out (Kd.C_below HR.out HB1.out) (fun _ _ h => h) (fun _ h => h.elim) (fun _ _ => trivial) HB1.out HB1.out.size (by have := HL.out; simpa using this) ?_; intro v2 w2 ho2 hb2 hg2 hat2; have HO2 := Aside0.mk ho2; have HB2 := Aside0.mk hb2; clear ho2 hb2 hg2 hat2))
    go_ret
    exact ⟨_, rfl, HO2.out, HB2.out⟩
theorem infoI19 : (Try.prog.info? 23).map (fun i => (i.zero, i.size, i.bytes)) = some (some (.agg #[(.int .i64 0), (.int .i64 0)]), 2, 16) := by kernel_rfl
set_option maxRecDepth 100000 in
set_option maxHeartbeats 4000000 in
theorem grow_is (n : Nat) (hn : n * 16 ≤ 140737488355328) (w : World) :
    Calls Try.prog 38 #[.slice none 0 0, .int .i64 (n : Int)] w fun e w' => ∃ v : Value, e = .returned v ∧ Kd.R k23 23 w' w.heap.size (fun _ => True) v ([] : List S23) ∧ Below w.heap.size w w' := by
  have HN := Aside0.mk hn
  have w1 : wrap64 (n : Int) = n := by unfold wrap64; omega
  have w2 : IntKind.i64.wrap (n : Int) = n := (i64_w _).trans w1
  have d0 : decide ((n : Int) < 0) = false := decide_eq_false (by omega)
  go_enter Try.func38, Try.ntmps38
  by_cases h0 : 0 < n
  · have d1 : decide ((0 : Int) < (n : Int)) = true := decide_eq_true (by omega)
    have d2 : decide (0 < n) = true := decide_eq_true h0
    go_wp2_with (at_builtin; refine Kd.R_append_zeros k23 (w0 := w) w.heap.size rfl (.tmp 20) (.tmp 21) 26 3 23 (.agg #[(.int .i64 0), (.int .i64 0)]) 16 rfl Try.underlying26 Try.underlying3 infoI19 rfl (by decide) (by omega) (.slice none 0 0) [] ⟨0, 0⟩ (n : Int) (fun _ => True) rfl rfl (k23_mkM _ _ _ (⟨0, 0⟩ : S23)) (fun _ _ => trivial) (Kd.R_nil _ _ _ _ _) (by omega) (Below.refl _ _) (Nat.le_refl _) (by have := HN.out; simpa using this) ?_; intro v1 w1 ho1 hb1 hg1 hat1; have HO1 := Aside0.mk ho1; have HB1 := Aside0.mk hb1; obtain ⟨A1, c1, rfl⟩ := Kd.R_slice ho1; clear ho1 hb1 hg1 hat1)
    go_ret
    exact ⟨_, rfl, Kd.R_take (m := 0) HO1.out (Nat.zero_le _), HB1.out⟩
  · have d1 : decide ((0 : Int) < (n : Int)) = false := decide_eq_false (by omega)
    have d2 : decide (0 < n) = false := decide_eq_false h0
    go_wp2
    go_ret
    exact ⟨_, rfl, Kd.R_nil _ _ _ _ _, Below.refl _ _⟩
set_option maxRecDepth 100000 in
set_option maxHeartbeats 4000000 in
theorem concat_is (g : Nat) (A1 A2 : Option Addr) (c1 c2 : Nat) (l1 l2 : List S23) (hL : (l1.length + l2.length) * 16 ≤ 140737488355328) (w : World) (hg : w.heap[g]? = some (.cells #[.slice A1 l1.length c1, .slice A2 l2.length c2] 26 (0, 0)))
    (hr1 : Kd.C k23 w A1 l1.length l1) (hr2 : Kd.C k23 w A2 l2.length l2) :
    Calls Try.prog 24 #[.slice (some ⟨g, 0, none⟩) 2 2] w fun e w' => ∃ v : Value, e = .returned v ∧ Kd.R k23 23 w' w.heap.size (fun _ => True) v (l1 ++ l2) ∧ Below w.heap.size w w' := by
  have HL := Aside0.mk hL
  have BG := Aside0.mk hg
  have HR1 := Aside0.mk hr1
  have HR2 := Aside0.mk hr2
  have hx0 := (blk_cell hg 0).trans rfl
  have hx1 := (blk_cell hg 1).trans rfl
  clear hg hr1 hr2 hL
  go_enter Try.func24, Try.ntmps24
  go_wp2
  go_loopg [3, 11] 2 (fun kq v3 v11 w' => ∃ (i : Nat), v11 = .int .i64 (i : Int) ∧ Aside0 (i ≤ 2 ∧ kq = 2 - i) ∧ v3 = .int .i64 (((if i = 0 then 0 else if i = 1 then l1.length else l1.length + l2.length : Nat)) : Int) ∧ w' = w)
  case atStart => exact ⟨0, rfl, ⟨by omega, rfl⟩, rfl, rfl⟩
  case round =>
    obtain ⟨i, rfl, HI, rfl, rfl⟩ := hrel
    have hi := HI.out.1
    have hl := HL.out
    match i, HI with
    | 0, HI =>
      have wa : IntKind.i64.wrap (l1.length : Int) = (l1.length : Int) := by rw [i64_w]; unfold wrap64; omega
      have dn : decide ((l1.length : Int) < 0) = false := decide_eq_false (by omega)
      go_wp2
      go_roundg 1
      case measure => have := HI.out.2; omega
      case rel => exact ⟨1, by first | rfl | go_num, ⟨by omega, rfl⟩, by first | rfl | go_num | simp, rfl⟩
    | 1, HI =>
      have wa : IntKind.i64.wrap ((l1.length : Int) + (l2.length : Int)) = ((l1.length + l2.length : Nat) : Int) := by rw [i64_w]; unfold wrap64; omega
      have dn : decide (((l1.length + l2.length : Nat) : Int) < 0) = false := decide_eq_false (by omega)
      have dn2 : decide ((l1.length : Int) + (l2.length : Int) < 0) = false := decide_eq_false (by omega)
      go_wp2
      go_roundg 0
      case measure => have := HI.out.2; omega
      case rel => exact ⟨2, by first | rfl | go_num, ⟨by omega, rfl⟩, by first | rfl | go_num | simp, rfl⟩
    | 2, HI =>
      obtain ⟨w0, e0⟩ : ∃ w0 : World, w0 = wr := ⟨_, rfl⟩
      subst e0
      clear hx0 hx1
      go_wp2_with (go_at_call 38; refine (grow_is (l1.length + l2.length) HL.out w0).mono ?_; rintro e w5 ⟨v5, rfl, hR5, hb5⟩; have HR5 := Aside0.mk hR5; have HB5 := Aside0.mk hb5; clear hR5 hb5)
      go_loopg [6, 27] 2 (fun kq v6 v27 w' => ∃ (j : Nat), v27 = .int .i64 (j : Int) ∧ Aside0 (j ≤ 2 ∧ kq = 2 - j) ∧ Aside0 (Kd.R k23 23 w' w0.heap.size (fun _ => True) v6 (if j = 0 then [] else if j = 1 then l1 else l1 ++ l2)) ∧ Aside0 (Below w0.heap.size w0 w'))
      case atStart => exact ⟨0, rfl, ⟨by omega, rfl⟩, HR5, HB5⟩
      case round =>
        clear HR5 HB5
        obtain ⟨j, rfl, HJ, HO, HB⟩ := hrel
        have hl := HL.out
        have BG2 := Aside0.mk (blk_below BG.out HB.out)
        have hx0 := (blk_cell BG2.out 0).trans rfl
        have hx1 := (blk_cell BG2.out 1).trans rfl
        have hj := HJ.out.1
        match j, HJ, HO with
        | 0, HJ, HO =>
          have HO0 : Aside0 (Kd.R k23 23 wr w0.heap.size (fun _ => True) u6 []) := HO
          go_wp2_with (at_builtin; refine Kd.R_append_rows k23 (w0 := w0) w0.heap.size rfl (.tmp 31) (.tmp 32) 26 23 (.agg #[(.int .i64 0), (.int .i64 0)]) 16 rfl Try.underlying26 infoI19 rfl (by decide) (by omega) u6 [] l1 _ _ _ (fun _ => True) (fun _ => False) rfl rfl HO0.out (Kd.C_below HR1.out HB.out) (fun _ _ h => h) (fun _ h => h.elim) (fun _ _ => trivial) HB.out HB.out.size (by have := HL.out; simp only [List.length_nil]; omega) ?_; intro v2 w2 ho2 hb2 hg2 hat2; have HO2 := Aside0.mk ho2; have HB2 := Aside0.mk hb2; clear ho2 hb2 hg2 hat2)
          go_roundg 1
          case measure => have := HJ.out.2; omega
          case rel => exact ⟨1, by first | rfl | go_num, ⟨by omega, rfl⟩, HO2, HB2⟩
        | 1, HJ, HO =>
          have HO0 : Aside0 (Kd.R k23 23 wr w0.heap.size (fun _ => True) u6 l1) := HO
          go_wp2_with (at_builtin; refine Kd.R_append_rows k23 (w0 := w0) w0.heap.size rfl (.tmp 31) (.tmp 32) 26 23 (.agg #[(.int .i64 0), (.int .i64 0)]) 16 rfl Try.underlying26 infoI19 rfl (by decide) (by omega) u6 l1 l2 _ _ _ (fun _ => True) (fun _ => False) rfl rfl HO0.out (Kd.C_below HR2.out HB.out) (fun _ _ h => h) (fun _ h => h.elim) (fun _ _ => trivial) HB.out HB.out.size HL.out ?_; intro v2 w2 ho2 hb2 hg2 hat2; have HO2 := Aside0.mk ho2; have HB2 := Aside0.mk hb2; clear ho2 hb2 hg2 hat2)
          go_roundg 0
          case measure => have := HJ.out.2; omega
          case rel => exact ⟨2, by first | rfl | go_num, ⟨by omega, rfl⟩, HO2, HB2⟩
        | 2, HJ, HO =>
          have HO0 : Aside0 (Kd.R k23 23 wr w0.heap.size (fun _ => True) u6 (l1 ++ l2)) := HO
          go_wp2
          go_ret
          exact ⟨_, rfl, HO0.out, HB.out⟩
open Go.Shelf Go.Sort in
def fieldC : Array Value := #[.int .i64 0, .int .i64 1099511627776, .func (.func 32) #[] #[], .func (.func 33) #[] #[], .func (.func 34) #[] #[]]
set_option maxRecDepth 100000 in
set_option maxHeartbeats 4000000 in
open Go.Shelf Go.Sort in
theorem joincmp_is (bf : Nat) (x y : S77) (W : World) (hb : W.heap[bf]? = some (.cells fieldC 68 (0, 0))) :
    Calls Try.prog 37 #[.agg #[.int .i64 x.f0, .int .i64 x.f1], .agg #[.int .i64 y.f0, .int .i64 y.f1], .pointer (some ⟨bf, 0, none⟩)] W fun e w' => e = .returned (.int .i64 (cmpI x.f0 y.f0)) ∧ ∃ q os', w' = grow (W.drewN q) os' := by
  unfold fieldC at hb
  have BF := Aside0.mk hb
  have hlt := World.block_lt_of_cell? _ _ ((blk_cell hb 2).trans rfl)
  have hg2 : ((W.alloc (.cells #[.int .i64 x.f0, .int .i64 x.f1] 77)).alloc (.cells #[.int .i64 y.f0, .int .i64 y.f1] 77)).cell? ⟨bf, 2, none⟩ = some (.func (.func 32) #[] #[]) := (blk_cell (blk_alloc (blk_alloc BF.out _) _) 2).trans rfl
  clear hb
  go_enter Try.func37, Try.ntmps37
  go_wp2_with (go_at_call 32; refine (cmp_is _ _ _).mono ?_; rintro e w' ⟨rfl, rfl⟩)
  go_ret
  exact ⟨rfl, 0, _, by rw [alloc_eq_grow, alloc_eq_grow, grow_grow]; rfl⟩
open Go.Shelf Go.Sort in
def sortRun_ren : Go.Shelf.Ren := ⟨fun | 6 => 36 | 15 => 44 | 14 => 43 | 28 => 53 | 29 => 54 | 20 => 45 | 21 => 46 | 22 => 47 | 23 => 48 | 24 => 49 | 25 => 50 | 26 => 51 | 27 => 52 | 46 => 55 | 47 => 56 | 48 => 57 | 49 => 58 | 50 => 59 | 57 => 60 | n => n, fun | 22 => 64 | 24 => 77 | 25 => 93 | 3 => 3 | 39 => 98 | 0 => 0 | 53 => 44 | 55 => 41 | 4 => 4 | 46 => 104 | 45 => 103 | 50 => 108 | 5 => 5 | 9 => 9 | 66 => 112 | 70 => 116 | 76 => 118 | 77 => 119 | n => n, fun | n => n⟩
open Go.Shelf Go.Sort in
theorem sortRun : Go.Proofs.SlLaysF0.n6 Try.prog sortRun_ren := {
  mixed := by kernel_rfl
  f6 := ⟨Try.f36.name, by decide, Try.func36.trans (congrArg some (by kernel_rfl))⟩
  f14 := ⟨Try.f43.name, by decide, Try.func43.trans (congrArg some (by kernel_rfl))⟩
  f15 := Try.func44.trans (congrArg some (by kernel_rfl))
  f20 := ⟨Try.f45.name, by decide, Try.func45.trans (congrArg some (by kernel_rfl))⟩
  f21 := ⟨Try.f46.name, by decide, Try.func46.trans (congrArg some (by kernel_rfl))⟩
  f22 := ⟨Try.f47.name, by decide, Try.func47.trans (congrArg some (by kernel_rfl))⟩
  f23 := ⟨Try.f48.name, by decide, Try.func48.trans (congrArg some (by kernel_rfl))⟩
  f24 := ⟨Try.f49.name, by decide, Try.func49.trans (congrArg some (by kernel_rfl))⟩
  f25 := ⟨Try.f50.name, by decide, Try.func50.trans (congrArg some (by kernel_rfl))⟩
  f26 := ⟨Try.f51.name, by decide, Try.func51.trans (congrArg some (by kernel_rfl))⟩
  f27 := ⟨Try.f52.name, by decide, Try.func52.trans (congrArg some (by kernel_rfl))⟩
  f28 := Try.func53.trans (congrArg some (by kernel_rfl))
  f29 := Try.func54.trans (congrArg some (by kernel_rfl))
  f46 := ⟨Try.f55.name, by decide, Try.func55.trans (congrArg some (by kernel_rfl))⟩
  f47 := Try.func56.trans (congrArg some (by kernel_rfl))
  f48 := Try.func57.trans (congrArg some (by kernel_rfl))
  f49 := ⟨Try.f58.name, by decide, Try.func58.trans (congrArg some (by kernel_rfl))⟩
  f50 := ⟨Try.f59.name, by decide, Try.func59.trans (congrArg some (by kernel_rfl))⟩
  f57 := ⟨Try.f60.name, by decide, Try.func60.trans (congrArg some (by kernel_rfl))⟩
  t0 := Try.underlying0
  a0 := Try.isAgg0
  z0 := Try.sizeOf0
  v0 := Try.zeroValue0
  t3 := Try.underlying3
  a3 := Try.isAgg3
  z3 := Try.sizeOf3
  v3 := Try.zeroValue3
  t4 := Try.underlying4
  a4 := Try.isAgg4
  z4 := Try.sizeOf4
  v4 := Try.zeroValue4
  t5 := Try.underlying5
  a5 := Try.isAgg5
  z5 := Try.sizeOf5
  v5 := Try.zeroValue5
  t9 := Try.underlying9
  a9 := Try.isAgg9
  z9 := Try.sizeOf9
  v9 := Try.zeroValue9
  t22 := Try.underlying64
  a22 := Try.isAgg64
  z22 := Try.sizeOf64
  v22 := Try.zeroValue64
  t25 := Try.underlying93
  a25 := Try.isAgg93
  z25 := Try.sizeOf93
  v25 := Try.zeroValue93
  t39 := Try.underlying98
  a39 := Try.isAgg98
  z39 := Try.sizeOf98
  v39 := Try.zeroValue98
  t45 := Try.underlying103
  a45 := Try.isAgg103
  z45 := Try.sizeOf103
  v45 := Try.zeroValue103
  t46 := Try.underlying104
  a46 := Try.isAgg104
  z46 := Try.sizeOf104
  v46 := Try.zeroValue104
  t50 := Try.underlying108
  a50 := Try.isAgg108
  z50 := Try.sizeOf108
  v50 := Try.zeroValue108
  t53 := Try.underlying44
  a53 := Try.isAgg44
  z53 := Try.sizeOf44
  v53 := Try.zeroValue44
  t55 := Try.underlying41
  a55 := Try.isAgg41
  z55 := Try.sizeOf41
  v55 := Try.zeroValue41
  t66 := Try.underlying112
  a66 := Try.isAgg112
  z66 := Try.sizeOf112
  v66 := Try.zeroValue112
  t70 := Try.underlying116
  a70 := Try.isAgg116
  z70 := Try.sizeOf116
  v70 := Try.zeroValue116
  t76 := Try.underlying118
  a76 := Try.isAgg118
  z76 := Try.sizeOf118
  v76 := Try.zeroValue118
  t77 := Try.underlying119
  a77 := Try.isAgg119
  z77 := Try.sizeOf119
  v77 := Try.zeroValue119 }
open Go.Shelf Go.Sort in
abbrev Rn_ := S77
open Go.Shelf Go.Sort in
instance instRn : Inhabited Rn_ := ⟨z77⟩
open Go.Shelf Go.Sort in
def encN (x : Rn_) : List Value := [.int .i64 x.f0, .int .i64 x.f1]
open Go.Shelf Go.Sort in
def cfN (x y : Rn_) : Int := cmpI x.f0 y.f0
open Go.Shelf Go.Sort in
theorem ltN (x y : Rn_) : ltOf cfN x y = decide (x.f0 < y.f0) := by unfold ltOf cfN cmpI; (repeat' split) <;> simp <;> omega
open Go.Shelf Go.Sort in
theorem swoN : SWO (ltOf cfN) where
  irrefl x := by rw [ltN]; simp
  trans x y z h1 h2 := by rw [ltN] at *; simp at *; omega
  ntrans x y z h1 h2 := by rw [ltN] at *; simp at *; omega
open Go.Shelf Go.Sort in
def SortS : Prop := ∀ (W w0 : World) (base g c bf : Nat) (l : List Rn_), Kd.R k77 77 W base (fun _ => True) (.slice (some ⟨g, 0, none⟩) l.length c) l → W.heap[bf]? = some (.cells fieldC 68 (0, 0)) → base ≤ bf → Below base w0 W → base ≤ W.heap.size → l.length < 4611686018427387904 →
  Calls Try.prog 36 #[.slice (some ⟨g, 0, none⟩) l.length c, .func (.func 37) #[] #[.pointer (some ⟨bf, 0, none⟩)]] W fun e w' => e = .returned (.tuple #[]) ∧ ∃ l' : List Rn_, l'.Perm l ∧ l'.Pairwise (fun a b => a.f0 ≤ b.f0) ∧ Kd.R k77 77 w' base (fun _ => True) (.slice (some ⟨g, 0, none⟩) l'.length c) l' ∧ w'.heap[bf]? = some (.cells fieldC 68 (0, 0)) ∧ Below base w0 w'
open Go.Shelf Go.Sort in
theorem sortW_block {W : World} {g m : Nat} {d : Array Rn_} {os : Array Obj} {b : Nat} (hb : b < W.heap.size) (hg : b ≠ g) : (sortWorldK encN 2 W g 0 m d os).heap[b]? = W.heap[b]? := by
  unfold sortWorldK grow putRowK putRow mapBlock Sort.ahead
  simp only
  rw [Array.getElem?_append_left (by simpa using hb), Array.getElem?_modify, if_neg (fun h => hg h.symm)]
open Go.Shelf Go.Sort in
theorem sortW_row {W : World} {g m : Nat} {d : Array Rn_} {os : Array Obj} {cur : Array Value} {e : Nat} (h : W.heap[g]? = some (.cells cur e (0, 0))) : (sortWorldK encN 2 W g 0 m d os).heap[g]? = some (.cells (putCells id 0 (flatK encN 2 d) cur) e (0, 0)) := by
  have hb : g < W.heap.size := blk_lt h
  unfold sortWorldK grow putRowK putRow mapBlock Sort.ahead
  simp only
  rw [Array.getElem?_append_left (by simpa using hb), Array.getElem?_modify, if_pos rfl, h]
  rfl
open Go.Shelf Go.Sort in
theorem sortW_grown {W : World} {g m : Nat} {d : Array Rn_} {os : Array Obj} : W.grownBy (sortWorldK encN 2 W g 0 m d os) (some g) := by
  refine ⟨rfl, rfl, rfl, ?_, fun b hb hg => sortW_block hb (fun e => hg (by rw [e]))⟩
  unfold sortWorldK grow putRowK putRow mapBlock Sort.ahead
  simp only [Array.size_append, Array.size_modify]
  omega
open Go.Shelf Go.Sort in
theorem sort_is : SortS := by
  intro W w0 base g c bf l hR hbf hbb hbel hbase hLL
  have hC := (Kd.R_reads' hR).2.2
  obtain ⟨_, hlc, _⟩ := Kd.R_reads' hR
  have hmax := Kd.C_max hC
  obtain ⟨h0, inner, ho, hr⟩ := id hR
  obtain ⟨ho1, ho2⟩ := ho
  rcases ho2 with ⟨hv, _⟩ | ⟨g', cap', cur, hv, hb, hh, hnc', hcm, hcs, ht⟩
  · cases hv
  injection hv with ha _ hc
  injection ha with ha
  injection ha with hg
  subst hg; subst hc
  have hlt : g < W.heap.size := blk_lt hh
  have hne : bf ≠ g := by
    rintro rfl
    rw [hh] at hbf
    injection hbf with hbf
    injection hbf with _ hbf
    exact absurd hbf (by decide)
  have hsz : l.toArray.size < 4611686018427387904 := by simpa using hLL
  have hget : ∀ (d : Array Rn_) (j : Nat), j < d.size * 2 → (flatK encN 2 d)[j]! = if j % 2 = 0 then .int .i64 (d[j / 2]!).f0 else .int .i64 (d[j / 2]!).f1 := by
    intro d j hj
    rw [get_flatK _ _ _ _ hj]
    rcases Nat.mod_two_eq_zero_or_one j with h | h <;> rw [h] <;> rfl
  have hH : HoldsK encN 2 W g 0 l.toArray := by
    intro j hj
    rw [size_flatK] at hj
    rw [hget _ _ hj]
    simp only [List.size_toArray] at hj
    have hjl : j / 2 < l.length := by omega
    obtain ⟨cs, hcl, hcM, hcc, hcf⟩ := Kd.R_elem hR z77 ((j / 2 : Nat) : Int) (by omega) (by omega)
    have he := k77_openM hcM
    have hx : l.getD (j / 2) z77 = l.toArray[j / 2]! := by
      simp [List.getD_eq_getElem?_getD, hjl]
    simp only [Int.toNat_natCast] at hcc hcf he
    rw [hx] at he
    have hsz2 : (k77).sz = 2 := rfl
    have hf := hcf (j % 2)
    have hq := hcc (j % 2)
    rw [hsz2, show j / 2 * 2 + j % 2 = 0 + j by omega] at hf hq
    refine ⟨hq _ ?_, hf⟩
    rw [he]
    rcases Nat.mod_two_eq_zero_or_one j with h | h <;> rw [h] <;> rfl
  have hcmp : CmpLays Try.prog 37 #[.pointer (some ⟨bf, 0, none⟩)] encN 2 cfN g 0 l.toArray.size W := by
    intro m os dk _ x y
    exact joincmp_is bf x y _ ((sortW_block (blk_lt hbf) hne).trans hbf)
  have eg : ∀ args w, (callFunc 37 args).run Try.prog w = .ok (.enter 37 args) w := enters_of Try.func37 (by kernel_rfl) rfl
  have hcon := AnyQ.slices_SortFunc sortRun 2 Try.isAgg77 Try.sizeOf77 encN (fun _ => rfl) (fun x v hv => by simp [encN] at hv; rcases hv with rfl | rfl <;> rfl) cfN swoN 37 #[.pointer (some ⟨bf, 0, none⟩)] g 0 c l.toArray W eg hcmp hH hlt hsz
  rw [List.size_toArray] at hcon
  refine hcon.mono ?_
  rintro e w' ⟨rfl, d', n, os, ⟨hp1, _, hp2⟩, hs, rfl⟩
  have hsd : d'.size = l.length := by rw [hp1, List.size_toArray]
  refine ⟨rfl, d'.toList, ?_, ?_, ?_, (sortW_block (blk_lt hbf) hne).trans hbf, hbel.grown sortW_grown hbase (fun k hk => by obtain rfl := Option.some.inj hk; exact hb)⟩
  · have e1 : d'.extract 0 l.length = d' := by rw [← hsd]; exact Array.extract_size
    have e2 : l.toArray.extract 0 l.length = l.toArray := by rw [← List.size_toArray]; exact Array.extract_size
    rw [e1, e2] at hp2
    exact hp2
  · rw [List.pairwise_iff_getElem]
    intro i j hi hj hij
    have h := hs i j (Nat.zero_le _) hij (by simpa [hsd] using hj)
    rw [ltN] at h
    simp only [Array.length_toList] at hi hj
    rw [getElem!_pos d' i hi, getElem!_pos d' j hj] at h
    have h2 := of_decide_eq_false h
    simpa using Int.not_lt.mp h2
  · have hdl : d'.toList.length = d'.size := rfl
    rw [hdl]
    refine ⟨fun _ _ => trivial, (flatK encN 2 d').toList, ⟨?_, .inr ⟨g, c, _, rfl, hb, sortW_row hh, by omega, hcm, ?_, ?_⟩⟩, ?_, ?_⟩
    · rw [hdl]; show (flatK encN 2 d').toList.length = d'.size * 2; simp
    · simp only [putCells, Array.size_mapIdx]; exact hcs
    · have hk2 : (k77).sz = 2 := rfl
      rw [hk2] at hcs ⊢
      apply List.ext_getElem?
      intro j
      rw [List.getElem?_take]
      have hle : d'.size * 2 ≤ cur.size := by rw [hcs]; omega
      simp only [Array.getElem?_toList, putCells, Array.getElem?_mapIdx]
      by_cases hj : j < d'.size * 2
      · have hjc : j < cur.size := by omega
        have hjf : j < (flatK encN 2 d').size := by rw [size_flatK]; exact hj
        rw [if_pos (by simpa using hj), Array.getElem?_eq_getElem hjc, Option.map_some, if_pos ⟨Nat.zero_le _, by omega⟩, Nat.sub_zero, Array.getElem?_eq_getElem hjf, getElem!_pos _ j hjf]
        rfl
      · rw [if_neg (by simpa using hj), Array.getElem?_eq_none (by rw [size_flatK]; omega)]
    · show (flatK encN 2 d').toList.length = d'.toList.length * 2; simp
    · intro j p hj
      simp only [Array.getElem?_toList] at hj
      obtain ⟨hjs, hjp⟩ := Array.getElem?_eq_some_iff.mp hj
      have hk2 : (k77).sz = 2 := rfl
      have e3 : ((flatK encN 2 d').toList.drop (j * 2)).take 2 = [.int .i64 p.f0, .int .i64 p.f1] := by
        apply List.ext_getElem?
        intro i
        rw [List.getElem?_take, List.getElem?_drop]
        by_cases hi : i < 2
        · have hji : j * 2 + i < d'.size * 2 := by omega
          have hjf : j * 2 + i < (flatK encN 2 d').size := by rw [size_flatK]; exact hji
          rw [if_pos hi, Array.getElem?_toList, Array.getElem?_eq_getElem hjf, ← getElem!_pos (flatK encN 2 d') (j * 2 + i) hjf, hget _ _ hji, show (j * 2 + i) / 2 = j by omega, show (j * 2 + i) % 2 = i by omega, getElem!_pos d' j hjs, hjp]
          match i, hi with
          | 0, _ => rfl
          | 1, _ => rfl
        · rw [if_neg hi, List.getElem?_eq_none (by simp; omega)]
      rw [hk2, e3]
      exact k77_mkM _ _ _ p
set_option maxRecDepth 100000 in
set_option maxHeartbeats 4000000 in
theorem ins0_is (A : Option Addr) (c : Nat) (F : Value) (w : World) : Calls Try.prog 45 #[.slice A 0 c, .int .i64 0, .int .i64 0, F] w fun e w' => e = .returned (.tuple #[]) ∧ Below w.heap.size w w' := by
  go_enter Try.func45, Try.ntmps45
  go_wp2
  go_loopg [8] 0 (fun kq v8 w' => v8 = .int .i64 1 ∧ w' = w)
  case atStart => exact ⟨rfl, rfl⟩
  case round =>
    obtain ⟨rfl, rfl⟩ := hrel
    go_wp2
    go_end0
    exact ⟨rfl, Below.refl _ _⟩
set_option maxRecDepth 100000 in
set_option maxHeartbeats 4000000 in
theorem pdq0_is (A : Option Addr) (c : Nat) (n : Int) (F : Value) (w : World) : Calls Try.prog 43 #[.slice A 0 c, .int .i64 0, .int .i64 0, .int .i64 n, F] w fun e w' => e = .returned (.tuple #[]) ∧ Below w.heap.size w w' := by
  go_enter Try.func43, Try.ntmps43
  go_wp2
  go_loopg [1, 2, 3] 0 (fun kq v1 v2 v3 w' => v1 = .int .i64 0 ∧ v2 = .int .i64 0 ∧ v3 = .int .i64 n ∧ w' = w)
  case atStart => exact ⟨rfl, rfl, rfl, rfl⟩
  case round =>
    obtain ⟨rfl, rfl, rfl, rfl⟩ := hrel
    go_wp2_with (go_at_call 45; refine (ins0_is A c F _).mono ?_; rintro e w5 ⟨rfl, hb5⟩)
    (try simp only [Exit.inBlock, Exit.then])
    refine bodyPost_ret (results_none rfl _ _ _) rfl ?_
    exact ⟨rfl, hb5⟩
set_option maxRecDepth 100000 in
set_option maxHeartbeats 4000000 in
theorem len640_is (w : World) : Calls Try.prog 54 #[.int .u64 0] w fun e w' => (∃ n : Int, e = .returned (.int .i64 n)) ∧ w' = w := by
  go_enter Try.func54, Try.ntmps54
  go_wp2
  go_ret
  exact ⟨⟨_, rfl⟩, rfl⟩
set_option maxRecDepth 100000 in
set_option maxHeartbeats 4000000 in
theorem len0_is (w : World) : Calls Try.prog 44 #[.int .u64 0] w fun e w' => (∃ n : Int, e = .returned (.int .i64 n)) ∧ w' = w := by
  go_enter Try.func44, Try.ntmps44
  go_wp2_with (go_at_call 54; refine (len640_is _).mono ?_; rintro e w5 ⟨⟨n0, rfl⟩, rfl⟩)
  go_ret
  exact ⟨⟨_, rfl⟩, rfl⟩
set_option maxRecDepth 100000 in
set_option maxHeartbeats 4000000 in
theorem sort0_is (A : Option Addr) (c : Nat) (F : Value) (w : World) : Calls Try.prog 36 #[.slice A 0 c, F] w fun e w' => e = .returned (.tuple #[]) ∧ Below w.heap.size w w' := by
  go_enter Try.func36, Try.ntmps36
  go_wp2_with (first | (go_at_call 44; refine (len0_is _).mono ?_; rintro e w5 ⟨⟨n0, rfl⟩, rfl⟩) | (go_at_call 43; refine (pdq0_is A c _ F _).mono ?_; rintro e w6 ⟨rfl, hb6⟩))
  go_end0
  exact ⟨rfl, hb6⟩
def joinS (out : List Rn_) (x : Rn_) : List Rn_ :=
  if out = [] ∨ ((rd_T77 out ((out.length - 1 : Nat) : Int)).f1 ≠ 1099511627776 ∧ (rd_T77 out ((out.length - 1 : Nat) : Int)).f1 + 1 < x.f0) then out ++ [x]
  else if (rd_T77 out ((out.length - 1 : Nat) : Int)).f1 < x.f1 then out.set (out.length - 1) ⟨(rd_T77 out ((out.length - 1 : Nat) : Int)).f0, x.f1⟩ else out
theorem joinS_len (out : List Rn_) (x : Rn_) : (joinS out x).length ≤ out.length + 1 := by unfold joinS; (repeat' split) <;> simp
theorem joinF_len (l : List Rn_) : ∀ out : List Rn_, (l.foldl joinS out).length ≤ out.length + l.length := by
  induction l with
  | nil => intro out; simp
  | cons x xs ih => intro out; have h1 := ih (joinS out x); have h2 := joinS_len out x; simp only [List.foldl_cons, List.length_cons]; omega
theorem joinS_bd (P : Int → Prop) (out : List Rn_) (x : Rn_) (ho : ∀ y ∈ out, P y.f1) (hx : P x.f1) : ∀ y ∈ joinS out x, P y.f1 := by
  unfold joinS
  intro y
  split
  · intro h; rcases List.mem_append.1 h with h | h
    · exact ho y h
    · rw [List.mem_singleton.1 h]; exact hx
  · split
    · intro h; rcases List.mem_or_eq_of_mem_set h with h | h
      · exact ho y h
      · rw [h]; exact hx
    · exact ho y
theorem joinF_bd (P : Int → Prop) (l : List Rn_) : ∀ out : List Rn_, (∀ y ∈ out, P y.f1) → (∀ y ∈ l, P y.f1) → ∀ y ∈ l.foldl joinS out, P y.f1 := by
  induction l with
  | nil => intro out ho _; exact ho
  | cons x xs ih => intro out ho hl; exact ih _ (joinS_bd P out x ho (hl x (List.mem_cons_self ..))) (fun y hy => hl y (List.mem_cons_of_mem _ hy))
theorem cmpI_lt (a b : Int) : decide (cmpI a b < 0) = decide (a < b) := by unfold cmpI; (repeat' split) <;> simp <;> omega
theorem infoN19 : (Try.prog.info? 77).map (fun i => (i.zero, i.size, i.bytes)) = some (some (.agg #[(.int .i64 0), (.int .i64 0)]), 2, 16) := by kernel_rfl
set_option maxRecDepth 100000 in
set_option maxHeartbeats 4000000 in
theorem joinP_is (A : Option Addr) (c : Nat) (l : List Rn_) (hne : 0 < l.length) (hL : (l.length + 1) * 16 ≤ 140737488355328) (hB : ∀ x ∈ l, 0 ≤ x.f1 ∧ x.f1 ≤ 1099511627776) (w : World) (hr : Kd.C k77 w A l.length l) (hc : l.length ≤ c) :
    Calls Try.prog 23 #[.agg fieldC, .slice A l.length c] w fun e w' => ∃ (v : Value) (l' : List Rn_), e = .returned v ∧ l'.Perm l ∧ l'.Pairwise (fun a b => a.f0 ≤ b.f0) ∧ Kd.R k77 77 w' w.heap.size (fun _ => True) v (l'.foldl joinS []) ∧ Below w.heap.size w w' := by
  have HR := Aside0.mk hr
  have HM := Aside0.mk (Kd.C_max hr)
  have HL := Aside0.mk hL
  have HBN := Aside0.mk hB
  have HNE := Aside0.mk hne
  clear hr hL hB
  go_enter Try.func23, Try.ntmps23
  have BF0 := Aside0.mk (heap_alloc_new w (.cells fieldC 68))
  have hb0 := Aside0.mk (below_alloc (Below.refl w.heap.size w) (.cells fieldC 68))
  unfold fieldC at BF0 hb0
  unfold fieldC
  go_wp2_with (first | (go_at_call 35; refine (clone_is A c l (by have := HL.out; omega) _ (Kd.C_below HR.out hb0.out) hc).mono ?_; rintro e w2 ⟨v2, rfl, hR2, hb2⟩; have HR2 := Aside0.mk (Kd.R_lower hR2 hb0.out.size); have HB2 := Aside0.mk (below_step hb0.out hb2); have BF2 := Aside0.mk (blk_below BF0.out hb2); clear hR2 hb2 hb0 BF0))
  obtain ⟨h00, inner, ho, hrr⟩ := HR2.out
  obtain ⟨hown1, (⟨_, h0⟩ | ⟨g, cap, cur, hv, hrest⟩)⟩ := ho
  · exact absurd HNE.out (by simp at h0; simp [h0])
  have hv' : v2 = .slice (some ⟨g, 0, none⟩) l.length cap := hv
  subst hv'
  clear h00 hrr hown1 hv hrest
  refine (sort_is w2 w w.heap.size g cap w.heap.size l HR2.out BF2.out (Nat.le_refl _) HB2.out HB2.out.size (by have := HL.out; omega)).mono ?_
  rintro e w3 ⟨rfl, l', hperm, hpw, hR3, hBF3, hB3⟩
  have HP := Aside0.mk hperm
  have HPW := Aside0.mk hpw
  have HR3 := Aside0.mk hR3
  have BF3 := Aside0.mk hBF3
  have HB3 := Aside0.mk hB3
  have HLN := Aside0.mk (hperm.length_eq)
  have HBN' := Aside0.mk (fun x (hx : x ∈ l') => HBN.out x (hperm.mem_iff.1 hx))
  clear hperm hpw hR3 hBF3 hB3 HR2 HB2 BF2
  rw [← HLN.out]
  go_wp2
  go_loopg [5, 16] l'.length (fun kq v5 v16 w' => ∃ (i : Nat), v16 = .int .i64 (i : Int) ∧ Aside0 (i ≤ l'.length ∧ kq = l'.length - i) ∧ Aside0 (Kd.R k77 77 w' w3.heap.size (fun _ => True) v5 ((l'.take i).foldl joinS [])) ∧ Aside0 (Below w3.heap.size w3 w'))
  case atStart => exact ⟨0, rfl, ⟨Nat.zero_le _, rfl⟩, ⟨Kd.R_nil _ _ _ _ _⟩, ⟨Below.refl _ _⟩⟩
  case round =>
    obtain ⟨i, rfl, HJ, HO, Hb⟩ := hrel
    have hm := Kd.C_max (Kd.R_reads' HR3.out).2.2
    have HM3 := Aside0.mk hm
    by_cases hi : i < l'.length
    · have hd : decide ((i : Int) < (l'.length : Int)) = true := decide_eq_true (by omega)
      have hdn : decide (i < l'.length) = true := decide_eq_true hi
      have htk : (l'.take (i + 1)).foldl joinS [] = joinS ((l'.take i).foldl joinS []) (rd_T77 l' (i : Int)) := by
        rw [List.take_succ_eq_append_getElem hi, List.foldl_append]
        simp only [List.foldl_cons, List.foldl_nil, rd_T77, Int.toNat_natCast, List.getD_eq_getElem?_getD, List.getElem?_eq_getElem hi, Option.getD_some]
      have p0 : (0 : Int) ≤ (i : Int) := by omega
      have q0 : (i : Int) < (l'.length : Int) := by omega
      have hxm : rd_T77 l' (i : Int) ∈ l' := by
        simp only [rd_T77, Int.toNat_natCast, List.getD_eq_getElem?_getD, List.getElem?_eq_getElem hi, Option.getD_some]
        exact List.getElem_mem hi
      have HXB := Aside0.mk (HBN'.out _ hxm)
      have HOL : Aside0 (((l'.take i).foldl joinS []).length ≤ i) := ⟨by have h1 := joinF_len (l'.take i) []; rw [List.length_take] at h1; simp only [List.length_nil] at h1; omega⟩
      have HOB : Aside0 (∀ y ∈ (l'.take i).foldl joinS [], 0 ≤ y.f1 ∧ y.f1 ≤ 1099511627776) := ⟨joinF_bd (fun z => 0 ≤ z ∧ z ≤ 1099511627776) (l'.take i) [] (fun _ h => by simp at h) (fun y hy => HBN'.out y (List.mem_of_mem_take hy))⟩
      obtain ⟨ad, ead, hx0, hx1⟩ := at_T77 (Kd.C_below (Kd.R_reads' HR3.out).2.2 Hb.out) (i : Int) p0 q0
      obtain rfl := Option.some.inj ead
      simp only [Int.toNat_natCast, add_at, Nat.zero_add] at hx0 hx1
      obtain ⟨x, hx⟩ : ∃ x, rd_T77 l' (i : Int) = x := ⟨_, rfl⟩
      rw [hx] at hx0 hx1 htk HXB
      obtain ⟨out, hout⟩ : ∃ out, (l'.take i).foldl joinS [] = out := ⟨_, rfl⟩
      rw [hout] at HO HOL HOB htk
      have HT := Aside0.mk htk
      have HII := Aside0.mk hi
      obtain ⟨A5, c5, rfl⟩ := Kd.R_slice HO.out
      replace p0 := eq_true p0
      replace q0 := eq_true q0
      clear hx hxm htk hout
      have BFr := Aside0.mk (blk_alloc (blk_below BF3.out Hb.out) (.cells #[.int .i64 x.f0, .int .i64 x.f1] 77))
      have BX := Aside0.mk (heap_alloc_new wr (.cells #[.int .i64 x.f0, .int .i64 x.f1] 77))
      have HOX := Aside0.mk (Kd.R_alloc HO.out (.cells #[.int .i64 x.f0, .int .i64 x.f1] 77))
      have HbX := Aside0.mk (below_alloc Hb.out (.cells #[.int .i64 x.f0, .int .i64 x.f1] 77))
      by_cases hn : 0 < out.length
      · obtain ⟨t, ht⟩ : ∃ t, rd_T77 out ((out.length - 1 : Nat) : Int) = t := ⟨_, rfl⟩
        obtain ⟨gr, cr, hsl, hgb, hgl, _⟩ := Kd.R_form HOX.out hn
        simp only [Value.slice.injEq] at hsl
        obtain ⟨rfl, _, rfl⟩ := hsl
        have htm : t ∈ out := by
          rw [← ht]
          simp only [rd_T77, Int.toNat_natCast, List.getD_eq_getElem?_getD, List.getElem?_eq_getElem (show out.length - 1 < out.length by omega), Option.getD_some]
          exact List.getElem_mem _
        have HTB := Aside0.mk (HOB.out t htm)
        obtain ⟨ad', ead', hy0, hy1⟩ := at_T77 (Kd.R_reads' HOX.out).2.2 ((out.length - 1 : Nat) : Int) (by omega) (by omega)
        obtain rfl := Option.some.inj ead'
        simp only [Int.toNat_natCast, add_at, Nat.zero_add] at hy0 hy1
        rw [ht] at hy0 hy1
        have HNI := Aside0.mk (show out.length < 9223372036854775807 by have h1 := HOL.out; have h2 := HII.out; omega)
        have wi : IntKind.i64.wrap ((out.length : Int) - 1) = (out.length : Int) - 1 := by rw [i64_w]; unfold wrap64; have := HNI.out; omega
        have ti : ((out.length : Int) - 1).toNat = out.length - 1 := by omega
        have pi0 : (0 ≤ (out.length : Int) - 1) = True := eq_true (by omega)
        have qi0 : ((out.length : Int) - 1 < (out.length : Int)) = True := eq_true (by omega)
        have pi1 : (1 ≤ (out.length : Int)) = True := eq_true (by omega)
        have pi2 : (1 ≤ out.length) = True := eq_true (by omega)
        have dn : decide ((out.length : Int) - 1 < 0) = false := decide_eq_false (by omega)
        have hg1 := (blk_cell BFr.out 1).trans (rfl : _ = some (Value.int .i64 1099511627776))
        have hg2 := (blk_cell BFr.out 2).trans (rfl : _ = some (Value.func (.func 32) #[] #[]))
        have hg3 := (blk_cell BFr.out 3).trans (rfl : _ = some (Value.func (.func 33) #[] #[]))
        have hx0 := (blk_cell BX.out 0).trans (rfl : _ = some (Value.int .i64 x.f0))
        have e4 : decide (cmpI (t.f1 + 1) x.f0 < 0) = decide (t.f1 + 1 < x.f0) := cmpI_lt _ _
        have HN := Aside0.mk hn
        have HTT := Aside0.mk ht
        clear ht htm hn
        by_cases c1 : t.f1 ≠ 1099511627776 ∧ t.f1 + 1 < x.f0
        · have d4 : (t.f1 != 1099511627776) = true := bne_iff_ne.mpr c1.1
          have d5 : decide (t.f1 + 1 < x.f0) = true := decide_eq_true c1.2
          have hjs : joinS out x = out ++ [x] := if_pos (.inr (by rw [HTT.out]; exact c1))
          clear c1
          go_wp2
          go_quiet ((first | (go_at_call 32; exact Calls.quiet_of_same (cmp_is _ _ _)) | (go_at_call 33; exact Calls.quiet_of_same (next_is _ (by have := HTB.out; omega) (by have := HTB.out; omega) _))))
          have HO2 := Aside0.mk (Kd.R_below HOX.out (pw_below_drewN (Below.refl _ _) nq))
          have Hb2 := Aside0.mk (pw_below_drewN HbX.out nq)
          have BX2 := Aside0.mk (blk_drewN BX.out nq)
          have hz0 := (blk_cell BX2.out 0).trans (rfl : _ = some (Value.int .i64 x.f0))
          have hz1 := (blk_cell BX2.out 1).trans (rfl : _ = some (Value.int .i64 x.f1))
          go_wp2_with (at_builtin; refine Kd.R_append k77 (w0 := w3) w3.heap.size rfl (.tmp 51) (.tmp 53) 64 77 (.agg #[(.int .i64 0), (.int .i64 0)]) 16 rfl Try.underlying64 infoN19 rfl (by decide) (by omega) _ out x [.int .i64 x.f0, .int .i64 x.f1] (fun _ => True) (fun _ => False) rfl ?aX (k77_mkM _ _ _ x) (fun _ hk => hk.elim) (fun _ _ => trivial) HO2.out Hb2.out Hb2.out.size (by have h1 := HL.out; have h2 := HOL.out; have h3 := HII.out; have h4 := HLN.out; omega) ?_; (case aX => first | rfl | (go_simp; done) | (go_simp; rfl)); intro v1 w1 ho1 hb1 hg1 hat1; have HO1 := Aside0.mk ho1; have Hb1 := Aside0.mk hb1; clear ho1 hb1 hg1 hat1)
          all_goals
            go_roundg (l'.length - (i + 1))
            case measure => have := HJ.out; have := HII.out; omega
            case rel => exact ⟨i + 1, by go_num, ⟨by have := HII.out; omega, rfl⟩, ⟨by rw [HT.out, hjs]; exact HO1.out⟩, Hb1⟩
        · have hjn : ¬ (out = [] ∨ ((rd_T77 out ((out.length - 1 : Nat) : Int)).f1 ≠ 1099511627776 ∧ (rd_T77 out ((out.length - 1 : Nat) : Int)).f1 + 1 < x.f0)) := by
            rw [HTT.out]
            rintro (h | h)
            · have := HN.out; rw [h] at this; simp at this
            · exact c1 h
          have cr : (t.f1 != 1099511627776) = false ∨ ((t.f1 != 1099511627776) = true ∧ decide (t.f1 + 1 < x.f0) = false) := by
            by_cases c : t.f1 = 1099511627776
            · exact .inl (bne_eq_false_iff_eq.mpr c)
            · exact .inr ⟨bne_iff_ne.mpr c, decide_eq_false (fun h => c1 ⟨c, h⟩)⟩
          have e5 : decide (cmpI t.f1 x.f1 < 0) = decide (t.f1 < x.f1) := cmpI_lt _ _
          have HJN := Aside0.mk hjn
          clear c1 hjn
          by_cases c2 : t.f1 < x.f1
          case' pos =>
            have hjs : joinS out x = out.set (out.length - 1) ⟨t.f0, x.f1⟩ := by unfold joinS; rw [if_neg HJN.out, HTT.out, if_pos c2]
            have d6 : decide (t.f1 < x.f1) = true := decide_eq_true c2
          case' neg =>
            have hjs : joinS out x = out := by unfold joinS; rw [if_neg HJN.out, HTT.out, if_neg c2]
            have d6 : decide (t.f1 < x.f1) = false := decide_eq_false c2
          all_goals
            have HJS := Aside0.mk hjs
            clear c2 hjs
            rcases cr with d4 | ⟨d4, d5⟩
          all_goals
            go_wp2
            go_quiet ((first | (go_at_call 32; exact Calls.quiet_of_same (cmp_is _ _ _)) | (go_at_call 33; exact Calls.quiet_of_same (next_is _ (by have := HTB.out; omega) (by have := HTB.out; omega) _))))
            have HO8 := Aside0.mk (Kd.R_below HOX.out (pw_below_drewN (Below.refl _ _) nq))
            have Hb8 := Aside0.mk (pw_below_drewN HbX.out nq)
            have BF8 := Aside0.mk (blk_drewN BFr.out nq)
            have BX8 := Aside0.mk (blk_drewN BX.out nq)
            clear hy0 hy1 hg1 hg2 hg3 hx0 hx1 HOX HbX BFr BX HO Hb
            generalize (wr.alloc (.cells #[.int .i64 x.f0, .int .i64 x.f1] 77)).drewN nq = W8 at HO8 Hb8 BF8 BX8 ⊢
            obtain ⟨ad8, ead8, hy0, hy1⟩ := at_T77 (Kd.R_reads' HO8.out).2.2 ((out.length - 1 : Nat) : Int) (by have := HN.out; omega) (by have := HN.out; omega)
            obtain rfl := Option.some.inj ead8
            simp only [Int.toNat_natCast, add_at, Nat.zero_add] at hy0 hy1
            rw [HTT.out] at hy0 hy1
            have hg2 := (blk_cell BF8.out 2).trans (rfl : _ = some (Value.func (.func 32) #[] #[]))
            have hx1 := (blk_cell BX8.out 1).trans (rfl : _ = some (Value.int .i64 x.f1))
            go_wp2
            go_quiet ((first | (go_at_call 32; exact Calls.quiet_of_same (cmp_is _ _ _)) | (go_at_call 33; exact Calls.quiet_of_same (next_is _ (by have := HTB.out; omega) (by have := HTB.out; omega) _))))
            have HO9 := Aside0.mk (Kd.R_below HO8.out (pw_below_drewN (Below.refl _ _) nq))
            have Hb9 := Aside0.mk (pw_below_drewN Hb8.out nq)
            have BX9 := Aside0.mk (blk_drewN BX8.out nq)
            clear hy0 hy1 hg2 hx1 HO8 Hb8 BF8 BX8
            generalize W8.drewN nq = W9 at HO9 Hb9 BX9 ⊢
            have hx1 := (blk_cell BX9.out 1).trans (rfl : _ = some (Value.int .i64 x.f1))
            first
            | (obtain ⟨cs4, hcl4, hcM4, hcc4, hcf4⟩ := Kd.R_elem HO9.out z77 ((out.length - 1 : Nat) : Int) (by have := HN.out; omega) (by have := HN.out; omega)
               have HE4 := Aside0.mk (show cs4 = _ from k77_openM hcM4)
               have hz1 : W9.cell? ⟨gr, (out.length - 1) * 2 + 1, none⟩ = some (.int .i64 t.f1) := by
                 have h_ := hcc4 1 (.int .i64 t.f1) (by rw [HE4.out]; simp only [Int.toNat_natCast, ← HTT.out]; rfl)
                 simp only [Int.toNat_natCast] at h_
                 exact h_
               have hzf : W9.frozen? ⟨gr, (out.length - 1) * 2 + 1, none⟩ = false := by
                 have h_ := hcf4 1
                 simp only [Int.toNat_natCast] at h_
                 exact h_
               have hR := (Kd.R_seg HO9.out ((out.length - 1 : Nat) : Int) (by have := HN.out; omega) (by have := HN.out; omega) (c := cs4) (seg := [.int .i64 x.f1]) (j := 1) hcl4 hcc4 (show 1 + 1 ≤ 2 by decide) (x' := (⟨t.f0, x.f1⟩ : Rn_)) (okp := fun _ => False) (by rw [HE4.out]; simp only [Int.toNat_natCast]; exact (by have e_ : out.getD (out.length - 1) z77 = t := HTT.out; rw [e_]; exact k77_mkM _ _ _ (⟨t.f0, x.f1⟩ : Rn_))) (fun _ hk => hk.elim)).1
               simp only [Int.toNat_natCast] at hR
               have HOF := Aside0.mk hR
               have HbF := Aside0.mk (Hb9.out.setCell (p := ⟨gr, (out.length - 1) * 2 + 1, none⟩) hgb (.int .i64 x.f1))
               clear hcl4 hcM4 hcc4 hcf4 hR
               rw [show decide (t.f1 < x.f1) = true from d6] at e5
               go_wp2
               go_roundg (l'.length - (i + 1))
               case measure => have := HJ.out; have := HII.out; omega
               case rel => exact ⟨i + 1, by go_num, ⟨by have := HII.out; omega, rfl⟩, ⟨by rw [HT.out, HJS.out]; exact HOF.out⟩, HbF⟩)
            | (go_wp2
               go_roundg (l'.length - (i + 1))
               case measure => have := HJ.out; have := HII.out; omega
               case rel => exact ⟨i + 1, by go_num, ⟨by have := HII.out; omega, rfl⟩, ⟨by rw [HT.out, HJS.out]; exact HO9.out⟩, Hb9⟩)
      · obtain rfl : out = [] := List.length_eq_zero_iff.mp (by omega)
        have hjs : joinS [] x = [] ++ [x] := if_pos (.inl rfl)
        simp only [List.length_nil] at *
        have wi : IntKind.i64.wrap (((0 : Nat) : Int) - 1) = -1 := by rw [i64_w]; unfold wrap64; omega
        have dn : decide ((-1 : Int) < 0) = true := by decide
        go_wp2
        go_quiet (fail)
        have HO2 := Aside0.mk (Kd.R_below HOX.out (pw_below_drewN (Below.refl _ _) nq))
        have Hb2 := Aside0.mk (pw_below_drewN HbX.out nq)
        have BX2 := Aside0.mk (blk_drewN BX.out nq)
        have hz0 := (blk_cell BX2.out 0).trans (rfl : _ = some (Value.int .i64 x.f0))
        have hz1 := (blk_cell BX2.out 1).trans (rfl : _ = some (Value.int .i64 x.f1))
        go_wp2_with (at_builtin; refine Kd.R_append k77 (w0 := w3) w3.heap.size rfl (.tmp 51) (.tmp 53) 64 77 (.agg #[(.int .i64 0), (.int .i64 0)]) 16 rfl Try.underlying64 infoN19 rfl (by decide) (by omega) _ [] x [.int .i64 x.f0, .int .i64 x.f1] (fun _ => True) (fun _ => False) rfl ?aX (k77_mkM _ _ _ x) (fun _ hk => hk.elim) (fun _ _ => trivial) HO2.out Hb2.out Hb2.out.size (by have h1 := HL.out; have h3 := HII.out; have h4 := HLN.out; simp only [List.length_nil]; omega) ?_; (case aX => first | rfl | (go_simp; done) | (go_simp; rfl)); intro v1 w1 ho1 hb1 hg1 hat1; have HO1 := Aside0.mk ho1; have Hb1 := Aside0.mk hb1; clear ho1 hb1 hg1 hat1)
        all_goals
          go_roundg (l'.length - (i + 1))
          case measure => have := HJ.out; have := HII.out; omega
          case rel => exact ⟨i + 1, by go_num, ⟨by have := HII.out; omega, rfl⟩, ⟨by rw [HT.out, hjs]; exact HO1.out⟩, Hb1⟩
    · have hd : decide ((i : Int) < (l'.length : Int)) = false := decide_eq_false (by omega)
      have hdn : decide (i < l'.length) = false := decide_eq_false hi
      have ho := HO.out
      rw [List.take_of_length_le (by omega)] at ho
      have HO2 := Aside0.mk ho
      clear ho
      go_wp2
      go_ret
      exact ⟨_, l', rfl, HP.out, HPW.out, Kd.R_lower HO2.out HB3.out.size, below_step HB3.out Hb.out⟩
def okR (x : Rn_) : Prop := 0 ≤ x.f0 ∧ x.f0 ≤ x.f1 ∧ x.f1 ≤ 1099511627776
def inN (t : Int) (l : List Rn_) : Prop := ∃ y ∈ l, y.f0 ≤ t ∧ t ≤ y.f1
def Snd (l : List Rn_) : Prop := (∀ y ∈ l, okR y) ∧ l.Pairwise (fun a b => a.f1 + 1 < b.f0)
theorem inN_cons (t : Int) (y : Rn_) (l : List Rn_) : inN t (y :: l) ↔ (y.f0 ≤ t ∧ t ≤ y.f1) ∨ inN t l := by
  unfold inN
  simp only [List.mem_cons, exists_eq_or_imp]
theorem inN_app (t : Int) (l m : List Rn_) : inN t (l ++ m) ↔ inN t l ∨ inN t m := by
  unfold inN
  simp only [List.mem_append, or_and_right, exists_or]
theorem inN_one (t : Int) (y : Rn_) : inN t [y] ↔ (y.f0 ≤ t ∧ t ≤ y.f1) := by
  unfold inN
  simp
theorem Snd.low {y : Rn_} {l : List Rn_} (h : Snd (y :: l)) {t : Int} (ht : inN t l) : y.f1 + 1 < t := by
  obtain ⟨z, hz, h1, _⟩ := ht
  have := (List.pairwise_cons.1 h.2).1 z hz
  omega
theorem Snd.tail {y : Rn_} {l : List Rn_} (h : Snd (y :: l)) : Snd l := ⟨fun z hz => h.1 z (List.mem_cons_of_mem _ hz), (List.pairwise_cons.1 h.2).2⟩
theorem Snd.one : ∀ (l m : List Rn_), Snd l → Snd m → (∀ t, inN t l ↔ inN t m) → l = m
  | [], [], _, _, _ => rfl
  | [], y :: m, _, hm, h => by
    obtain ⟨z, hz, _⟩ := (h y.f0).2 ((inN_cons _ _ _).2 (.inl ⟨Int.le_refl _, (hm.1 y (List.mem_cons_self ..)).2.1⟩))
    simp at hz
  | x :: l, [], hl, _, h => by
    obtain ⟨z, hz, _⟩ := (h x.f0).1 ((inN_cons _ _ _).2 (.inl ⟨Int.le_refl _, (hl.1 x (List.mem_cons_self ..)).2.1⟩))
    simp at hz
  | x :: l, y :: m, hl, hm, h => by
    have a2 := (hl.1 x (List.mem_cons_self ..)).2.1
    have b2 := (hm.1 y (List.mem_cons_self ..)).2.1
    have up : ∀ {z : Rn_} {r : List Rn_} {t : Int}, Snd (z :: r) → inN t (z :: r) → z.f0 ≤ t ∧ (t ≤ z.f1 ∨ z.f1 + 1 < t) := fun {z r t} hr ht => by
      have h9 := (hr.1 z (List.mem_cons_self ..)).2.1
      rcases (inN_cons t z r).1 ht with a | a
      · exact ⟨a.1, .inl a.2⟩
      · have := hr.low a
        exact ⟨by omega, .inr this⟩
    have e0 : x.f0 = y.f0 := by
      have h1 := (up hm ((h x.f0).1 ((inN_cons _ _ _).2 (.inl ⟨Int.le_refl _, a2⟩)))).1
      have h2 := (up hl ((h y.f0).2 ((inN_cons _ _ _).2 (.inl ⟨Int.le_refl _, b2⟩)))).1
      omega
    have e1 : x.f1 = y.f1 := by
      by_cases c : x.f1 < y.f1
      · have h1 := (up hl ((h (x.f1 + 1)).2 ((inN_cons _ _ _).2 (.inl ⟨by omega, by omega⟩)))).2
        omega
      · by_cases d : y.f1 < x.f1
        · have h1 := (up hm ((h (y.f1 + 1)).1 ((inN_cons _ _ _).2 (.inl ⟨by omega, by omega⟩)))).2
          omega
        · omega
    have exy : x = y := by
      cases x; cases y
      simp only at e0 e1
      rw [e0, e1]
    subst exy
    rw [Snd.one l m hl.tail hm.tail (fun t => ?_)]
    have ht := h t
    rw [inN_cons, inN_cons] at ht
    constructor
    · intro hh
      have g := hl.low hh
      rcases ht.1 (.inr hh) with a | a
      · omega
      · exact a
    · intro hh
      have g := hm.low hh
      rcases ht.2 (.inr hh) with a | a
      · omega
      · exact a
theorem rd_last (dl : List Rn_) (t : Rn_) : rd_T77 (dl ++ [t]) (((dl ++ [t]).length - 1 : Nat) : Int) = t := by
  simp [rd_T77, List.getD_eq_getElem?_getD]
theorem set_last (dl : List Rn_) (t z : Rn_) : (dl ++ [t]).set ((dl ++ [t]).length - 1) z = dl ++ [z] := by
  simp
theorem joinS_snd (out : List Rn_) (x : Rn_) (ho : Snd out) (hx : okR x) (hle : ∀ y ∈ out, y.f0 ≤ x.f0) : Snd (joinS out x) ∧ (∀ t, inN t (joinS out x) ↔ inN t out ∨ (x.f0 ≤ t ∧ t ≤ x.f1)) ∧ ∀ y ∈ joinS out x, y.f0 ≤ x.f0 := by
  rcases List.eq_nil_or_concat out with rfl | ⟨dl, t, rfl⟩
  · have e : joinS [] x = [x] := if_pos (.inl rfl)
    rw [e]
    exact ⟨⟨fun y hy => by rw [List.mem_singleton.1 hy]; exact hx, List.pairwise_singleton _ _⟩, fun t => by rw [inN_one]; exact ⟨.inr, fun h => h.elim (fun ⟨z, hz, _⟩ => by simp at hz) id⟩, fun y hy => by rw [List.mem_singleton.1 hy]; exact Int.le_refl _⟩
  · rw [List.concat_eq_append] at *
    obtain ⟨ho1, ho2⟩ := ho
    rw [List.pairwise_append] at ho2
    obtain ⟨hp, _, hq⟩ := ho2
    have htk := ho1 t (by simp)
    have htx := hle t (by simp)
    have hdt : ∀ y ∈ dl, y.f1 + 1 < t.f0 := fun y hy => hq y hy t (by simp)
    unfold joinS
    rw [rd_last, set_last]
    obtain ⟨x1, x2, x3⟩ := hx
    obtain ⟨t1, t2, t3⟩ := htk
    by_cases c : dl ++ [t] = [] ∨ (t.f1 ≠ 1099511627776 ∧ t.f1 + 1 < x.f0)
    · rw [if_pos c]
      have c2 : t.f1 + 1 < x.f0 := (c.resolve_left (by simp)).2
      refine ⟨⟨fun y hy => ?_, ?_⟩, fun s => by rw [inN_app _ (dl ++ [t]), inN_one], fun y hy => ?_⟩
      · rcases List.mem_append.1 hy with h | h
        · exact ho1 y h
        · rw [List.mem_singleton.1 h]; exact ⟨x1, x2, x3⟩
      · rw [List.pairwise_append]
        refine ⟨by rw [List.pairwise_append]; exact ⟨hp, List.pairwise_singleton _ _, hq⟩, List.pairwise_singleton _ _, fun a ha b hb => ?_⟩
        rw [List.mem_singleton.1 hb]
        rcases List.mem_append.1 ha with h | h
        · have := hdt a h; omega
        · rw [List.mem_singleton.1 h]; exact c2
      · rcases List.mem_append.1 hy with h | h
        · exact hle y h
        · rw [List.mem_singleton.1 h]; exact Int.le_refl _
    · rw [if_neg c]
      have c2 : x.f0 ≤ t.f1 + 1 := by
        by_cases d : t.f1 = 1099511627776
        · omega
        · exact Int.not_lt.1 (fun h => c (.inr ⟨d, h⟩))
      by_cases d : t.f1 < x.f1
      · rw [if_pos d]
        refine ⟨⟨fun y hy => ?_, ?_⟩, fun s => ?_, fun y hy => ?_⟩
        · rcases List.mem_append.1 hy with h | h
          · exact ho1 y (by simp [h])
          · rw [List.mem_singleton.1 h]; exact ⟨t1, by show t.f0 ≤ x.f1; omega, x3⟩
        · rw [List.pairwise_append]
          refine ⟨hp, List.pairwise_singleton _ _, fun a ha b hb => ?_⟩
          rw [List.mem_singleton.1 hb]
          exact hdt a ha
        · rw [inN_app, inN_app, inN_one, inN_one, or_assoc]
          have : (t.f0 ≤ s ∧ s ≤ x.f1) ↔ ((t.f0 ≤ s ∧ s ≤ t.f1) ∨ (x.f0 ≤ s ∧ s ≤ x.f1)) := by omega
          exact or_congr Iff.rfl this
        · rcases List.mem_append.1 hy with h | h
          · exact hle y (by simp [h])
          · rw [List.mem_singleton.1 h]; exact htx
      · rw [if_neg d]
        refine ⟨⟨ho1, by rw [List.pairwise_append]; exact ⟨hp, List.pairwise_singleton _ _, hq⟩⟩, fun s => ⟨.inl, fun h => h.elim id (fun h => ?_)⟩, hle⟩
        exact (inN_app _ _ _).2 (.inr ((inN_one _ _).2 (by omega)))
theorem joinF_snd : ∀ (l out : List Rn_), Snd out → (∀ x ∈ l, okR x) → l.Pairwise (fun a b => a.f0 ≤ b.f0) → (∀ y ∈ out, ∀ x ∈ l, y.f0 ≤ x.f0) → Snd (l.foldl joinS out) ∧ ∀ t, inN t (l.foldl joinS out) ↔ inN t out ∨ inN t l
  | [], out, ho, _, _, _ => ⟨ho, fun t => ⟨.inl, fun h => h.elim id (fun ⟨z, hz, _⟩ => by simp at hz)⟩⟩
  | x :: l, out, ho, hl, hp, hle => by
    obtain ⟨h1, h2, h3⟩ := joinS_snd out x ho (hl x (List.mem_cons_self ..)) (fun y hy => hle y hy x (List.mem_cons_self ..))
    obtain ⟨p1, p2⟩ := List.pairwise_cons.1 hp
    obtain ⟨h4, h5⟩ := joinF_snd l (joinS out x) h1 (fun z hz => hl z (List.mem_cons_of_mem _ hz)) p2 (fun y hy z hz => Int.le_trans (h3 y hy) (p1 z hz))
    refine ⟨h4, fun t => ?_⟩
    rw [List.foldl_cons, h5, h2, inN_cons, or_assoc]
def insR (x : Rn_) : List Rn_ → List Rn_
  | [] => [x]
  | y :: ys => if x.f0 ≤ y.f0 then x :: y :: ys else y :: insR x ys
def sortR : List Rn_ → List Rn_
  | [] => []
  | x :: xs => insR x (sortR xs)
theorem insR_perm (x : Rn_) : ∀ l, (insR x l).Perm (x :: l)
  | [] => List.Perm.refl _
  | y :: ys => by
    by_cases c : x.f0 ≤ y.f0
    · rw [show insR x (y :: ys) = x :: y :: ys from if_pos c]
    · rw [show insR x (y :: ys) = y :: insR x ys from if_neg c]
      exact ((insR_perm x ys).cons y).trans (List.Perm.swap _ _ _)
theorem insR_pw (x : Rn_) : ∀ l : List Rn_, l.Pairwise (fun a b => a.f0 ≤ b.f0) → (insR x l).Pairwise (fun a b => a.f0 ≤ b.f0)
  | [], _ => List.pairwise_singleton _ _
  | y :: ys, h => by
    obtain ⟨h1, h2⟩ := List.pairwise_cons.1 h
    by_cases c : x.f0 ≤ y.f0
    · rw [show insR x (y :: ys) = x :: y :: ys from if_pos c]
      refine List.pairwise_cons.2 ⟨fun z hz => ?_, h⟩
      rcases List.mem_cons.1 hz with e | m
      · rw [e]; exact c
      · exact Int.le_trans c (h1 z m)
    · rw [show insR x (y :: ys) = y :: insR x ys from if_neg c]
      refine List.pairwise_cons.2 ⟨fun z hz => ?_, insR_pw x ys h2⟩
      rcases List.mem_cons.1 ((insR_perm x ys).mem_iff.1 hz) with e | m
      · rw [e]; omega
      · exact h1 z m
theorem sortR_perm : ∀ l, (sortR l).Perm l
  | [] => List.Perm.refl _
  | x :: xs => (insR_perm x (sortR xs)).trans ((sortR_perm xs).cons x)
theorem sortR_pw : ∀ l, (sortR l).Pairwise (fun a b => a.f0 ≤ b.f0)
  | [] => List.Pairwise.nil
  | x :: xs => insR_pw x _ (sortR_pw xs)
def joinR (l : List Rn_) : List Rn_ := (sortR l).foldl joinS []
theorem inN_perm {l m : List Rn_} (h : l.Perm m) (t : Int) : inN t l ↔ inN t m := ⟨fun ⟨y, hy, r⟩ => ⟨y, h.mem_iff.1 hy, r⟩, fun ⟨y, hy, r⟩ => ⟨y, h.mem_iff.2 hy, r⟩⟩
theorem join_of {l l' : List Rn_} (hB : ∀ x ∈ l, okR x) (hp : l'.Perm l) (hs : l'.Pairwise (fun a b => a.f0 ≤ b.f0)) : Snd (l'.foldl joinS []) ∧ ∀ t, inN t (l'.foldl joinS []) ↔ inN t l := by
  obtain ⟨h1, h2⟩ := joinF_snd l' [] ⟨fun y hy => by simp at hy, List.Pairwise.nil⟩ (fun x hx => hB x (hp.mem_iff.1 hx)) hs (fun y hy => by simp at hy)
  refine ⟨h1, fun t => ?_⟩
  rw [h2, inN_perm hp]
  exact ⟨fun h => h.elim (fun ⟨z, hz, _⟩ => by simp at hz) id, .inr⟩
theorem joinR_ok {l : List Rn_} (hB : ∀ x ∈ l, okR x) : Snd (joinR l) ∧ ∀ t, inN t (joinR l) ↔ inN t l := join_of hB (sortR_perm l) (sortR_pw l)
theorem joinR_len (l : List Rn_) : (joinR l).length ≤ l.length := by
  have h1 := joinF_len (sortR l) []
  have h2 := (sortR_perm l).length_eq
  unfold joinR
  simp only [List.length_nil] at h1
  omega
set_option maxRecDepth 100000 in
set_option maxHeartbeats 4000000 in
theorem join0_is (A : Option Addr) (c : Nat) (w : World) (hr : Kd.C k77 w A 0 []) :
    Calls Try.prog 23 #[.agg fieldC, .slice A 0 c] w fun e w' => ∃ (v : Value), e = .returned v ∧ Kd.R k77 77 w' w.heap.size (fun _ => True) v [] ∧ Below w.heap.size w w' := by
  have HR := Aside0.mk hr
  clear hr
  go_enter Try.func23, Try.ntmps23
  have hb0 := Aside0.mk (below_alloc (Below.refl w.heap.size w) (.cells fieldC 68))
  unfold fieldC at hb0
  unfold fieldC
  go_wp2_with (first | (go_at_call 35; refine (clone_is A c [] (by simp) _ (Kd.C_below HR.out hb0.out) (Nat.zero_le _)).mono ?_; rintro e w2 ⟨v2, rfl, hR2, hb2⟩; have HB2 := Aside0.mk (below_step hb0.out hb2); obtain ⟨A2, c2, rfl⟩ := Kd.R_slice hR2; clear hR2 hb2 hb0) | (go_at_call 36; refine (sort0_is A2 c2 _ _).mono ?_; rintro e w3 ⟨rfl, hb3⟩; have HB3 := Aside0.mk (below_step HB2.out hb3); clear hb3))
  go_loopg [5, 16] 0 (fun kq v5 v16 w' => v5 = .slice none 0 0 ∧ v16 = .int .i64 0 ∧ w' = w3)
  case atStart => exact ⟨rfl, rfl, rfl⟩
  case round =>
    obtain ⟨rfl, rfl, rfl⟩ := hrel
    go_wp2
    go_ret
    exact ⟨_, rfl, Kd.R_nil _ _ _ _ _, HB3.out⟩
theorem join_is (A : Option Addr) (c : Nat) (l : List Rn_) (hL : (l.length + 1) * 16 ≤ 140737488355328) (hB : ∀ x ∈ l, okR x) (w : World) (hr : Kd.C k77 w A l.length l) (hc : l.length ≤ c) :
    Calls Try.prog 23 #[.agg fieldC, .slice A l.length c] w fun e w' => ∃ (v : Value), e = .returned v ∧ Kd.R k77 77 w' w.heap.size (fun _ => True) v (joinR l) ∧ Below w.heap.size w w' := by
  by_cases hne : 0 < l.length
  · refine (joinP_is A c l hne hL (fun x hx => ⟨by have := hB x hx; unfold okR at this; omega, (hB x hx).2.2⟩) w hr hc).mono ?_
    rintro e w' ⟨v, l', rfl, hp, hs, hR, hb⟩
    obtain ⟨a1, a2⟩ := join_of hB hp hs
    obtain ⟨b1, b2⟩ := joinR_ok hB
    have e := Snd.one _ _ a1 b1 (fun t => (a2 t).trans (b2 t).symm)
    rw [e] at hR
    exact ⟨v, rfl, hR, hb⟩
  · obtain rfl : l = [] := List.length_eq_zero_iff.mp (by omega)
    exact join0_is A c w hr
theorem two_rows {W : World} {g : Nat} {A0 A1 : Option Addr} {c0 c1 : Nat} {l0 l1 : List S23} (hg : W.heap[g]? = some (.cells #[.slice A0 l0.length c0, .slice A1 l1.length c1] 26 (0, 0))) (h0 : Kd.C k23 W A0 l0.length l0) (hc0 : l0.length ≤ c0) (h1 : Kd.C k23 W A1 l1.length l1) (hc1 : l1.length ≤ c1) :
    Kd.C (Kd.slice 23 k23) W (some ⟨g, 0, none⟩) [l0, l1].length [l0, l1] := by
  refine ⟨rfl, by simp, fun _ => ⟨_, rfl, fun j p hj => ?_⟩⟩
  match j, hj with
  | 0, hj =>
    obtain rfl := Option.some.inj hj
    refine ⟨[.slice A0 l0.length c0], rfl, ⟨A0, c0, rfl, hc0, h0⟩, fun i u hu => ?_⟩
    match i, hu with
    | 0, hu => exact (blk_cell hg 0).trans hu
  | 1, hj =>
    obtain rfl := Option.some.inj hj
    refine ⟨[.slice A1 l1.length c1], rfl, ⟨A1, c1, rfl, hc1, h1⟩, fun i u hu => ?_⟩
    match i, hu with
    | 0, hu => exact (blk_cell hg 1).trans hu
  | j + 2, hj => simp at hj
def okB (l : List Rn_) : Bool := l.all (fun x => decide (0 ≤ x.f0 ∧ x.f0 ≤ x.f1 ∧ x.f1 ≤ 1099511627776))
theorem okB_of {l : List Rn_} (h : okB l = true) : ∀ x ∈ l, okR x := fun x hx => by
  have h1 := List.all_eq_true.1 h x hx
  have h2 := of_decide_eq_true h1
  exact h2
def ivl_Or.f (k : Nat) (l0 l1 : List S23) : Option (List S23 × Int) := (ivl_rows.f k [l0, l1]).bind fun y =>
  if y ≠ 0 then some ([], y) else (ivl_runs.f k (l0 ++ l1)).bind fun rs =>
  if (l0.length + l1.length + 1) * 16 ≤ 140737488355328 ∧ (rs.length + 1) * 16 ≤ 140737488355328 ∧ okB rs = true then ivl_told.f k (joinR rs) else none
set_option maxRecDepth 100000 in
set_option maxHeartbeats 4000000 in
theorem ivl_Or.calls (k : Nat) (A0 : Option Addr) (c0 : Nat) (l0 : List (S23)) (A1 : Option Addr) (c1 : Nat) (l1 : List (S23)) (r1 : List (S23)) (r2 : Int) (w : World) (hr0 : Kd.C k23 w A0 l0.length l0) (hc0 : l0.length ≤ c0) (hr1 : Kd.C k23 w A1 l1.length l1) (hc1 : l1.length ≤ c1) (h : ivl_Or.f k l0 l1 = some (r1, r2)) :
    Calls Try.prog 8 #[.slice A0 l0.length c0, .slice A1 l1.length c1] w fun e w' => ∃ v0_ : Value, e = .returned (.tuple #[v0_, .int .i64 r2]) ∧ Kd.R k23 23 w' w.heap.size (fun _ => True) v0_ r1 ∧ Below w.heap.size w w' := by
  obtain ⟨y, hy, h⟩ := Option.bind_eq_some_iff.mp h
  have HY := Aside0.mk hy
  have HC0 := Aside0.mk hc0
  have HC1 := Aside0.mk hc1
  have HB1 := Aside0.mk (below_alloc (Below.refl w.heap.size w) (.cells #[.slice A0 l0.length c0, .slice A1 l1.length c1] 26))
  have HR1 := Aside0.mk (two_rows (heap_alloc_new w (.cells #[.slice A0 l0.length c0, .slice A1 l1.length c1] 26)) (Kd.C_below hr0 HB1.out) hc0 (Kd.C_below hr1 HB1.out) hc1)
  have HA0 := Aside0.mk hr0
  have HA1 := Aside0.mk hr1
  clear hy hr0 hr1 hc0 hc1
  go_enter Try.func8, Try.ntmps8
  by_cases cy : y ≠ 0
  · rw [if_pos cy] at h
    obtain ⟨e1, e2⟩ := Prod.mk.inj (Option.some.inj h)
    subst e1
    subst e2
    have d0 : (y != 0) = true := bne_iff_ne.mpr cy
    clear cy h
    go_wp2_with (go_at_call 18; refine (ivl_rows.calls k _ 2 _ _ _ HR1.out (by simp) HY.out).mono ?_; rintro e w5 ⟨rfl, hb5⟩; have HB5 := Aside0.mk (below_step HB1.out hb5); clear hb5)
    go_ret2
    exact ⟨_, rfl, Kd.R_nil _ _ _ _ _, HB5.out⟩
  · have cy0 : y = 0 := Decidable.not_not.mp cy
    subst cy0
    rw [if_neg cy] at h
    clear cy
    have d0 : ((0 : Int) != 0) = false := rfl
    obtain ⟨rs, hrs, h⟩ := Option.bind_eq_some_iff.mp h
    obtain ⟨l2, hl2⟩ : ∃ l2, l0 ++ l1 = l2 := ⟨_, rfl⟩
    rw [hl2] at hrs
    have HL2 := Aside0.mk hl2
    have HRS := Aside0.mk hrs
    clear hl2
    by_cases cg : (l0.length + l1.length + 1) * 16 ≤ 140737488355328 ∧ (rs.length + 1) * 16 ≤ 140737488355328 ∧ okB rs = true
    case neg => rw [if_neg cg] at h; cases h
    rw [if_pos cg] at h
    have HT := Aside0.mk h
    have HG := Aside0.mk cg
    clear h cg hrs
    go_wp2_with (first
      | (go_at_call 18; refine (ivl_rows.calls k _ 2 _ _ _ HR1.out (by simp) HY.out).mono ?_; rintro e w5 ⟨rfl, hb5⟩; have HB5 := Aside0.mk (below_step HB1.out hb5); clear hb5)
      | (go_at_call 20; refine (times_is _).mono ?_; rintro e w6 ⟨rfl, hb6⟩; have HB6 := Aside0.mk (below_step HB5.out hb6); have HB7 := Aside0.mk (below_alloc HB6.out (.cells #[.slice A0 l0.length c0, .slice A1 l1.length c1] 26)); have BK7 := Aside0.mk (heap_alloc_new w6 (.cells #[.slice A0 l0.length c0, .slice A1 l1.length c1] 26)); clear hb6)
      | (go_at_call 24; refine (concat_is _ A0 A1 c0 c1 l0 l1 (by have := HG.out.1; omega) _ BK7.out (Kd.C_below HA0.out HB7.out) (Kd.C_below HA1.out HB7.out)).mono ?_; rintro e w8 ⟨v8, rfl, ho8, hb8⟩; rw [HL2.out] at ho8; have HB8 := Aside0.mk (below_step HB7.out hb8); obtain ⟨A8, c8, rfl⟩ := Kd.R_slice ho8; have HO8 := Aside0.mk ho8; clear hb8 ho8)
      | (go_at_call 22; refine (ivl_runs.calls k _ _ l2 rs _ (Kd.R_reads' HO8.out).2.2 (Kd.R_reads' HO8.out).2.1 HRS.out).mono ?_; rintro e w9 ⟨v9, rfl, ho9, hb9⟩; have HB9 := Aside0.mk (below_step HB8.out hb9); obtain ⟨A9, c9, rfl⟩ := Kd.R_slice ho9; have HO9 := Aside0.mk ho9; clear hb9 ho9)
      | (go_at_call 23; refine (join_is A9 c9 rs HG.out.2.1 (okB_of HG.out.2.2) _ (Kd.R_reads' HO9.out).2.2 (Kd.R_reads' HO9.out).2.1).mono ?_; rintro e w10 ⟨v10, rfl, ho10, hb10⟩; have HB10 := Aside0.mk (below_step HB9.out hb10); obtain ⟨A10, c10, rfl⟩ := Kd.R_slice ho10; have HO10 := Aside0.mk ho10; clear hb10 ho10)
      | (go_at_call 19; refine (ivl_told.calls k _ _ (joinR rs) r1 r2 _ (Kd.R_reads' HO10.out).2.2 (Kd.R_reads' HO10.out).2.1 HT.out).mono ?_; rintro e w11 ⟨v11, rfl, ho11, hb11⟩; have HB11 := Aside0.mk (below_step HB10.out hb11); have HO11 := Aside0.mk (Kd.R_lower ho11 HB10.out.size); clear hb11 ho11))
    go_ret2
    exact ⟨_, rfl, HO11.out, HB11.out⟩
def ivl_Long.l0 : Nat → Int → List (S23) → Int → Int → Option (Int × Int)
 | 0, _, _, _, _ => none
 | k + 1, x5, x13, x14, x15 => if x15 < x14 then (if 0 ≤ x15 then (if x15 < (x13.length : Int) then (ivl_Long.l0 k (wrap64 (x5 + (wrap64 ((wrap64 (((rd_T23 x13 x15).f1) - ((rd_T23 x13 x15).f0))) + 1)))) x13 x14 (wrap64 (x15 + 1))) else (none)) else (none)) else (some (x5, 0))
def ivl_Long.f (k : Nat) (l0 : List (S23)) : Option (Int × Int) := (ivl_Check.f k l0).bind fun t163 => (if t163 = 0 then (ivl_Long.l0 k 0 l0 (l0.length : Int) 0) else (some (0, t163)))
set_option maxHeartbeats 8000000 in
set_option maxRecDepth 100000 in
theorem ivl_Long.calls (k : Nat) (A0 : Option Addr) (c0 : Nat) (l0 : List (S23)) (r1 : Int) (r2 : Int) (w : World) (hr0 : Kd.C k23 w A0 l0.length l0) (hc0 : l0.length ≤ c0) (h : ivl_Long.f k l0 = some (r1, r2)) :
  Calls Try.prog 10 #[.slice A0 l0.length c0] w fun e w' => e = .returned (.tuple #[.int .i64 r1, .int .i64 r2]) ∧ Below w.heap.size w w' := by
 have hu23 := Try.underlying23
 have HR0 := Ax hr0
 have HC0 := Ax hc0
 clear hr0 hc0
 have HB := Ax (Below.refl w.heap.size w)
 have H : ((ivl_Check.f k l0).bind fun t163 => (if t163 = 0 then (ivl_Long.l0 k 0 l0 (l0.length : Int) 0) else (some (0, t163)))) = some (r1, r2) := h
 clear h
 replace H := Option.bind_eq_some_iff.mp H
 obtain ⟨t163, A20, H⟩ := H
 replace H : (if t163 = 0 then (ivl_Long.l0 k 0 l0 (l0.length : Int) 0) else (some (0, t163))) = some (r1, r2) := H
 have A2 := Ax A20
 clear A20
 by_cases c3 : t163 = 0
 ·rw [if_pos c3] at H
  have c3b0 : (t163 == 0) = true := beq_iff_eq.mpr c3
  have c3b1 : (t163 != 0) = false := bne_eq_false_iff_eq.mpr c3
  clear c3
  have H' := Ax H
  clear H
  go_enter Try.func10, Try.ntmps10
  go_wp2_with (first | ((with_reducible refine gate_callee (f := 26) rfl ?_); refine goesL_ (some 9) rfl rfl Try.func26 (by kernel_rfl) rfl #[.slice A0 l0.length c0] rfl gS ?_; (with_reducible refine (ivl_Check.calls k _ _ l0 t163 _ ?side1 ?side2 A2.out).mono ?_); (case side1 => repeat (first | exact HR0.out | (with_reducible refine Kd.C_alloc ?_ _) | (with_reducible refine Kd.C_drewN ?_ _) | (with_reducible refine Kd.C_drew ?_))); (case side2 => exact HC0.out); rintro e w4 ⟨rfl, hb⟩; refine ⟨_, rfl, ?_⟩; replace HB := Bs0 HB hb; (try clear hb)))
  go_loopg [5, 15] k (fun kq v5 v15 w' => ∃ (x5_1 : Int) (x15_1 : Int), v5 = .int .i64 x5_1 ∧ v15 = .int .i64 x15_1 ∧ Aside0 (ivl_Long.l0 kq x5_1 l0 (l0.length : Int) x15_1 = some (r1, r2)) ∧ Aside0 (kq ≤ k) ∧ Aside0 (Below w.heap.size w w'))
  case atStart => exact ⟨(0), (0), rS, rS, H', ⟨Nat.le_refl _⟩, ⟨bw0 HB.out⟩⟩
  case round =>
   clear H'
   try clear c1
   try clear c2
   try clear p2
   try clear c3
   try clear c3b0
   try clear c3b1
   obtain ⟨x5_1, x15_1, rfl, rfl, HA, HK1, HB⟩ := hrel
   cases gk with
   | zero => exact absurd HA.out (by simp [ivl_Long.l0])
   | succ k1 =>
    have H := HA.out
    clear HA
    simp only [ivl_Long.l0] at H
    by_cases c5 : x15_1 < (l0.length : Int)
    ·rw [if_pos c5] at H
     have c5b0 : decide (x15_1 < (l0.length : Int)) = true := decide_eq_true c5
     clear c5
     by_cases c6 : 0 ≤ x15_1
     ·rw [if_pos c6] at H
      have c6b0 : decide (0 ≤ x15_1) = true := decide_eq_true c6
      clear c6
      by_cases c7 : x15_1 < (l0.length : Int)
      ·rw [if_pos c7] at H
       have c7b0 : decide (x15_1 < (l0.length : Int)) = true := decide_eq_true c7
       clear c7
       have H' := Ax H
       clear H
       have p164 : 0 ≤ (x15_1 : Int) := of_decide_eq_true (by first | (with_reducible assumption) | assumption)
       have q164 : x15_1 < (l0.length : Int) := of_decide_eq_true (by first | (with_reducible assumption) | assumption)
       obtain ⟨ad164, e164, hx164_0, hx164_1⟩ := at_T23 HR0.out x15_1 p164 q164
       cases e164
       replace hx164_0 := (HB.out.cell (World.block_lt_of_cell? w _ hx164_0)).trans hx164_0
       replace hx164_1 := (HB.out.cell (World.block_lt_of_cell? w _ hx164_1)).trans hx164_1
       replace p164 := eq_true p164
       replace q164 := eq_true q164
       go_wp2_with (first | ((with_reducible refine gate_dst (N := 7) rfl ?_); refine box_event ?hg (N := 7) ?hd (cs := #[.int .i64 0, .int .i64 0]) (t := 23) ?hr ?_; (case hd => rfl); (case hg => rfl); (case hr => first | (go_simp; done) | (go_simp; rfl)); intro gb165 hg w8 hbox hb; have n0_ := Bs0 HB hb; have n1_ := Ax (hbox); have n2_ := Gw0 HB hg; have n3_ := Gw0 HB hg; clear HB; have HB := n0_; have BK165 := n1_; have GW165 := n2_; have GE165 := n3_; clear n0_ n1_ n2_ n3_; clear hb hbox hg; obtain ⟨hcz9_0, hcz9_1, hfz9_0, hfz9_1⟩ := cl2 BK165))
       go_roundg k1
       case measure => have := HK1.out; omega
       case rel => exact ⟨(wrap64 (x5_1 + (wrap64 ((wrap64 (((rd_T23 l0 x15_1).f1) - ((rd_T23 l0 x15_1).f0))) + 1)))), (wrap64 (x15_1 + 1)), rS, rS, H', ⟨by have := HK1.out; omega⟩, ⟨bw1 HB.out GE165.out⟩⟩
      ·rw [if_neg c7] at H
       exact absurd H (by simp)
     ·rw [if_neg c6] at H
      exact absurd H (by simp)
    ·rw [if_neg c5] at H
     have c5b0 : decide (x15_1 < (l0.length : Int)) = false := decide_eq_false c5
     clear c5
     simp only [Option.some.injEq, Prod.mk.injEq] at H
     obtain ⟨rfl, rfl⟩ := H
     go_wp2
     go_ret2
     exact ⟨eS, bw0 HB.out⟩
 ·rw [if_neg c3] at H
  have c3b0 : (t163 == 0) = false := beq_eq_false_iff_ne.mpr c3
  have c3b1 : (t163 != 0) = true := bne_iff_ne.mpr c3
  simp only [Option.some.injEq, Prod.mk.injEq] at H
  obtain ⟨rfl, rfl⟩ := H
  go_enter Try.func10, Try.ntmps10
  go_wp2_with (first | ((with_reducible refine gate_callee (f := 26) rfl ?_); refine goesL_ (some 9) rfl rfl Try.func26 (by kernel_rfl) rfl #[.slice A0 l0.length c0] rfl gS ?_; (with_reducible refine (ivl_Check.calls k _ _ l0 t163 _ ?side1 ?side2 A2.out).mono ?_); (case side1 => repeat (first | exact HR0.out | (with_reducible refine Kd.C_alloc ?_ _) | (with_reducible refine Kd.C_drewN ?_ _) | (with_reducible refine Kd.C_drew ?_))); (case side2 => exact HC0.out); rintro e w10 ⟨rfl, hb⟩; refine ⟨_, rfl, ?_⟩; replace HB := Bs0 HB hb; (try clear hb)))
  go_ret2
  exact ⟨eS, bw0 HB.out⟩
mutual
def spoortop_TopAgree.j0 : Nat → List (S34) → List (S34) → List (S23) → Bool → Int → Int → Option (Bool)
 | 0, _, _, _, _, _, _ => none
 | k + 1, x1, x2, x7, x49, x167000, x167001 => if x49 = true then (some true) else (spoortop_TopAgree.l0 k x1 x2 x7 ([] : List (S23)) x1 (x1.length : Int) 0 x167000 x167001)
def spoortop_TopAgree.l0 : Nat → List (S34) → List (S34) → List (S23) → List (S23) → List (S34) → Int → Int → Int → Int → Option (Bool)
 | 0, _, _, _, _, _, _, _, _, _ => none
 | k + 1, x1, x2, x7, x9, x50, x51, x52, x167000, x167001 => if x52 < x51 then (if 0 ≤ x52 then (if x52 < (x50.length : Int) then ((line_When.f k x167000 x167001 x1 ((rd_T34 x50 x52).f1.f0) ((rd_T34 x50 x52).f1.f1)).bind fun bt174 => ((line_When.f k x167000 x167001 x2 ((rd_T34 x50 x52).f1.f0) ((rd_T34 x50 x52).f1.f1)).bind fun bt178 => ((ivl_And.f k bt174.1 bt178.1).bind fun bt182 => ((ivl_Or.f k x9 bt182.1).bind fun bt186 => (if bt174.2 = 0 then (if bt178.2 = 0 then (if bt182.2 = 0 then (if bt186.2 = 0 then (spoortop_TopAgree.l0 k x1 x2 x7 bt186.1 x50 x51 (wrap64 (x52 + 1)) x167000 x167001) else (none)) else (none)) else (none)) else (none)))))) else (none)) else (none)) else ((ivl_Not.f k x7 x167000 x167001).bind fun bt190 => ((ivl_And.f k x7 x9).bind fun bt194 => ((ivl_Long.f k x7).bind fun bt198 => ((ivl_Long.f k x9).bind fun bt200 => (if bt190.2 = 0 then (if bt194.2 = 0 then (if bt198.2 = 0 then (if bt200.2 = 0 then (if (bt194.1.length : Int) = 0 then (if (bt190.1.length : Int) = (x9.length : Int) then (spoortop_TopAgree.j2 k x9 bt190.1 ((wrap64 (bt198.1 + bt200.1)) != (wrap64 ((wrap64 (x167001 - x167000)) + 1)))) else (spoortop_TopAgree.j2 k x9 bt190.1 true)) else (spoortop_TopAgree.j2 k x9 bt190.1 true)) else (spoortop_TopAgree.j2 k x9 bt190.1 true)) else (spoortop_TopAgree.j2 k x9 bt190.1 true)) else (spoortop_TopAgree.j2 k x9 bt190.1 true)) else (spoortop_TopAgree.j2 k x9 bt190.1 true))))))
def spoortop_TopAgree.j2 : Nat → List (S23) → List (S23) → Bool → Option (Bool)
 | 0, _, _, _ => none
 | k + 1, x9, x20, x159 => if x159 = true then (none) else (spoortop_TopAgree.l1 k x9 x20 (x20.length : Int) 0)
def spoortop_TopAgree.l1 : Nat → List (S23) → List (S23) → Int → Int → Option (Bool)
 | 0, _, _, _, _ => none
 | k + 1, x9, x20, x161, x162 => if x162 < x161 then (if 0 ≤ x162 then (if x162 < (x20.length : Int) then (if x162 < (x9.length : Int) then (if (!(((rd_T23 x20 x162).f0) == ((rd_T23 x9 x162).f0)) || (!(((rd_T23 x20 x162).f1) == ((rd_T23 x9 x162).f1)))) = true then (none) else (spoortop_TopAgree.l1 k x9 x20 x161 (wrap64 (x162 + 1)))) else (none)) else (none)) else (none)) else (some true)
end
def spoortop_TopAgree.f (k : Nat) (a0_0 : Int) (a0_1 : Int) (l1 : List (S34)) (l2 : List (S34)) : Option (Bool) := (spoortop_begins.f k).bind fun t167 => (if t167 = true then ((line_Differ.f k a0_0 a0_1 l1 l2).bind fun bt168 => (if bt168.2 = 0 then (if (l1.length : Int) > 100 then (spoortop_TopAgree.j0 k l1 l2 bt168.1 true a0_0 a0_1) else (spoortop_TopAgree.j0 k l1 l2 bt168.1 (decide ((l2.length : Int) > 100)) a0_0 a0_1)) else (spoortop_TopAgree.j0 k l1 l2 bt168.1 true a0_0 a0_1))) else (none))
end Go.Proofs.Ytoheongejamapaa.Q
end
section
namespace Go.Proofs.Ytoheongejamapaa.Q
open Go.RowKit Go.Proofs.YtoheongejamapaaW.PrintWords Go.Proofs.YtoheongejamapaaW.PrintLast Go.Proofs.YtoheongejamapaaW.PrintMore
attribute [local go_sem] max2_int min2_int max_two min_two max_three min_three max_four min_four   -- for this text's walks alone
set_option linter.unusedVariables false
set_option linter.unusedSimpArgs false
attribute [local go_sem high] eqA23
set_option maxHeartbeats 8000000 in
set_option maxRecDepth 100000 in
theorem spoortop_TopAgree.calls (k : Nat) (a0_0 : Int) (a0_1 : Int) (A1 : Option Addr) (c1 : Nat) (l1 : List (S34)) (A2 : Option Addr) (c2 : Nat) (l2 : List (S34)) (r : Bool) (w : World) (hr1 : Kd.C k34 w A1 l1.length l1) (hc1 : l1.length ≤ c1) (hr2 : Kd.C k34 w A2 l2.length l2) (hc2 : l2.length ≤ c2) (h : spoortop_TopAgree.f k a0_0 a0_1 l1 l2 = some r) :
  Calls Try.prog 3 #[.agg #[.int .i64 a0_0, .int .i64 a0_1], .slice A1 l1.length c1, .slice A2 l2.length c2] w fun e w' => e = .returned (.bool r) ∧ Below w.heap.size w w' := by
 have hu23 := Try.underlying23
 have hu34 := Try.underlying34
 have hu32 := Try.underlying32
 have HR1 := Ax hr1
 have HC1 := Ax hc1
 clear hr1 hc1
 have HR2 := Ax hr2
 have HC2 := Ax hc2
 clear hr2 hc2
 have HB := Ax (Below.refl w.heap.size w)
 have H : ((spoortop_begins.f k).bind fun t167 => (if t167 = true then ((line_Differ.f k a0_0 a0_1 l1 l2).bind fun bt168 => (if bt168.2 = 0 then (if (l1.length : Int) > 100 then (spoortop_TopAgree.j0 k l1 l2 bt168.1 true a0_0 a0_1) else (spoortop_TopAgree.j0 k l1 l2 bt168.1 (decide ((l2.length : Int) > 100)) a0_0 a0_1)) else (spoortop_TopAgree.j0 k l1 l2 bt168.1 true a0_0 a0_1))) else (none))) = some r := h
 clear h
 replace H := Option.bind_eq_some_iff.mp H
 obtain ⟨t167, A40, H⟩ := H
 replace H : (if t167 = true then ((line_Differ.f k a0_0 a0_1 l1 l2).bind fun bt168 => (if bt168.2 = 0 then (if (l1.length : Int) > 100 then (spoortop_TopAgree.j0 k l1 l2 bt168.1 true a0_0 a0_1) else (spoortop_TopAgree.j0 k l1 l2 bt168.1 (decide ((l2.length : Int) > 100)) a0_0 a0_1)) else (spoortop_TopAgree.j0 k l1 l2 bt168.1 true a0_0 a0_1))) else (none)) = some r := H
 have A4 := Ax A40
 clear A40
 by_cases c5 : t167 = true
 ·subst c5
  have H1 : ((line_Differ.f k a0_0 a0_1 l1 l2).bind fun bt168 => (if bt168.2 = 0 then (if (l1.length : Int) > 100 then (spoortop_TopAgree.j0 k l1 l2 bt168.1 true a0_0 a0_1) else (spoortop_TopAgree.j0 k l1 l2 bt168.1 (decide ((l2.length : Int) > 100)) a0_0 a0_1)) else (spoortop_TopAgree.j0 k l1 l2 bt168.1 true a0_0 a0_1))) = some r := by rw [if_pos rfl] at H; exact H
  clear H
  have H := H1
  clear H1
  replace H := Option.bind_eq_some_iff.mp H
  obtain ⟨⟨t168, t171⟩, A60, H⟩ := H
  replace H : (if t171 = 0 then (if (l1.length : Int) > 100 then (spoortop_TopAgree.j0 k l1 l2 t168 true a0_0 a0_1) else (spoortop_TopAgree.j0 k l1 l2 t168 (decide ((l2.length : Int) > 100)) a0_0 a0_1)) else (spoortop_TopAgree.j0 k l1 l2 t168 true a0_0 a0_1)) = some r := H
  have A6 := Ax A60
  clear A60
  have HC7 := Ax H
  clear H
  go_enter Try.func3, Try.ntmps3
  go_upto_region 4 with (first | ((with_reducible refine gate_dst (N := 3) rfl ?_); refine box_event ?hg (N := 3) ?hd (cs := #[.int .i64 a0_0, .int .i64 a0_1]) (t := 23) ?hr ?_; (case hd => rfl); (case hg => rfl); (case hr => first | (go_simp; done) | (go_simp; rfl)); intro gb166 hg w8 hbox hb; have n0_ := Bs0 HB hb; have n1_ := Ax (hbox); have n2_ := Gw0 HB hg; have n3_ := Gw0 HB hg; clear HB; have HB := n0_; have BK166 := n1_; have GW166 := n2_; have GE166 := n3_; clear n0_ n1_ n2_ n3_; clear hb hbox hg) | (go_at_call 4; (with_reducible refine (spoortop_begins.calls k  true _ A4.out).mono ?_); rintro e w9 ⟨rfl, hb⟩; replace BK166 := Bx0 BK166 hb; replace HB := Bs1 HB hb GE166.out; (try clear hb); (try clear hb2); (try clear hk); (try clear hi); obtain ⟨hcz10_0, hcz10_1, hfz10_0, hfz10_1⟩ := cl2 BK166) | (go_at_call 5; (with_reducible refine (line_Differ.calls k a0_0 a0_1 _ _ l1 _ _ l2 t168 t171 _ ?side1 ?side2 ?side3 ?side4 A6.out).mono ?_); (case side1 => repeat (first | exact (Kd.C_below HR1.out HB.out) | (with_reducible refine Kd.C_alloc ?_ _) | (with_reducible refine Kd.C_drewN ?_ _) | (with_reducible refine Kd.C_drew ?_))); (case side2 => exact HC1.out); (case side3 => repeat (first | exact (Kd.C_below HR2.out HB.out) | (with_reducible refine Kd.C_alloc ?_ _) | (with_reducible refine Kd.C_drewN ?_ _) | (with_reducible refine Kd.C_drew ?_))); (case side4 => exact HC2.out); rintro e w11 ⟨v169, rfl, ho0, hb⟩; have HO170 := Ax (Kd.R_lower (Kd.R_newB ho0 (g := gb166) (o := .cells #[.int .i64 a0_0, .int .i64 a0_1] 23 (0, 0)) (bf0 BK166.out)) (below_size (bw1 HB.out GE166.out))); replace BK166 := Bx0 BK166 hb; replace HB := Bs1 HB hb GE166.out; (try clear hb); (try clear hb2); (try clear hk); (try clear hi); (try clear ho0)))
  repeat (go_quiet (first | ((with_reducible refine gate_dst (N := 3) rfl ?_); refine box_event ?hg (N := 3) ?hd (cs := #[.int .i64 a0_0, .int .i64 a0_1]) (t := 23) ?hr ?_; (case hd => rfl); (case hg => rfl); (case hr => first | (go_simp; done) | (go_simp; rfl)); intro gb166 hg w8 hbox hb; have n0_ := Bs0 HB hb; have n1_ := Ax (hbox); have n2_ := Gw0 HB hg; have n3_ := Gw0 HB hg; clear HB; have HB := n0_; have BK166 := n1_; have GW166 := n2_; have GE166 := n3_; clear n0_ n1_ n2_ n3_; clear hb hbox hg) | (go_at_call 4; (with_reducible refine (spoortop_begins.calls k  true _ A4.out).mono ?_); rintro e w9 ⟨rfl, hb⟩; replace BK166 := Bx0 BK166 hb; replace HB := Bs1 HB hb GE166.out; (try clear hb); (try clear hb2); (try clear hk); (try clear hi); obtain ⟨hcz10_0, hcz10_1, hfz10_0, hfz10_1⟩ := cl2 BK166) | (go_at_call 5; (with_reducible refine (line_Differ.calls k a0_0 a0_1 _ _ l1 _ _ l2 t168 t171 _ ?side1 ?side2 ?side3 ?side4 A6.out).mono ?_); (case side1 => repeat (first | exact (Kd.C_below HR1.out HB.out) | (with_reducible refine Kd.C_alloc ?_ _) | (with_reducible refine Kd.C_drewN ?_ _) | (with_reducible refine Kd.C_drew ?_))); (case side2 => exact HC1.out); (case side3 => repeat (first | exact (Kd.C_below HR2.out HB.out) | (with_reducible refine Kd.C_alloc ?_ _) | (with_reducible refine Kd.C_drewN ?_ _) | (with_reducible refine Kd.C_drew ?_))); (case side4 => exact HC2.out); rintro e w11 ⟨v169, rfl, ho0, hb⟩; have HO170 := Ax (Kd.R_lower (Kd.R_newB ho0 (g := gb166) (o := .cells #[.int .i64 a0_0, .int .i64 a0_1] 23 (0, 0)) (bf0 BK166.out)) (below_size (bw1 HB.out GE166.out))); replace BK166 := Bx0 BK166 hb; replace HB := Bs1 HB hb GE166.out; (try clear hb); (try clear hb2); (try clear hk); (try clear hi); (try clear ho0))); go_upto_region 4 with (first | ((with_reducible refine gate_dst (N := 3) rfl ?_); refine box_event ?hg (N := 3) ?hd (cs := #[.int .i64 a0_0, .int .i64 a0_1]) (t := 23) ?hr ?_; (case hd => rfl); (case hg => rfl); (case hr => first | (go_simp; done) | (go_simp; rfl)); intro gb166 hg w8 hbox hb; have n0_ := Bs0 HB hb; have n1_ := Ax (hbox); have n2_ := Gw0 HB hg; have n3_ := Gw0 HB hg; clear HB; have HB := n0_; have BK166 := n1_; have GW166 := n2_; have GE166 := n3_; clear n0_ n1_ n2_ n3_; clear hb hbox hg) | (go_at_call 4; (with_reducible refine (spoortop_begins.calls k  true _ A4.out).mono ?_); rintro e w9 ⟨rfl, hb⟩; replace BK166 := Bx0 BK166 hb; replace HB := Bs1 HB hb GE166.out; (try clear hb); (try clear hb2); (try clear hk); (try clear hi); obtain ⟨hcz10_0, hcz10_1, hfz10_0, hfz10_1⟩ := cl2 BK166) | (go_at_call 5; (with_reducible refine (line_Differ.calls k a0_0 a0_1 _ _ l1 _ _ l2 t168 t171 _ ?side1 ?side2 ?side3 ?side4 A6.out).mono ?_); (case side1 => repeat (first | exact (Kd.C_below HR1.out HB.out) | (with_reducible refine Kd.C_alloc ?_ _) | (with_reducible refine Kd.C_drewN ?_ _) | (with_reducible refine Kd.C_drew ?_))); (case side2 => exact HC1.out); (case side3 => repeat (first | exact (Kd.C_below HR2.out HB.out) | (with_reducible refine Kd.C_alloc ?_ _) | (with_reducible refine Kd.C_drewN ?_ _) | (with_reducible refine Kd.C_drew ?_))); (case side4 => exact HC2.out); rintro e w11 ⟨v169, rfl, ho0, hb⟩; have HO170 := Ax (Kd.R_lower (Kd.R_newB ho0 (g := gb166) (o := .cells #[.int .i64 a0_0, .int .i64 a0_1] 23 (0, 0)) (bf0 BK166.out)) (below_size (bw1 HB.out GE166.out))); replace BK166 := Bx0 BK166 hb; replace HB := Bs1 HB hb GE166.out; (try clear hb); (try clear hb2); (try clear hk); (try clear hi); (try clear ho0))))
  (try simp only [Act.put, List.setIfInBounds_toArray, List.set_cons_zero, List.set_cons_succ])
  go_cut [49] (fun v49 wc => ∃ (kq : Nat) (x49_6 : Bool), v49 = .bool x49_6 ∧ Aside0 (spoortop_TopAgree.j0 kq l1 l2 t168 x49_6 a0_0 a0_1 = some r) ∧ Aside0 (kq ≤ k) ∧ Aside0 (Kd.R k23 23 wc w.heap.size (fun k_ => k_ ≠ gb166) v169 t168) ∧ Aside0 (wc.heap[gb166]? = some (.cells #[.int .i64 a0_0, .int .i64 a0_1] 23 (0, 0))) ∧ Aside0 (Below w.heap.size w wc))
  case first =>
   have H := HC7.out
   clear HC7
   by_cases c12 : t171 = 0
   ·rw [if_pos c12] at H
    have c12b0 : (t171 == 0) = true := beq_iff_eq.mpr c12
    have c12b1 : (t171 != 0) = false := bne_eq_false_iff_eq.mpr c12
    clear c12
    (first | rw [c12b0] | (simp only [i64_w, i32_w]; rw [c12b0]) | skip)
    by_cases c13 : (l1.length : Int) > 100
    ·rw [if_pos c13] at H
     have c13b0 : decide (100 < (l1.length : Int)) = true := decide_eq_true c13
     have c13b1 : decide (100 < l1.length) = true := decide_eq_true (by omega)
     clear c13
     have H' := Ax H
     clear H
     go_wp2
     repeat (go_quiet (fail); try go_wp2)
     go_meet
     case rel => exact ⟨_, (true), rS, H', ⟨by first | omega | exact Nat.le_refl _⟩, ⟨by (with_reducible repeat (first | apply Kd.R_alloc | apply Kd.R_drewN | apply Kd.R_drew)); exact Kd.R_mono HO170.out (fun _ hk => hk.2)⟩, ⟨bf0 BK166.out⟩, ⟨bw1 HB.out GE166.out⟩⟩
    ·rw [if_neg c13] at H
     have c13b0 : decide (100 < (l1.length : Int)) = false := decide_eq_false c13
     have c13b1 : decide (100 < l1.length) = false := decide_eq_false (by omega)
     clear c13
     have H' := Ax H
     clear H
     go_wp2
     repeat (go_quiet (fail); try go_wp2)
     go_meet
     case rel => exact ⟨_, (decide ((l2.length : Int) > 100)), rS, H', ⟨by first | omega | exact Nat.le_refl _⟩, ⟨by (with_reducible repeat (first | apply Kd.R_alloc | apply Kd.R_drewN | apply Kd.R_drew)); exact Kd.R_mono HO170.out (fun _ hk => hk.2)⟩, ⟨bf0 BK166.out⟩, ⟨bw1 HB.out GE166.out⟩⟩
   ·rw [if_neg c12] at H
    have c12b0 : (t171 == 0) = false := beq_eq_false_iff_ne.mpr c12
    have c12b1 : (t171 != 0) = true := bne_iff_ne.mpr c12
    (first | rw [c12b0] | (simp only [i64_w, i32_w]; rw [c12b0]) | skip)
    have H' := Ax H
    clear H
    go_wp2
    repeat (go_quiet (fail); try go_wp2)
    go_meet
    case rel => exact ⟨_, (true), rS, H', ⟨by first | omega | exact Nat.le_refl _⟩, ⟨by (with_reducible repeat (first | apply Kd.R_alloc | apply Kd.R_drewN | apply Kd.R_drew)); exact Kd.R_mono HO170.out (fun _ hk => hk.2)⟩, ⟨bf0 BK166.out⟩, ⟨bw1 HB.out GE166.out⟩⟩
  case rest =>
   clear HC7
   try clear c1
   try clear c2
   try clear p2
   try clear c3
   try clear c5
   try clear c12
   try clear c12b0
   try clear c12b1
   try clear c13
   try clear c13b0
   try clear c13b1
   try clear hcz10_0
   try clear hcz10_1
   try clear hfz10_0
   try clear hfz10_1
   obtain ⟨kq, x49_6, rfl, HA, HJ6, HO_7, BK166, HB⟩ := hcut
   cases kq with
   | zero => exact absurd HA.out (by simp [spoortop_TopAgree.j0])
   | succ kj6 =>
    have H := HA.out
    clear HA
    simp only [spoortop_TopAgree.j0] at H
    by_cases c14 : x49_6 = true
    ·subst c14
     have H1 : (some true) = some r := by rw [if_pos rfl] at H; exact H
     clear H
     have H := H1
     clear H1
     obtain rfl := Option.some.inj H
     go_wp2
     repeat (go_quiet (fail); try go_wp2)
     go_ret
     exact ⟨eS, bw1 HB.out GE166.out⟩
    ·replace c14 := Bool.eq_false_iff.mpr c14
     subst c14
     have H1 : (spoortop_TopAgree.l0 kj6 l1 l2 t168 ([] : List (S23)) l1 (l1.length : Int) 0 a0_0 a0_1) = some r := by rw [if_neg (show ¬ (false = true) by decide)] at H; exact H
     clear H
     have H := H1
     clear H1
     have H' := Ax H
     clear H
     go_wp2
     repeat (go_quiet (fail); try go_wp2)
     go_loopg [9, 52] kj6 (fun kq v9 v52 w' => ∃ (x9_2 : List (S23)) (x52_2 : Int), v52 = .int .i64 x52_2 ∧ Aside0 (spoortop_TopAgree.l0 kq l1 l2 t168 x9_2 l1 (l1.length : Int) x52_2 a0_0 a0_1 = some r) ∧ Aside0 (kq ≤ kj6) ∧ Aside0 (Kd.R k23 23 w' w.heap.size (fun k_ => some k_ ≠ (v9 : Value).ownBlock ∧ k_ ≠ gb166) v169 t168) ∧ Aside0 (Kd.R k23 23 w' w.heap.size (fun k_ => some k_ ≠ (v169 : Value).ownBlock ∧ k_ ≠ gb166) v9 x9_2) ∧ Aside0 (w'.heap[gb166]? = some (.cells #[.int .i64 a0_0, .int .i64 a0_1] 23 (0, 0))) ∧ Aside0 (Below w.heap.size w w'))
     case atStart => exact ⟨(([] : List (S23))), (0), rS, H', ⟨Nat.le_refl _⟩, ⟨by (with_reducible repeat (first | apply Kd.R_alloc | apply Kd.R_drewN | apply Kd.R_drew)); exact Kd.R_mono HO_7.out (fun _ hk => ⟨(by simp [Value.ownBlock]), hk⟩)⟩, ⟨by first | exact Kd.R_nil _ _ _ _ _ | exact Kd.N_nil _ _ _ _ _ | exact Kd.V_nil _ _ _ _ _ | exact Kd.Q_nil _ _ _ _ _ | exact Kd.S_nil _ _ _ _ _⟩, ⟨bf0 BK166.out⟩, ⟨bw1 HB.out GE166.out⟩⟩
     case round =>
      clear H'
      try clear c1
      try clear c2
      try clear p2
      try clear c3
      try clear c5
      try clear c12
      try clear c12b0
      try clear c12b1
      try clear c13
      try clear c13b0
      try clear c13b1
      try clear c14
      try clear hcz10_0
      try clear hcz10_1
      try clear hfz10_0
      try clear hfz10_1
      try clear p2
      obtain ⟨x9_2, x52_2, rfl, HA, HK2, HO_7, HO_9, BK166, HB⟩ := hrel
      cases gk with
      | zero => exact absurd HA.out (by simp [spoortop_TopAgree.l0])
      | succ k2 =>
       have H := HA.out
       clear HA
       simp only [spoortop_TopAgree.l0] at H
       by_cases c15 : x52_2 < (l1.length : Int)
       ·rw [if_pos c15] at H
        have c15b0 : decide (x52_2 < (l1.length : Int)) = true := decide_eq_true c15
        clear c15
        by_cases c16 : 0 ≤ x52_2
        ·rw [if_pos c16] at H
         have c16b0 : decide (0 ≤ x52_2) = true := decide_eq_true c16
         clear c16
         by_cases c17 : x52_2 < (l1.length : Int)
         ·rw [if_pos c17] at H
          have c17b0 : decide (x52_2 < (l1.length : Int)) = true := decide_eq_true c17
          clear c17
          replace H := Option.bind_eq_some_iff.mp H
          obtain ⟨⟨t174, t177⟩, A180, H⟩ := H
          replace H : ((line_When.f k2 a0_0 a0_1 l2 ((rd_T34 l1 x52_2).f1.f0) ((rd_T34 l1 x52_2).f1.f1)).bind fun bt178 => ((ivl_And.f k2 t174 bt178.1).bind fun bt182 => ((ivl_Or.f k2 x9_2 bt182.1).bind fun bt186 => (if t177 = 0 then (if bt178.2 = 0 then (if bt182.2 = 0 then (if bt186.2 = 0 then (spoortop_TopAgree.l0 k2 l1 l2 t168 bt186.1 l1 (l1.length : Int) (wrap64 (x52_2 + 1)) a0_0 a0_1) else (none)) else (none)) else (none)) else (none))))) = some r := H
          have A18 := Ax A180
          clear A180
          replace H := Option.bind_eq_some_iff.mp H
          obtain ⟨⟨t178, t181⟩, A190, H⟩ := H
          replace H : ((ivl_And.f k2 t174 t178).bind fun bt182 => ((ivl_Or.f k2 x9_2 bt182.1).bind fun bt186 => (if t177 = 0 then (if t181 = 0 then (if bt182.2 = 0 then (if bt186.2 = 0 then (spoortop_TopAgree.l0 k2 l1 l2 t168 bt186.1 l1 (l1.length : Int) (wrap64 (x52_2 + 1)) a0_0 a0_1) else (none)) else (none)) else (none)) else (none)))) = some r := H
          have A19 := Ax A190
          clear A190
          replace H := Option.bind_eq_some_iff.mp H
          obtain ⟨⟨t182, t183⟩, A200, H⟩ := H
          replace H : ((ivl_Or.f k2 x9_2 t182).bind fun bt186 => (if t177 = 0 then (if t181 = 0 then (if t183 = 0 then (if bt186.2 = 0 then (spoortop_TopAgree.l0 k2 l1 l2 t168 bt186.1 l1 (l1.length : Int) (wrap64 (x52_2 + 1)) a0_0 a0_1) else (none)) else (none)) else (none)) else (none))) = some r := H
          have A20 := Ax A200
          clear A200
          replace H := Option.bind_eq_some_iff.mp H
          obtain ⟨⟨t186, t187⟩, A210, H⟩ := H
          replace H : (if t177 = 0 then (if t181 = 0 then (if t183 = 0 then (if t187 = 0 then (spoortop_TopAgree.l0 k2 l1 l2 t168 t186 l1 (l1.length : Int) (wrap64 (x52_2 + 1)) a0_0 a0_1) else (none)) else (none)) else (none)) else (none)) = some r := H
          have A21 := Ax A210
          clear A210
          by_cases c22 : t177 = 0
          ·rw [if_pos c22] at H
           have c22b0 : (t177 == 0) = true := beq_iff_eq.mpr c22
           have c22b1 : (t177 != 0) = false := bne_eq_false_iff_eq.mpr c22
           clear c22
           by_cases c23 : t181 = 0
           ·rw [if_pos c23] at H
            have c23b0 : (t181 == 0) = true := beq_iff_eq.mpr c23
            have c23b1 : (t181 != 0) = false := bne_eq_false_iff_eq.mpr c23
            clear c23
            by_cases c24 : t183 = 0
            ·rw [if_pos c24] at H
             have c24b0 : (t183 == 0) = true := beq_iff_eq.mpr c24
             have c24b1 : (t183 != 0) = false := bne_eq_false_iff_eq.mpr c24
             clear c24
             by_cases c25 : t187 = 0
             ·rw [if_pos c25] at H
              have c25b0 : (t187 == 0) = true := beq_iff_eq.mpr c25
              have c25b1 : (t187 != 0) = false := bne_eq_false_iff_eq.mpr c25
              clear c25
              have H' := Ax H
              clear H
              have p172 : 0 ≤ (x52_2 : Int) := of_decide_eq_true (by first | (with_reducible assumption) | assumption)
              have q172 : x52_2 < (l1.length : Int) := of_decide_eq_true (by first | (with_reducible assumption) | assumption)
              obtain ⟨ad172, e172, hx172_0, hx172_1, hx172_2, hx172_3⟩ := at_T34 HR1.out x52_2 p172 q172
              cases e172
              replace hx172_0 := (HB.out.cell (World.block_lt_of_cell? w _ hx172_0)).trans hx172_0
              replace hx172_1 := (HB.out.cell (World.block_lt_of_cell? w _ hx172_1)).trans hx172_1
              replace hx172_2 := (HB.out.cell (World.block_lt_of_cell? w _ hx172_2)).trans hx172_2
              replace hx172_3 := (HB.out.cell (World.block_lt_of_cell? w _ hx172_3)).trans hx172_3
              replace p172 := eq_true p172
              replace q172 := eq_true q172
              go_wp2_with (first | ((with_reducible refine gate_dst (N := 11) rfl ?_); refine box_event ?hg (N := 11) ?hd (cs := #[.int .i64 0, .int .i64 0, .int .u8 0, .int .i64 0]) (t := 34) ?hr ?_; (case hd => rfl); (case hg => rfl); (case hr => first | (go_simp; done) | (go_simp; rfl)); intro gb173 hg w26 hbox hb; have n0_ := Ax (Kd.R_below (by (with_reducible repeat (first | apply Kd.R_alloc | apply Kd.R_drewN | apply Kd.R_drew)); exact HO_7.out) hb); have n1_ := Ax (Kd.R_below (by (with_reducible repeat (first | apply Kd.R_alloc | apply Kd.R_drewN | apply Kd.R_drew)); exact HO_9.out) hb); have n2_ := Bx0 BK166 hb; have n3_ := Bs1 HB hb GE166.out; have n4_ := Ax (hbox); have n5_ := Gw1 HB hg GE166.out; have n6_ := Gw1 HB hg GE166.out; have n7_ := Nl0 BK166 hg; have n8_ := Nr0 BK166 hg; clear HO_7; clear HO_9; clear BK166; clear HB; have HO_7 := n0_; have HO_9 := n1_; have BK166 := n2_; have HB := n3_; have BK173 := n4_; have GW173 := n5_; have GE173 := n6_; have NB166_173 := n7_; have NB173_166 := n8_; clear n0_ n1_ n2_ n3_ n4_ n5_ n6_ n7_ n8_; clear hb hbox hg; have hnb27 := NB173_166.out; have hnc27 := NB166_173.out; obtain ⟨hcz28_0, hcz28_1, hcz28_2, hcz28_3, hfz28_0, hfz28_1, hfz28_2, hfz28_3⟩ := cl4 BK173; obtain ⟨hcz29_0, hcz29_1, hfz29_0, hfz29_1⟩ := cl2 BK166) | (go_at_call 6; (with_reducible refine (line_When.calls k2 a0_0 a0_1 _ _ l1 ((rd_T34 l1 x52_2).f1.f0) ((rd_T34 l1 x52_2).f1.f1) t174 t177 _ ?side1 ?side2 A18.out).mono ?_); (case side1 => exact Kd.C_below HR1.out (bw2 HB.out GE166.out GE173.out)); (case side2 => exact HC1.out); rintro e w30 ⟨v175, rfl, ho0, hb⟩; have n0_ := Ax (Kd.R_elder' (by (with_reducible repeat (first | apply Kd.R_alloc | apply Kd.R_drewN | apply Kd.R_drew)); exact (Kd.R_mono (Kd.R_far (p := ⟨gb173, 3, none⟩) (Kd.R_far (p := ⟨gb173, 2, none⟩) (Kd.R_far (p := ⟨gb173, 1, none⟩) (Kd.R_far (p := ⟨gb173, 0, none⟩) (Kd.R_types HO_7.out BK173.out (by decide)) (fun _ hk => hk.2) (.int .i64 ((rd_T34 l1 x52_2).f0.f0))) (fun _ hk => hk.2) (.int .i64 ((rd_T34 l1 x52_2).f0.f1))) (fun _ hk => hk.2) (.int .u8 ((rd_T34 l1 x52_2).f1.f0))) (fun _ hk => hk.2) (.int .i64 ((rd_T34 l1 x52_2).f1.f1))) (fun _ h_ => h_.1))) (Kd.R_base ho0) hb); have n1_ := Ax (Kd.R_elder' (by (with_reducible repeat (first | apply Kd.R_alloc | apply Kd.R_drewN | apply Kd.R_drew)); exact (Kd.R_mono (Kd.R_far (p := ⟨gb173, 3, none⟩) (Kd.R_far (p := ⟨gb173, 2, none⟩) (Kd.R_far (p := ⟨gb173, 1, none⟩) (Kd.R_far (p := ⟨gb173, 0, none⟩) (Kd.R_types HO_9.out BK173.out (by decide)) (fun _ hk => hk.2) (.int .i64 ((rd_T34 l1 x52_2).f0.f0))) (fun _ hk => hk.2) (.int .i64 ((rd_T34 l1 x52_2).f0.f1))) (fun _ hk => hk.2) (.int .u8 ((rd_T34 l1 x52_2).f1.f0))) (fun _ hk => hk.2) (.int .i64 ((rd_T34 l1 x52_2).f1.f1))) (fun _ h_ => h_.1))) (Kd.R_base ho0) hb); have n2_ := Ax (Kd.R_lower (Kd.R_newB (Kd.R_new' (Kd.R_new' ho0 (Kd.R_lt (by (with_reducible repeat (first | apply Kd.R_alloc | apply Kd.R_drewN | apply Kd.R_drew)); exact (Kd.R_mono (Kd.R_far (p := ⟨gb173, 3, none⟩) (Kd.R_far (p := ⟨gb173, 2, none⟩) (Kd.R_far (p := ⟨gb173, 1, none⟩) (Kd.R_far (p := ⟨gb173, 0, none⟩) (Kd.R_types HO_7.out BK173.out (by decide)) (fun _ hk => hk.2) (.int .i64 ((rd_T34 l1 x52_2).f0.f0))) (fun _ hk => hk.2) (.int .i64 ((rd_T34 l1 x52_2).f0.f1))) (fun _ hk => hk.2) (.int .u8 ((rd_T34 l1 x52_2).f1.f0))) (fun _ hk => hk.2) (.int .i64 ((rd_T34 l1 x52_2).f1.f1))) (fun _ h_ => h_.1))))) (Kd.R_lt (by (with_reducible repeat (first | apply Kd.R_alloc | apply Kd.R_drewN | apply Kd.R_drew)); exact (Kd.R_mono (Kd.R_far (p := ⟨gb173, 3, none⟩) (Kd.R_far (p := ⟨gb173, 2, none⟩) (Kd.R_far (p := ⟨gb173, 1, none⟩) (Kd.R_far (p := ⟨gb173, 0, none⟩) (Kd.R_types HO_9.out BK173.out (by decide)) (fun _ hk => hk.2) (.int .i64 ((rd_T34 l1 x52_2).f0.f0))) (fun _ hk => hk.2) (.int .i64 ((rd_T34 l1 x52_2).f0.f1))) (fun _ hk => hk.2) (.int .u8 ((rd_T34 l1 x52_2).f1.f0))) (fun _ hk => hk.2) (.int .i64 ((rd_T34 l1 x52_2).f1.f1))) (fun _ h_ => h_.1))))) (g := gb166) (o := .cells #[.int .i64 a0_0, .int .i64 a0_1] 23 (0, 0)) (bf4 BK166.out NB166_173.out NB166_173.out NB166_173.out NB166_173.out)) (below_size (bw2 HB.out GE166.out GE173.out))); have n3_ := Bx4 BK166 hb NB166_173.out NB166_173.out NB166_173.out NB166_173.out; have n4_ := Ax (blk_below (g := gb173) (o := .cells #[.int .i64 ((rd_T34 l1 x52_2).f0.f0), .int .i64 ((rd_T34 l1 x52_2).f0.f1), .int .u8 ((rd_T34 l1 x52_2).f1.f0), .int .i64 ((rd_T34 l1 x52_2).f1.f1)] 34 (0, 0)) (by (with_reducible repeat (first | refine blk_drewN ?_ _ | refine blk_drew ?_ | refine blk_alloc ?_ _)); refine blk_put (cs := #[.int .i64 ((rd_T34 l1 x52_2).f0.f0), .int .i64 ((rd_T34 l1 x52_2).f0.f1), .int .u8 ((rd_T34 l1 x52_2).f1.f0), .int .i64 0]) ?_ 3 _ rfl; (with_reducible repeat (first | refine blk_drewN ?_ _ | refine blk_drew ?_ | refine blk_alloc ?_ _)); refine blk_put (cs := #[.int .i64 ((rd_T34 l1 x52_2).f0.f0), .int .i64 ((rd_T34 l1 x52_2).f0.f1), .int .u8 0, .int .i64 0]) ?_ 2 _ rfl; (with_reducible repeat (first | refine blk_drewN ?_ _ | refine blk_drew ?_ | refine blk_alloc ?_ _)); refine blk_put (cs := #[.int .i64 ((rd_T34 l1 x52_2).f0.f0), .int .i64 0, .int .u8 0, .int .i64 0]) ?_ 1 _ rfl; (with_reducible repeat (first | refine blk_drewN ?_ _ | refine blk_drew ?_ | refine blk_alloc ?_ _)); refine blk_put (cs := #[.int .i64 0, .int .i64 0, .int .u8 0, .int .i64 0]) ?_ 0 _ rfl; (with_reducible repeat (first | refine blk_drewN ?_ _ | refine blk_drew ?_ | refine blk_alloc ?_ _)); exact BK173.out) hb); have n5_ := Bs2 HB hb GE166.out GE173.out; clear HO_7; clear HO_9; clear BK166; clear BK173; clear HB; have HO_7 := n0_; have HO_9 := n1_; have HO176 := n2_; have BK166 := n3_; have BK173 := n4_; have HB := n5_; clear n0_ n1_ n2_ n3_ n4_ n5_; (try clear hb); (try clear hb2); (try clear hk); (try clear hi); (try clear ho0); obtain ⟨hcz31_0, hcz31_1, hfz31_0, hfz31_1⟩ := cl2 BK166; obtain ⟨hcz32_0, hcz32_1, hcz32_2, hcz32_3, hfz32_0, hfz32_1, hfz32_2, hfz32_3⟩ := cl4 BK173) | (go_at_call 6; (with_reducible refine (line_When.calls k2 a0_0 a0_1 _ _ l2 ((rd_T34 l1 x52_2).f1.f0) ((rd_T34 l1 x52_2).f1.f1) t178 t181 _ ?side1 ?side2 A19.out).mono ?_); (case side1 => repeat (first | exact (Kd.C_below HR2.out HB.out) | (with_reducible refine Kd.C_alloc ?_ _) | (with_reducible refine Kd.C_drewN ?_ _) | (with_reducible refine Kd.C_drew ?_))); (case side2 => exact HC2.out); rintro e w33 ⟨v179, rfl, ho0, hb⟩; have n0_ := Ax (Kd.R_elder' (by (with_reducible repeat (first | apply Kd.R_alloc | apply Kd.R_drewN | apply Kd.R_drew)); exact HO_7.out) (Kd.R_base ho0) hb); have n1_ := Ax (Kd.R_elder' (by (with_reducible repeat (first | apply Kd.R_alloc | apply Kd.R_drewN | apply Kd.R_drew)); exact HO_9.out) (Kd.R_base ho0) hb); have n2_ := Ax (Kd.R_elder' (by (with_reducible repeat (first | apply Kd.R_alloc | apply Kd.R_drewN | apply Kd.R_drew)); exact HO176.out) (Kd.R_base ho0) hb); have n3_ := Ax (Kd.R_lower (Kd.R_newB (Kd.R_new' (Kd.R_new' (Kd.R_new' ho0 (Kd.R_lt (by (with_reducible repeat (first | apply Kd.R_alloc | apply Kd.R_drewN | apply Kd.R_drew)); exact HO_7.out))) (Kd.R_lt (by (with_reducible repeat (first | apply Kd.R_alloc | apply Kd.R_drewN | apply Kd.R_drew)); exact HO_9.out))) (Kd.R_lt (by (with_reducible repeat (first | apply Kd.R_alloc | apply Kd.R_drewN | apply Kd.R_drew)); exact HO176.out))) (g := gb166) (o := .cells #[.int .i64 a0_0, .int .i64 a0_1] 23 (0, 0)) (bf0 BK166.out)) (below_size (bw2 HB.out GE166.out GE173.out))); have n4_ := Bx0 BK166 hb; have n5_ := Bx0 BK173 hb; have n6_ := Bs2 HB hb GE166.out GE173.out; clear HO_7; clear HO_9; clear HO176; clear BK166; clear BK173; clear HB; have HO_7 := n0_; have HO_9 := n1_; have HO176 := n2_; have HO180 := n3_; have BK166 := n4_; have BK173 := n5_; have HB := n6_; clear n0_ n1_ n2_ n3_ n4_ n5_ n6_; (try clear hb); (try clear hb2); (try clear hk); (try clear hi); (try clear ho0); obtain ⟨Ao34, co34, eo34⟩ := Kd.R_slice HO176.out; subst eo34; obtain ⟨Ao35, co35, eo35⟩ := Kd.R_slice HO180.out; subst eo35) | (go_at_call 7; (with_reducible refine (ivl_And.calls k2 _ _ t174 _ _ t178 t182 t183 _ ?side1 ?side2 ?side3 ?side4 A20.out).mono ?_); (case side1 => repeat (first | exact (Kd.R_reads' HO176.out).2.2 | (with_reducible refine Kd.C_alloc ?_ _) | (with_reducible refine Kd.C_drewN ?_ _) | (with_reducible refine Kd.C_drew ?_))); (case side2 => exact (Kd.R_reads' HO176.out).2.1); (case side3 => repeat (first | exact (Kd.R_reads' HO180.out).2.2 | (with_reducible refine Kd.C_alloc ?_ _) | (with_reducible refine Kd.C_drewN ?_ _) | (with_reducible refine Kd.C_drew ?_))); (case side4 => exact (Kd.R_reads' HO180.out).2.1); rintro e w36 ⟨v184, rfl, ho0, hb⟩; have n0_ := Ax (Kd.R_elder' (by (with_reducible repeat (first | apply Kd.R_alloc | apply Kd.R_drewN | apply Kd.R_drew)); exact HO_7.out) (Kd.R_base ho0) hb); have n1_ := Ax (Kd.R_elder' (by (with_reducible repeat (first | apply Kd.R_alloc | apply Kd.R_drewN | apply Kd.R_drew)); exact HO_9.out) (Kd.R_base ho0) hb); have n2_ := Ax (Kd.R_elder' (by (with_reducible repeat (first | apply Kd.R_alloc | apply Kd.R_drewN | apply Kd.R_drew)); exact HO176.out) (Kd.R_base ho0) hb); have n3_ := Ax (Kd.R_elder' (by (with_reducible repeat (first | apply Kd.R_alloc | apply Kd.R_drewN | apply Kd.R_drew)); exact HO180.out) (Kd.R_base ho0) hb); have n4_ := Ax (Kd.R_lower (Kd.R_newB (Kd.R_new' (Kd.R_new' (Kd.R_new' (Kd.R_new' ho0 (Kd.R_lt (by (with_reducible repeat (first | apply Kd.R_alloc | apply Kd.R_drewN | apply Kd.R_drew)); exact HO_7.out))) (Kd.R_lt (by (with_reducible repeat (first | apply Kd.R_alloc | apply Kd.R_drewN | apply Kd.R_drew)); exact HO_9.out))) (Kd.R_lt (by (with_reducible repeat (first | apply Kd.R_alloc | apply Kd.R_drewN | apply Kd.R_drew)); exact HO176.out))) (Kd.R_lt (by (with_reducible repeat (first | apply Kd.R_alloc | apply Kd.R_drewN | apply Kd.R_drew)); exact HO180.out))) (g := gb166) (o := .cells #[.int .i64 a0_0, .int .i64 a0_1] 23 (0, 0)) (bf0 BK166.out)) (below_size (bw2 HB.out GE166.out GE173.out))); have n5_ := Bx0 BK166 hb; have n6_ := Bx0 BK173 hb; have n7_ := Bs2 HB hb GE166.out GE173.out; clear HO_7; clear HO_9; clear HO176; clear HO180; clear BK166; clear BK173; clear HB; have HO_7 := n0_; have HO_9 := n1_; have HO176 := n2_; have HO180 := n3_; have HO185 := n4_; have BK166 := n5_; have BK173 := n6_; have HB := n7_; clear n0_ n1_ n2_ n3_ n4_ n5_ n6_ n7_; (try clear hb); (try clear hb2); (try clear hk); (try clear hi); (try clear ho0); obtain ⟨Ao37, co37, eo37⟩ := Kd.R_slice HO_9.out; subst eo37; obtain ⟨Ao38, co38, eo38⟩ := Kd.R_slice HO185.out; subst eo38) | (go_at_call 8; (with_reducible refine (ivl_Or.calls k2 _ _ x9_2 _ _ t182 t186 t187 _ ?side1 ?side2 ?side3 ?side4 A21.out).mono ?_); (case side1 => repeat (first | exact (Kd.R_reads' HO_9.out).2.2 | (with_reducible refine Kd.C_alloc ?_ _) | (with_reducible refine Kd.C_drewN ?_ _) | (with_reducible refine Kd.C_drew ?_))); (case side2 => exact (Kd.R_reads' HO_9.out).2.1); (case side3 => repeat (first | exact (Kd.R_reads' HO185.out).2.2 | (with_reducible refine Kd.C_alloc ?_ _) | (with_reducible refine Kd.C_drewN ?_ _) | (with_reducible refine Kd.C_drew ?_))); (case side4 => exact (Kd.R_reads' HO185.out).2.1); rintro e w39 ⟨v188, rfl, ho0, hb⟩; have n0_ := Ax (Kd.R_elder' (by (with_reducible repeat (first | apply Kd.R_alloc | apply Kd.R_drewN | apply Kd.R_drew)); exact HO_7.out) (Kd.R_base ho0) hb); have n1_ := Ax (Kd.R_elder' (by (with_reducible repeat (first | apply Kd.R_alloc | apply Kd.R_drewN | apply Kd.R_drew)); exact HO_9.out) (Kd.R_base ho0) hb); have n2_ := Ax (Kd.R_elder' (by (with_reducible repeat (first | apply Kd.R_alloc | apply Kd.R_drewN | apply Kd.R_drew)); exact HO176.out) (Kd.R_base ho0) hb); have n3_ := Ax (Kd.R_elder' (by (with_reducible repeat (first | apply Kd.R_alloc | apply Kd.R_drewN | apply Kd.R_drew)); exact HO180.out) (Kd.R_base ho0) hb); have n4_ := Ax (Kd.R_elder' (by (with_reducible repeat (first | apply Kd.R_alloc | apply Kd.R_drewN | apply Kd.R_drew)); exact HO185.out) (Kd.R_base ho0) hb); have n5_ := Ax (Kd.R_lower (Kd.R_newB (Kd.R_new' (Kd.R_new' (Kd.R_new' (Kd.R_new' (Kd.R_new' ho0 (Kd.R_lt (by (with_reducible repeat (first | apply Kd.R_alloc | apply Kd.R_drewN | apply Kd.R_drew)); exact HO_7.out))) (Kd.R_lt (by (with_reducible repeat (first | apply Kd.R_alloc | apply Kd.R_drewN | apply Kd.R_drew)); exact HO_9.out))) (Kd.R_lt (by (with_reducible repeat (first | apply Kd.R_alloc | apply Kd.R_drewN | apply Kd.R_drew)); exact HO176.out))) (Kd.R_lt (by (with_reducible repeat (first | apply Kd.R_alloc | apply Kd.R_drewN | apply Kd.R_drew)); exact HO180.out))) (Kd.R_lt (by (with_reducible repeat (first | apply Kd.R_alloc | apply Kd.R_drewN | apply Kd.R_drew)); exact HO185.out))) (g := gb166) (o := .cells #[.int .i64 a0_0, .int .i64 a0_1] 23 (0, 0)) (bf0 BK166.out)) (below_size (bw2 HB.out GE166.out GE173.out))); have n6_ := Bx0 BK166 hb; have n7_ := Bx0 BK173 hb; have n8_ := Bs2 HB hb GE166.out GE173.out; clear HO_7; clear HO_9; clear HO176; clear HO180; clear HO185; clear BK166; clear BK173; clear HB; have HO_7 := n0_; have HO_9 := n1_; have HO176 := n2_; have HO180 := n3_; have HO185 := n4_; have HO189 := n5_; have BK166 := n6_; have BK173 := n7_; have HB := n8_; clear n0_ n1_ n2_ n3_ n4_ n5_ n6_ n7_ n8_; (try clear hb); (try clear hb2); (try clear hk); (try clear hi); (try clear ho0)))
              repeat (go_quiet (first | ((with_reducible refine gate_dst (N := 11) rfl ?_); refine box_event ?hg (N := 11) ?hd (cs := #[.int .i64 0, .int .i64 0, .int .u8 0, .int .i64 0]) (t := 34) ?hr ?_; (case hd => rfl); (case hg => rfl); (case hr => first | (go_simp; done) | (go_simp; rfl)); intro gb173 hg w26 hbox hb; have n0_ := Ax (Kd.R_below (by (with_reducible repeat (first | apply Kd.R_alloc | apply Kd.R_drewN | apply Kd.R_drew)); exact HO_7.out) hb); have n1_ := Ax (Kd.R_below (by (with_reducible repeat (first | apply Kd.R_alloc | apply Kd.R_drewN | apply Kd.R_drew)); exact HO_9.out) hb); have n2_ := Bx0 BK166 hb; have n3_ := Bs1 HB hb GE166.out; have n4_ := Ax (hbox); have n5_ := Gw1 HB hg GE166.out; have n6_ := Gw1 HB hg GE166.out; have n7_ := Nl0 BK166 hg; have n8_ := Nr0 BK166 hg; clear HO_7; clear HO_9; clear BK166; clear HB; have HO_7 := n0_; have HO_9 := n1_; have BK166 := n2_; have HB := n3_; have BK173 := n4_; have GW173 := n5_; have GE173 := n6_; have NB166_173 := n7_; have NB173_166 := n8_; clear n0_ n1_ n2_ n3_ n4_ n5_ n6_ n7_ n8_; clear hb hbox hg; have hnb27 := NB173_166.out; have hnc27 := NB166_173.out; obtain ⟨hcz28_0, hcz28_1, hcz28_2, hcz28_3, hfz28_0, hfz28_1, hfz28_2, hfz28_3⟩ := cl4 BK173; obtain ⟨hcz29_0, hcz29_1, hfz29_0, hfz29_1⟩ := cl2 BK166) | (go_at_call 6; (with_reducible refine (line_When.calls k2 a0_0 a0_1 _ _ l1 ((rd_T34 l1 x52_2).f1.f0) ((rd_T34 l1 x52_2).f1.f1) t174 t177 _ ?side1 ?side2 A18.out).mono ?_); (case side1 => exact Kd.C_below HR1.out (bw2 HB.out GE166.out GE173.out)); (case side2 => exact HC1.out); rintro e w30 ⟨v175, rfl, ho0, hb⟩; have n0_ := Ax (Kd.R_elder' (by (with_reducible repeat (first | apply Kd.R_alloc | apply Kd.R_drewN | apply Kd.R_drew)); exact (Kd.R_mono (Kd.R_far (p := ⟨gb173, 3, none⟩) (Kd.R_far (p := ⟨gb173, 2, none⟩) (Kd.R_far (p := ⟨gb173, 1, none⟩) (Kd.R_far (p := ⟨gb173, 0, none⟩) (Kd.R_types HO_7.out BK173.out (by decide)) (fun _ hk => hk.2) (.int .i64 ((rd_T34 l1 x52_2).f0.f0))) (fun _ hk => hk.2) (.int .i64 ((rd_T34 l1 x52_2).f0.f1))) (fun _ hk => hk.2) (.int .u8 ((rd_T34 l1 x52_2).f1.f0))) (fun _ hk => hk.2) (.int .i64 ((rd_T34 l1 x52_2).f1.f1))) (fun _ h_ => h_.1))) (Kd.R_base ho0) hb); have n1_ := Ax (Kd.R_elder' (by (with_reducible repeat (first | apply Kd.R_alloc | apply Kd.R_drewN | apply Kd.R_drew)); exact (Kd.R_mono (Kd.R_far (p := ⟨gb173, 3, none⟩) (Kd.R_far (p := ⟨gb173, 2, none⟩) (Kd.R_far (p := ⟨gb173, 1, none⟩) (Kd.R_far (p := ⟨gb173, 0, none⟩) (Kd.R_types HO_9.out BK173.out (by decide)) (fun _ hk => hk.2) (.int .i64 ((rd_T34 l1 x52_2).f0.f0))) (fun _ hk => hk.2) (.int .i64 ((rd_T34 l1 x52_2).f0.f1))) (fun _ hk => hk.2) (.int .u8 ((rd_T34 l1 x52_2).f1.f0))) (fun _ hk => hk.2) (.int .i64 ((rd_T34 l1 x52_2).f1.f1))) (fun _ h_ => h_.1))) (Kd.R_base ho0) hb); have n2_ := Ax (Kd.R_lower (Kd.R_newB (Kd.R_new' (Kd.R_new' ho0 (Kd.R_lt (by (with_reducible repeat (first | apply Kd.R_alloc | apply Kd.R_drewN | apply Kd.R_drew)); exact (Kd.R_mono (Kd.R_far (p := ⟨gb173, 3, none⟩) (Kd.R_far (p := ⟨gb173, 2, none⟩) (Kd.R_far (p := ⟨gb173, 1, none⟩) (Kd.R_far (p := ⟨gb173, 0, none⟩) (Kd.R_types HO_7.out BK173.out (by decide)) (fun _ hk => hk.2) (.int .i64 ((rd_T34 l1 x52_2).f0.f0))) (fun _ hk => hk.2) (.int .i64 ((rd_T34 l1 x52_2).f0.f1))) (fun _ hk => hk.2) (.int .u8 ((rd_T34 l1 x52_2).f1.f0))) (fun _ hk => hk.2) (.int .i64 ((rd_T34 l1 x52_2).f1.f1))) (fun _ h_ => h_.1))))) (Kd.R_lt (by (with_reducible repeat (first | apply Kd.R_alloc | apply Kd.R_drewN | apply Kd.R_drew)); exact (Kd.R_mono (Kd.R_far (p := ⟨gb173, 3, none⟩) (Kd.R_far (p := ⟨gb173, 2, none⟩) (Kd.R_far (p := ⟨gb173, 1, none⟩) (Kd.R_far (p := ⟨gb173, 0, none⟩) (Kd.R_types HO_9.out BK173.out (by decide)) (fun _ hk => hk.2) (.int .i64 ((rd_T34 l1 x52_2).f0.f0))) (fun _ hk => hk.2) (.int .i64 ((rd_T34 l1 x52_2).f0.f1))) (fun _ hk => hk.2) (.int .u8 ((rd_T34 l1 x52_2).f1.f0))) (fun _ hk => hk.2) (.int .i64 ((rd_T34 l1 x52_2).f1.f1))) (fun _ h_ => h_.1))))) (g := gb166) (o := .cells #[.int .i64 a0_0, .int .i64 a0_1] 23 (0, 0)) (bf4 BK166.out NB166_173.out NB166_173.out NB166_173.out NB166_173.out)) (below_size (bw2 HB.out GE166.out GE173.out))); have n3_ := Bx4 BK166 hb NB166_173.out NB166_173.out NB166_173.out NB166_173.out; have n4_ := Ax (blk_below (g := gb173) (o := .cells #[.int .i64 ((rd_T34 l1 x52_2).f0.f0), .int .i64 ((rd_T34 l1 x52_2).f0.f1), .int .u8 ((rd_T34 l1 x52_2).f1.f0), .int .i64 ((rd_T34 l1 x52_2).f1.f1)] 34 (0, 0)) (by (with_reducible repeat (first | refine blk_drewN ?_ _ | refine blk_drew ?_ | refine blk_alloc ?_ _)); refine blk_put (cs := #[.int .i64 ((rd_T34 l1 x52_2).f0.f0), .int .i64 ((rd_T34 l1 x52_2).f0.f1), .int .u8 ((rd_T34 l1 x52_2).f1.f0), .int .i64 0]) ?_ 3 _ rfl; (with_reducible repeat (first | refine blk_drewN ?_ _ | refine blk_drew ?_ | refine blk_alloc ?_ _)); refine blk_put (cs := #[.int .i64 ((rd_T34 l1 x52_2).f0.f0), .int .i64 ((rd_T34 l1 x52_2).f0.f1), .int .u8 0, .int .i64 0]) ?_ 2 _ rfl; (with_reducible repeat (first | refine blk_drewN ?_ _ | refine blk_drew ?_ | refine blk_alloc ?_ _)); refine blk_put (cs := #[.int .i64 ((rd_T34 l1 x52_2).f0.f0), .int .i64 0, .int .u8 0, .int .i64 0]) ?_ 1 _ rfl; (with_reducible repeat (first | refine blk_drewN ?_ _ | refine blk_drew ?_ | refine blk_alloc ?_ _)); refine blk_put (cs := #[.int .i64 0, .int .i64 0, .int .u8 0, .int .i64 0]) ?_ 0 _ rfl; (with_reducible repeat (first | refine blk_drewN ?_ _ | refine blk_drew ?_ | refine blk_alloc ?_ _)); exact BK173.out) hb); have n5_ := Bs2 HB hb GE166.out GE173.out; clear HO_7; clear HO_9; clear BK166; clear BK173; clear HB; have HO_7 := n0_; have HO_9 := n1_; have HO176 := n2_; have BK166 := n3_; have BK173 := n4_; have HB := n5_; clear n0_ n1_ n2_ n3_ n4_ n5_; (try clear hb); (try clear hb2); (try clear hk); (try clear hi); (try clear ho0); obtain ⟨hcz31_0, hcz31_1, hfz31_0, hfz31_1⟩ := cl2 BK166; obtain ⟨hcz32_0, hcz32_1, hcz32_2, hcz32_3, hfz32_0, hfz32_1, hfz32_2, hfz32_3⟩ := cl4 BK173) | (go_at_call 6; (with_reducible refine (line_When.calls k2 a0_0 a0_1 _ _ l2 ((rd_T34 l1 x52_2).f1.f0) ((rd_T34 l1 x52_2).f1.f1) t178 t181 _ ?side1 ?side2 A19.out).mono ?_); (case side1 => repeat (first | exact (Kd.C_below HR2.out HB.out) | (with_reducible refine Kd.C_alloc ?_ _) | (with_reducible refine Kd.C_drewN ?_ _) | (with_reducible refine Kd.C_drew ?_))); (case side2 => exact HC2.out); rintro e w33 ⟨v179, rfl, ho0, hb⟩; have n0_ := Ax (Kd.R_elder' (by (with_reducible repeat (first | apply Kd.R_alloc | apply Kd.R_drewN | apply Kd.R_drew)); exact HO_7.out) (Kd.R_base ho0) hb); have n1_ := Ax (Kd.R_elder' (by (with_reducible repeat (first | apply Kd.R_alloc | apply Kd.R_drewN | apply Kd.R_drew)); exact HO_9.out) (Kd.R_base ho0) hb); have n2_ := Ax (Kd.R_elder' (by (with_reducible repeat (first | apply Kd.R_alloc | apply Kd.R_drewN | apply Kd.R_drew)); exact HO176.out) (Kd.R_base ho0) hb); have n3_ := Ax (Kd.R_lower (Kd.R_newB (Kd.R_new' (Kd.R_new' (Kd.R_new' ho0 (Kd.R_lt (by (with_reducible repeat (first | apply Kd.R_alloc | apply Kd.R_drewN | apply Kd.R_drew)); exact HO_7.out))) (Kd.R_lt (by (with_reducible repeat (first | apply Kd.R_alloc | apply Kd.R_drewN | apply Kd.R_drew)); exact HO_9.out))) (Kd.R_lt (by (with_reducible repeat (first | apply Kd.R_alloc | apply Kd.R_drewN | apply Kd.R_drew)); exact HO176.out))) (g := gb166) (o := .cells #[.int .i64 a0_0, .int .i64 a0_1] 23 (0, 0)) (bf0 BK166.out)) (below_size (bw2 HB.out GE166.out GE173.out))); have n4_ := Bx0 BK166 hb; have n5_ := Bx0 BK173 hb; have n6_ := Bs2 HB hb GE166.out GE173.out; clear HO_7; clear HO_9; clear HO176; clear BK166; clear BK173; clear HB; have HO_7 := n0_; have HO_9 := n1_; have HO176 := n2_; have HO180 := n3_; have BK166 := n4_; have BK173 := n5_; have HB := n6_; clear n0_ n1_ n2_ n3_ n4_ n5_ n6_; (try clear hb); (try clear hb2); (try clear hk); (try clear hi); (try clear ho0); obtain ⟨Ao34, co34, eo34⟩ := Kd.R_slice HO176.out; subst eo34; obtain ⟨Ao35, co35, eo35⟩ := Kd.R_slice HO180.out; subst eo35) | (go_at_call 7; (with_reducible refine (ivl_And.calls k2 _ _ t174 _ _ t178 t182 t183 _ ?side1 ?side2 ?side3 ?side4 A20.out).mono ?_); (case side1 => repeat (first | exact (Kd.R_reads' HO176.out).2.2 | (with_reducible refine Kd.C_alloc ?_ _) | (with_reducible refine Kd.C_drewN ?_ _) | (with_reducible refine Kd.C_drew ?_))); (case side2 => exact (Kd.R_reads' HO176.out).2.1); (case side3 => repeat (first | exact (Kd.R_reads' HO180.out).2.2 | (with_reducible refine Kd.C_alloc ?_ _) | (with_reducible refine Kd.C_drewN ?_ _) | (with_reducible refine Kd.C_drew ?_))); (case side4 => exact (Kd.R_reads' HO180.out).2.1); rintro e w36 ⟨v184, rfl, ho0, hb⟩; have n0_ := Ax (Kd.R_elder' (by (with_reducible repeat (first | apply Kd.R_alloc | apply Kd.R_drewN | apply Kd.R_drew)); exact HO_7.out) (Kd.R_base ho0) hb); have n1_ := Ax (Kd.R_elder' (by (with_reducible repeat (first | apply Kd.R_alloc | apply Kd.R_drewN | apply Kd.R_drew)); exact HO_9.out) (Kd.R_base ho0) hb); have n2_ := Ax (Kd.R_elder' (by (with_reducible repeat (first | apply Kd.R_alloc | apply Kd.R_drewN | apply Kd.R_drew)); exact HO176.out) (Kd.R_base ho0) hb); have n3_ := Ax (Kd.R_elder' (by (with_reducible repeat (first | apply Kd.R_alloc | apply Kd.R_drewN | apply Kd.R_drew)); exact HO180.out) (Kd.R_base ho0) hb); have n4_ := Ax (Kd.R_lower (Kd.R_newB (Kd.R_new' (Kd.R_new' (Kd.R_new' (Kd.R_new' ho0 (Kd.R_lt (by (with_reducible repeat (first | apply Kd.R_alloc | apply Kd.R_drewN | apply Kd.R_drew)); exact HO_7.out))) (Kd.R_lt (by (with_reducible repeat (first | apply Kd.R_alloc | apply Kd.R_drewN | apply Kd.R_drew)); exact HO_9.out))) (Kd.R_lt (by (with_reducible repeat (first | apply Kd.R_alloc | apply Kd.R_drewN | apply Kd.R_drew)); exact HO176.out))) (Kd.R_lt (by (with_reducible repeat (first | apply Kd.R_alloc | apply Kd.R_drewN | apply Kd.R_drew)); exact HO180.out))) (g := gb166) (o := .cells #[.int .i64 a0_0, .int .i64 a0_1] 23 (0, 0)) (bf0 BK166.out)) (below_size (bw2 HB.out GE166.out GE173.out))); have n5_ := Bx0 BK166 hb; have n6_ := Bx0 BK173 hb; have n7_ := Bs2 HB hb GE166.out GE173.out; clear HO_7; clear HO_9; clear HO176; clear HO180; clear BK166; clear BK173; clear HB; have HO_7 := n0_; have HO_9 := n1_; have HO176 := n2_; have HO180 := n3_; have HO185 := n4_; have BK166 := n5_; have BK173 := n6_; have HB := n7_; clear n0_ n1_ n2_ n3_ n4_ n5_ n6_ n7_; (try clear hb); (try clear hb2); (try clear hk); (try clear hi); (try clear ho0); obtain ⟨Ao37, co37, eo37⟩ := Kd.R_slice HO_9.out; subst eo37; obtain ⟨Ao38, co38, eo38⟩ := Kd.R_slice HO185.out; subst eo38) | (go_at_call 8; (with_reducible refine (ivl_Or.calls k2 _ _ x9_2 _ _ t182 t186 t187 _ ?side1 ?side2 ?side3 ?side4 A21.out).mono ?_); (case side1 => repeat (first | exact (Kd.R_reads' HO_9.out).2.2 | (with_reducible refine Kd.C_alloc ?_ _) | (with_reducible refine Kd.C_drewN ?_ _) | (with_reducible refine Kd.C_drew ?_))); (case side2 => exact (Kd.R_reads' HO_9.out).2.1); (case side3 => repeat (first | exact (Kd.R_reads' HO185.out).2.2 | (with_reducible refine Kd.C_alloc ?_ _) | (with_reducible refine Kd.C_drewN ?_ _) | (with_reducible refine Kd.C_drew ?_))); (case side4 => exact (Kd.R_reads' HO185.out).2.1); rintro e w39 ⟨v188, rfl, ho0, hb⟩; have n0_ := Ax (Kd.R_elder' (by (with_reducible repeat (first | apply Kd.R_alloc | apply Kd.R_drewN | apply Kd.R_drew)); exact HO_7.out) (Kd.R_base ho0) hb); have n1_ := Ax (Kd.R_elder' (by (with_reducible repeat (first | apply Kd.R_alloc | apply Kd.R_drewN | apply Kd.R_drew)); exact HO_9.out) (Kd.R_base ho0) hb); have n2_ := Ax (Kd.R_elder' (by (with_reducible repeat (first | apply Kd.R_alloc | apply Kd.R_drewN | apply Kd.R_drew)); exact HO176.out) (Kd.R_base ho0) hb); have n3_ := Ax (Kd.R_elder' (by (with_reducible repeat (first | apply Kd.R_alloc | apply Kd.R_drewN | apply Kd.R_drew)); exact HO180.out) (Kd.R_base ho0) hb); have n4_ := Ax (Kd.R_elder' (by (with_reducible repeat (first | apply Kd.R_alloc | apply Kd.R_drewN | apply Kd.R_drew)); exact HO185.out) (Kd.R_base ho0) hb); have n5_ := Ax (Kd.R_lower (Kd.R_newB (Kd.R_new' (Kd.R_new' (Kd.R_new' (Kd.R_new' (Kd.R_new' ho0 (Kd.R_lt (by (with_reducible repeat (first | apply Kd.R_alloc | apply Kd.R_drewN | apply Kd.R_drew)); exact HO_7.out))) (Kd.R_lt (by (with_reducible repeat (first | apply Kd.R_alloc | apply Kd.R_drewN | apply Kd.R_drew)); exact HO_9.out))) (Kd.R_lt (by (with_reducible repeat (first | apply Kd.R_alloc | apply Kd.R_drewN | apply Kd.R_drew)); exact HO176.out))) (Kd.R_lt (by (with_reducible repeat (first | apply Kd.R_alloc | apply Kd.R_drewN | apply Kd.R_drew)); exact HO180.out))) (Kd.R_lt (by (with_reducible repeat (first | apply Kd.R_alloc | apply Kd.R_drewN | apply Kd.R_drew)); exact HO185.out))) (g := gb166) (o := .cells #[.int .i64 a0_0, .int .i64 a0_1] 23 (0, 0)) (bf0 BK166.out)) (below_size (bw2 HB.out GE166.out GE173.out))); have n6_ := Bx0 BK166 hb; have n7_ := Bx0 BK173 hb; have n8_ := Bs2 HB hb GE166.out GE173.out; clear HO_7; clear HO_9; clear HO176; clear HO180; clear HO185; clear BK166; clear BK173; clear HB; have HO_7 := n0_; have HO_9 := n1_; have HO176 := n2_; have HO180 := n3_; have HO185 := n4_; have HO189 := n5_; have BK166 := n6_; have BK173 := n7_; have HB := n8_; clear n0_ n1_ n2_ n3_ n4_ n5_ n6_ n7_ n8_; (try clear hb); (try clear hb2); (try clear hk); (try clear hi); (try clear ho0))); try go_wp2_with (first | ((with_reducible refine gate_dst (N := 11) rfl ?_); refine box_event ?hg (N := 11) ?hd (cs := #[.int .i64 0, .int .i64 0, .int .u8 0, .int .i64 0]) (t := 34) ?hr ?_; (case hd => rfl); (case hg => rfl); (case hr => first | (go_simp; done) | (go_simp; rfl)); intro gb173 hg w26 hbox hb; have n0_ := Ax (Kd.R_below (by (with_reducible repeat (first | apply Kd.R_alloc | apply Kd.R_drewN | apply Kd.R_drew)); exact HO_7.out) hb); have n1_ := Ax (Kd.R_below (by (with_reducible repeat (first | apply Kd.R_alloc | apply Kd.R_drewN | apply Kd.R_drew)); exact HO_9.out) hb); have n2_ := Bx0 BK166 hb; have n3_ := Bs1 HB hb GE166.out; have n4_ := Ax (hbox); have n5_ := Gw1 HB hg GE166.out; have n6_ := Gw1 HB hg GE166.out; have n7_ := Nl0 BK166 hg; have n8_ := Nr0 BK166 hg; clear HO_7; clear HO_9; clear BK166; clear HB; have HO_7 := n0_; have HO_9 := n1_; have BK166 := n2_; have HB := n3_; have BK173 := n4_; have GW173 := n5_; have GE173 := n6_; have NB166_173 := n7_; have NB173_166 := n8_; clear n0_ n1_ n2_ n3_ n4_ n5_ n6_ n7_ n8_; clear hb hbox hg; have hnb27 := NB173_166.out; have hnc27 := NB166_173.out; obtain ⟨hcz28_0, hcz28_1, hcz28_2, hcz28_3, hfz28_0, hfz28_1, hfz28_2, hfz28_3⟩ := cl4 BK173; obtain ⟨hcz29_0, hcz29_1, hfz29_0, hfz29_1⟩ := cl2 BK166) | (go_at_call 6; (with_reducible refine (line_When.calls k2 a0_0 a0_1 _ _ l1 ((rd_T34 l1 x52_2).f1.f0) ((rd_T34 l1 x52_2).f1.f1) t174 t177 _ ?side1 ?side2 A18.out).mono ?_); (case side1 => exact Kd.C_below HR1.out (bw2 HB.out GE166.out GE173.out)); (case side2 => exact HC1.out); rintro e w30 ⟨v175, rfl, ho0, hb⟩; have n0_ := Ax (Kd.R_elder' (by (with_reducible repeat (first | apply Kd.R_alloc | apply Kd.R_drewN | apply Kd.R_drew)); exact (Kd.R_mono (Kd.R_far (p := ⟨gb173, 3, none⟩) (Kd.R_far (p := ⟨gb173, 2, none⟩) (Kd.R_far (p := ⟨gb173, 1, none⟩) (Kd.R_far (p := ⟨gb173, 0, none⟩) (Kd.R_types HO_7.out BK173.out (by decide)) (fun _ hk => hk.2) (.int .i64 ((rd_T34 l1 x52_2).f0.f0))) (fun _ hk => hk.2) (.int .i64 ((rd_T34 l1 x52_2).f0.f1))) (fun _ hk => hk.2) (.int .u8 ((rd_T34 l1 x52_2).f1.f0))) (fun _ hk => hk.2) (.int .i64 ((rd_T34 l1 x52_2).f1.f1))) (fun _ h_ => h_.1))) (Kd.R_base ho0) hb); have n1_ := Ax (Kd.R_elder' (by (with_reducible repeat (first | apply Kd.R_alloc | apply Kd.R_drewN | apply Kd.R_drew)); exact (Kd.R_mono (Kd.R_far (p := ⟨gb173, 3, none⟩) (Kd.R_far (p := ⟨gb173, 2, none⟩) (Kd.R_far (p := ⟨gb173, 1, none⟩) (Kd.R_far (p := ⟨gb173, 0, none⟩) (Kd.R_types HO_9.out BK173.out (by decide)) (fun _ hk => hk.2) (.int .i64 ((rd_T34 l1 x52_2).f0.f0))) (fun _ hk => hk.2) (.int .i64 ((rd_T34 l1 x52_2).f0.f1))) (fun _ hk => hk.2) (.int .u8 ((rd_T34 l1 x52_2).f1.f0))) (fun _ hk => hk.2) (.int .i64 ((rd_T34 l1 x52_2).f1.f1))) (fun _ h_ => h_.1))) (Kd.R_base ho0) hb); have n2_ := Ax (Kd.R_lower (Kd.R_newB (Kd.R_new' (Kd.R_new' ho0 (Kd.R_lt (by (with_reducible repeat (first | apply Kd.R_alloc | apply Kd.R_drewN | apply Kd.R_drew)); exact (Kd.R_mono (Kd.R_far (p := ⟨gb173, 3, none⟩) (Kd.R_far (p := ⟨gb173, 2, none⟩) (Kd.R_far (p := ⟨gb173, 1, none⟩) (Kd.R_far (p := ⟨gb173, 0, none⟩) (Kd.R_types HO_7.out BK173.out (by decide)) (fun _ hk => hk.2) (.int .i64 ((rd_T34 l1 x52_2).f0.f0))) (fun _ hk => hk.2) (.int .i64 ((rd_T34 l1 x52_2).f0.f1))) (fun _ hk => hk.2) (.int .u8 ((rd_T34 l1 x52_2).f1.f0))) (fun _ hk => hk.2) (.int .i64 ((rd_T34 l1 x52_2).f1.f1))) (fun _ h_ => h_.1))))) (Kd.R_lt (by (with_reducible repeat (first | apply Kd.R_alloc | apply Kd.R_drewN | apply Kd.R_drew)); exact (Kd.R_mono (Kd.R_far (p := ⟨gb173, 3, none⟩) (Kd.R_far (p := ⟨gb173, 2, none⟩) (Kd.R_far (p := ⟨gb173, 1, none⟩) (Kd.R_far (p := ⟨gb173, 0, none⟩) (Kd.R_types HO_9.out BK173.out (by decide)) (fun _ hk => hk.2) (.int .i64 ((rd_T34 l1 x52_2).f0.f0))) (fun _ hk => hk.2) (.int .i64 ((rd_T34 l1 x52_2).f0.f1))) (fun _ hk => hk.2) (.int .u8 ((rd_T34 l1 x52_2).f1.f0))) (fun _ hk => hk.2) (.int .i64 ((rd_T34 l1 x52_2).f1.f1))) (fun _ h_ => h_.1))))) (g := gb166) (o := .cells #[.int .i64 a0_0, .int .i64 a0_1] 23 (0, 0)) (bf4 BK166.out NB166_173.out NB166_173.out NB166_173.out NB166_173.out)) (below_size (bw2 HB.out GE166.out GE173.out))); have n3_ := Bx4 BK166 hb NB166_173.out NB166_173.out NB166_173.out NB166_173.out; have n4_ := Ax (blk_below (g := gb173) (o := .cells #[.int .i64 ((rd_T34 l1 x52_2).f0.f0), .int .i64 ((rd_T34 l1 x52_2).f0.f1), .int .u8 ((rd_T34 l1 x52_2).f1.f0), .int .i64 ((rd_T34 l1 x52_2).f1.f1)] 34 (0, 0)) (by (with_reducible repeat (first | refine blk_drewN ?_ _ | refine blk_drew ?_ | refine blk_alloc ?_ _)); refine blk_put (cs := #[.int .i64 ((rd_T34 l1 x52_2).f0.f0), .int .i64 ((rd_T34 l1 x52_2).f0.f1), .int .u8 ((rd_T34 l1 x52_2).f1.f0), .int .i64 0]) ?_ 3 _ rfl; (with_reducible repeat (first | refine blk_drewN ?_ _ | refine blk_drew ?_ | refine blk_alloc ?_ _)); refine blk_put (cs := #[.int .i64 ((rd_T34 l1 x52_2).f0.f0), .int .i64 ((rd_T34 l1 x52_2).f0.f1), .int .u8 0, .int .i64 0]) ?_ 2 _ rfl; (with_reducible repeat (first | refine blk_drewN ?_ _ | refine blk_drew ?_ | refine blk_alloc ?_ _)); refine blk_put (cs := #[.int .i64 ((rd_T34 l1 x52_2).f0.f0), .int .i64 0, .int .u8 0, .int .i64 0]) ?_ 1 _ rfl; (with_reducible repeat (first | refine blk_drewN ?_ _ | refine blk_drew ?_ | refine blk_alloc ?_ _)); refine blk_put (cs := #[.int .i64 0, .int .i64 0, .int .u8 0, .int .i64 0]) ?_ 0 _ rfl; (with_reducible repeat (first | refine blk_drewN ?_ _ | refine blk_drew ?_ | refine blk_alloc ?_ _)); exact BK173.out) hb); have n5_ := Bs2 HB hb GE166.out GE173.out; clear HO_7; clear HO_9; clear BK166; clear BK173; clear HB; have HO_7 := n0_; have HO_9 := n1_; have HO176 := n2_; have BK166 := n3_; have BK173 := n4_; have HB := n5_; clear n0_ n1_ n2_ n3_ n4_ n5_; (try clear hb); (try clear hb2); (try clear hk); (try clear hi); (try clear ho0); obtain ⟨hcz31_0, hcz31_1, hfz31_0, hfz31_1⟩ := cl2 BK166; obtain ⟨hcz32_0, hcz32_1, hcz32_2, hcz32_3, hfz32_0, hfz32_1, hfz32_2, hfz32_3⟩ := cl4 BK173) | (go_at_call 6; (with_reducible refine (line_When.calls k2 a0_0 a0_1 _ _ l2 ((rd_T34 l1 x52_2).f1.f0) ((rd_T34 l1 x52_2).f1.f1) t178 t181 _ ?side1 ?side2 A19.out).mono ?_); (case side1 => repeat (first | exact (Kd.C_below HR2.out HB.out) | (with_reducible refine Kd.C_alloc ?_ _) | (with_reducible refine Kd.C_drewN ?_ _) | (with_reducible refine Kd.C_drew ?_))); (case side2 => exact HC2.out); rintro e w33 ⟨v179, rfl, ho0, hb⟩; have n0_ := Ax (Kd.R_elder' (by (with_reducible repeat (first | apply Kd.R_alloc | apply Kd.R_drewN | apply Kd.R_drew)); exact HO_7.out) (Kd.R_base ho0) hb); have n1_ := Ax (Kd.R_elder' (by (with_reducible repeat (first | apply Kd.R_alloc | apply Kd.R_drewN | apply Kd.R_drew)); exact HO_9.out) (Kd.R_base ho0) hb); have n2_ := Ax (Kd.R_elder' (by (with_reducible repeat (first | apply Kd.R_alloc | apply Kd.R_drewN | apply Kd.R_drew)); exact HO176.out) (Kd.R_base ho0) hb); have n3_ := Ax (Kd.R_lower (Kd.R_newB (Kd.R_new' (Kd.R_new' (Kd.R_new' ho0 (Kd.R_lt (by (with_reducible repeat (first | apply Kd.R_alloc | apply Kd.R_drewN | apply Kd.R_drew)); exact HO_7.out))) (Kd.R_lt (by (with_reducible repeat (first | apply Kd.R_alloc | apply Kd.R_drewN | apply Kd.R_drew)); exact HO_9.out))) (Kd.R_lt (by (with_reducible repeat (first | apply Kd.R_alloc | apply Kd.R_drewN | apply Kd.R_drew)); exact HO176.out))) (g := gb166) (o := .cells #[.int .i64 a0_0, .int .i64 a0_1] 23 (0, 0)) (bf0 BK166.out)) (below_size (bw2 HB.out GE166.out GE173.out))); have n4_ := Bx0 BK166 hb; have n5_ := Bx0 BK173 hb; have n6_ := Bs2 HB hb GE166.out GE173.out; clear HO_7; clear HO_9; clear HO176; clear BK166; clear BK173; clear HB; have HO_7 := n0_; have HO_9 := n1_; have HO176 := n2_; have HO180 := n3_; have BK166 := n4_; have BK173 := n5_; have HB := n6_; clear n0_ n1_ n2_ n3_ n4_ n5_ n6_; (try clear hb); (try clear hb2); (try clear hk); (try clear hi); (try clear ho0); obtain ⟨Ao34, co34, eo34⟩ := Kd.R_slice HO176.out; subst eo34; obtain ⟨Ao35, co35, eo35⟩ := Kd.R_slice HO180.out; subst eo35) | (go_at_call 7; (with_reducible refine (ivl_And.calls k2 _ _ t174 _ _ t178 t182 t183 _ ?side1 ?side2 ?side3 ?side4 A20.out).mono ?_); (case side1 => repeat (first | exact (Kd.R_reads' HO176.out).2.2 | (with_reducible refine Kd.C_alloc ?_ _) | (with_reducible refine Kd.C_drewN ?_ _) | (with_reducible refine Kd.C_drew ?_))); (case side2 => exact (Kd.R_reads' HO176.out).2.1); (case side3 => repeat (first | exact (Kd.R_reads' HO180.out).2.2 | (with_reducible refine Kd.C_alloc ?_ _) | (with_reducible refine Kd.C_drewN ?_ _) | (with_reducible refine Kd.C_drew ?_))); (case side4 => exact (Kd.R_reads' HO180.out).2.1); rintro e w36 ⟨v184, rfl, ho0, hb⟩; have n0_ := Ax (Kd.R_elder' (by (with_reducible repeat (first | apply Kd.R_alloc | apply Kd.R_drewN | apply Kd.R_drew)); exact HO_7.out) (Kd.R_base ho0) hb); have n1_ := Ax (Kd.R_elder' (by (with_reducible repeat (first | apply Kd.R_alloc | apply Kd.R_drewN | apply Kd.R_drew)); exact HO_9.out) (Kd.R_base ho0) hb); have n2_ := Ax (Kd.R_elder' (by (with_reducible repeat (first | apply Kd.R_alloc | apply Kd.R_drewN | apply Kd.R_drew)); exact HO176.out) (Kd.R_base ho0) hb); have n3_ := Ax (Kd.R_elder' (by (with_reducible repeat (first | apply Kd.R_alloc | apply Kd.R_drewN | apply Kd.R_drew)); exact HO180.out) (Kd.R_base ho0) hb); have n4_ := Ax (Kd.R_lower (Kd.R_newB (Kd.R_new' (Kd.R_new' (Kd.R_new' (Kd.R_new' ho0 (Kd.R_lt (by (with_reducible repeat (first | apply Kd.R_alloc | apply Kd.R_drewN | apply Kd.R_drew)); exact HO_7.out))) (Kd.R_lt (by (with_reducible repeat (first | apply Kd.R_alloc | apply Kd.R_drewN | apply Kd.R_drew)); exact HO_9.out))) (Kd.R_lt (by (with_reducible repeat (first | apply Kd.R_alloc | apply Kd.R_drewN | apply Kd.R_drew)); exact HO176.out))) (Kd.R_lt (by (with_reducible repeat (first | apply Kd.R_alloc | apply Kd.R_drewN | apply Kd.R_drew)); exact HO180.out))) (g := gb166) (o := .cells #[.int .i64 a0_0, .int .i64 a0_1] 23 (0, 0)) (bf0 BK166.out)) (below_size (bw2 HB.out GE166.out GE173.out))); have n5_ := Bx0 BK166 hb; have n6_ := Bx0 BK173 hb; have n7_ := Bs2 HB hb GE166.out GE173.out; clear HO_7; clear HO_9; clear HO176; clear HO180; clear BK166; clear BK173; clear HB; have HO_7 := n0_; have HO_9 := n1_; have HO176 := n2_; have HO180 := n3_; have HO185 := n4_; have BK166 := n5_; have BK173 := n6_; have HB := n7_; clear n0_ n1_ n2_ n3_ n4_ n5_ n6_ n7_; (try clear hb); (try clear hb2); (try clear hk); (try clear hi); (try clear ho0); obtain ⟨Ao37, co37, eo37⟩ := Kd.R_slice HO_9.out; subst eo37; obtain ⟨Ao38, co38, eo38⟩ := Kd.R_slice HO185.out; subst eo38) | (go_at_call 8; (with_reducible refine (ivl_Or.calls k2 _ _ x9_2 _ _ t182 t186 t187 _ ?side1 ?side2 ?side3 ?side4 A21.out).mono ?_); (case side1 => repeat (first | exact (Kd.R_reads' HO_9.out).2.2 | (with_reducible refine Kd.C_alloc ?_ _) | (with_reducible refine Kd.C_drewN ?_ _) | (with_reducible refine Kd.C_drew ?_))); (case side2 => exact (Kd.R_reads' HO_9.out).2.1); (case side3 => repeat (first | exact (Kd.R_reads' HO185.out).2.2 | (with_reducible refine Kd.C_alloc ?_ _) | (with_reducible refine Kd.C_drewN ?_ _) | (with_reducible refine Kd.C_drew ?_))); (case side4 => exact (Kd.R_reads' HO185.out).2.1); rintro e w39 ⟨v188, rfl, ho0, hb⟩; have n0_ := Ax (Kd.R_elder' (by (with_reducible repeat (first | apply Kd.R_alloc | apply Kd.R_drewN | apply Kd.R_drew)); exact HO_7.out) (Kd.R_base ho0) hb); have n1_ := Ax (Kd.R_elder' (by (with_reducible repeat (first | apply Kd.R_alloc | apply Kd.R_drewN | apply Kd.R_drew)); exact HO_9.out) (Kd.R_base ho0) hb); have n2_ := Ax (Kd.R_elder' (by (with_reducible repeat (first | apply Kd.R_alloc | apply Kd.R_drewN | apply Kd.R_drew)); exact HO176.out) (Kd.R_base ho0) hb); have n3_ := Ax (Kd.R_elder' (by (with_reducible repeat (first | apply Kd.R_alloc | apply Kd.R_drewN | apply Kd.R_drew)); exact HO180.out) (Kd.R_base ho0) hb); have n4_ := Ax (Kd.R_elder' (by (with_reducible repeat (first | apply Kd.R_alloc | apply Kd.R_drewN | apply Kd.R_drew)); exact HO185.out) (Kd.R_base ho0) hb); have n5_ := Ax (Kd.R_lower (Kd.R_newB (Kd.R_new' (Kd.R_new' (Kd.R_new' (Kd.R_new' (Kd.R_new' ho0 (Kd.R_lt (by (with_reducible repeat (first | apply Kd.R_alloc | apply Kd.R_drewN | apply Kd.R_drew)); exact HO_7.out))) (Kd.R_lt (by (with_reducible repeat (first | apply Kd.R_alloc | apply Kd.R_drewN | apply Kd.R_drew)); exact HO_9.out))) (Kd.R_lt (by (with_reducible repeat (first | apply Kd.R_alloc | apply Kd.R_drewN | apply Kd.R_drew)); exact HO176.out))) (Kd.R_lt (by (with_reducible repeat (first | apply Kd.R_alloc | apply Kd.R_drewN | apply Kd.R_drew)); exact HO180.out))) (Kd.R_lt (by (with_reducible repeat (first | apply Kd.R_alloc | apply Kd.R_drewN | apply Kd.R_drew)); exact HO185.out))) (g := gb166) (o := .cells #[.int .i64 a0_0, .int .i64 a0_1] 23 (0, 0)) (bf0 BK166.out)) (below_size (bw2 HB.out GE166.out GE173.out))); have n6_ := Bx0 BK166 hb; have n7_ := Bx0 BK173 hb; have n8_ := Bs2 HB hb GE166.out GE173.out; clear HO_7; clear HO_9; clear HO176; clear HO180; clear HO185; clear BK166; clear BK173; clear HB; have HO_7 := n0_; have HO_9 := n1_; have HO176 := n2_; have HO180 := n3_; have HO185 := n4_; have HO189 := n5_; have BK166 := n6_; have BK173 := n7_; have HB := n8_; clear n0_ n1_ n2_ n3_ n4_ n5_ n6_ n7_ n8_; (try clear hb); (try clear hb2); (try clear hk); (try clear hi); (try clear ho0))))
              go_roundg k2
              case measure => have := HJ6.out; have := HK2.out; omega
              case rel => exact ⟨(t186), (wrap64 (x52_2 + 1)), rS, H', ⟨by have := HJ6.out; have := HK2.out; omega⟩, ⟨by (with_reducible repeat (first | apply Kd.R_alloc | apply Kd.R_drewN | apply Kd.R_drew)); exact Kd.R_mono HO_7.out (fun _ hk => ⟨hk.2, hk.1.1.1.1.2⟩)⟩, ⟨by (with_reducible repeat (first | apply Kd.R_alloc | apply Kd.R_drewN | apply Kd.R_drew)); exact Kd.R_mono HO189.out (fun _ hk => ⟨hk.1.1.1.1.1.2, hk.2⟩)⟩, ⟨bf0 BK166.out⟩, ⟨bw2 HB.out GE166.out GE173.out⟩⟩
             ·rw [if_neg c25] at H
              exact absurd H (by simp)
            ·rw [if_neg c24] at H
             exact absurd H (by simp)
           ·rw [if_neg c23] at H
            exact absurd H (by simp)
          ·rw [if_neg c22] at H
           exact absurd H (by simp)
         ·rw [if_neg c17] at H
          exact absurd H (by simp)
        ·rw [if_neg c16] at H
         exact absurd H (by simp)
       ·rw [if_neg c15] at H
        have c15b0 : decide (x52_2 < (l1.length : Int)) = false := decide_eq_false c15
        clear c15
        replace H := Option.bind_eq_some_iff.mp H
        obtain ⟨⟨t190, t193⟩, A400, H⟩ := H
        replace H : ((ivl_And.f k2 t168 x9_2).bind fun bt194 => ((ivl_Long.f k2 t168).bind fun bt198 => ((ivl_Long.f k2 x9_2).bind fun bt200 => (if t193 = 0 then (if bt194.2 = 0 then (if bt198.2 = 0 then (if bt200.2 = 0 then (if (bt194.1.length : Int) = 0 then (if (t190.length : Int) = (x9_2.length : Int) then (spoortop_TopAgree.j2 k2 x9_2 t190 ((wrap64 (bt198.1 + bt200.1)) != (wrap64 ((wrap64 (a0_1 - a0_0)) + 1)))) else (spoortop_TopAgree.j2 k2 x9_2 t190 true)) else (spoortop_TopAgree.j2 k2 x9_2 t190 true)) else (spoortop_TopAgree.j2 k2 x9_2 t190 true)) else (spoortop_TopAgree.j2 k2 x9_2 t190 true)) else (spoortop_TopAgree.j2 k2 x9_2 t190 true)) else (spoortop_TopAgree.j2 k2 x9_2 t190 true))))) = some r := H
        have A40 := Ax A400
        clear A400
        replace H := Option.bind_eq_some_iff.mp H
        obtain ⟨⟨t194, t195⟩, A410, H⟩ := H
        replace H : ((ivl_Long.f k2 t168).bind fun bt198 => ((ivl_Long.f k2 x9_2).bind fun bt200 => (if t193 = 0 then (if t195 = 0 then (if bt198.2 = 0 then (if bt200.2 = 0 then (if (t194.length : Int) = 0 then (if (t190.length : Int) = (x9_2.length : Int) then (spoortop_TopAgree.j2 k2 x9_2 t190 ((wrap64 (bt198.1 + bt200.1)) != (wrap64 ((wrap64 (a0_1 - a0_0)) + 1)))) else (spoortop_TopAgree.j2 k2 x9_2 t190 true)) else (spoortop_TopAgree.j2 k2 x9_2 t190 true)) else (spoortop_TopAgree.j2 k2 x9_2 t190 true)) else (spoortop_TopAgree.j2 k2 x9_2 t190 true)) else (spoortop_TopAgree.j2 k2 x9_2 t190 true)) else (spoortop_TopAgree.j2 k2 x9_2 t190 true)))) = some r := H
        have A41 := Ax A410
        clear A410
        replace H := Option.bind_eq_some_iff.mp H
        obtain ⟨⟨t198, t199⟩, A420, H⟩ := H
        replace H : ((ivl_Long.f k2 x9_2).bind fun bt200 => (if t193 = 0 then (if t195 = 0 then (if t199 = 0 then (if bt200.2 = 0 then (if (t194.length : Int) = 0 then (if (t190.length : Int) = (x9_2.length : Int) then (spoortop_TopAgree.j2 k2 x9_2 t190 ((wrap64 (t198 + bt200.1)) != (wrap64 ((wrap64 (a0_1 - a0_0)) + 1)))) else (spoortop_TopAgree.j2 k2 x9_2 t190 true)) else (spoortop_TopAgree.j2 k2 x9_2 t190 true)) else (spoortop_TopAgree.j2 k2 x9_2 t190 true)) else (spoortop_TopAgree.j2 k2 x9_2 t190 true)) else (spoortop_TopAgree.j2 k2 x9_2 t190 true)) else (spoortop_TopAgree.j2 k2 x9_2 t190 true))) = some r := H
        have A42 := Ax A420
        clear A420
        replace H := Option.bind_eq_some_iff.mp H
        obtain ⟨⟨t200, t201⟩, A430, H⟩ := H
        replace H : (if t193 = 0 then (if t195 = 0 then (if t199 = 0 then (if t201 = 0 then (if (t194.length : Int) = 0 then (if (t190.length : Int) = (x9_2.length : Int) then (spoortop_TopAgree.j2 k2 x9_2 t190 ((wrap64 (t198 + t200)) != (wrap64 ((wrap64 (a0_1 - a0_0)) + 1)))) else (spoortop_TopAgree.j2 k2 x9_2 t190 true)) else (spoortop_TopAgree.j2 k2 x9_2 t190 true)) else (spoortop_TopAgree.j2 k2 x9_2 t190 true)) else (spoortop_TopAgree.j2 k2 x9_2 t190 true)) else (spoortop_TopAgree.j2 k2 x9_2 t190 true)) else (spoortop_TopAgree.j2 k2 x9_2 t190 true)) = some r := H
        have A43 := Ax A430
        clear A430
        have HC44 := Ax H
        clear H
        obtain ⟨hcz45_0, hcz45_1, hfz45_0, hfz45_1⟩ := cl2 BK166
        obtain ⟨Ao46, co46, eo46⟩ := Kd.R_slice HO_7.out
        subst eo46
        go_upto_region 22 with (first | (go_at_call 9; (with_reducible refine (ivl_Not.calls k2 _ _ t168 a0_0 a0_1 t190 t193 _ ?side1 ?side2 A40.out).mono ?_); (case side1 => repeat (first | exact (Kd.R_reads' HO_7.out).2.2 | (with_reducible refine Kd.C_alloc ?_ _) | (with_reducible refine Kd.C_drewN ?_ _) | (with_reducible refine Kd.C_drew ?_))); (case side2 => exact (Kd.R_reads' HO_7.out).2.1); rintro e w47 ⟨v191, rfl, ho0, hb⟩; have n0_ := Ax (Kd.R_elder' (by (with_reducible repeat (first | apply Kd.R_alloc | apply Kd.R_drewN | apply Kd.R_drew)); exact HO_7.out) (Kd.R_base ho0) hb); have n1_ := Ax (Kd.R_elder' (by (with_reducible repeat (first | apply Kd.R_alloc | apply Kd.R_drewN | apply Kd.R_drew)); exact HO_9.out) (Kd.R_base ho0) hb); have n2_ := Ax (Kd.R_lower (Kd.R_newB (Kd.R_new' (Kd.R_new' ho0 (Kd.R_lt (by (with_reducible repeat (first | apply Kd.R_alloc | apply Kd.R_drewN | apply Kd.R_drew)); exact HO_7.out))) (Kd.R_lt (by (with_reducible repeat (first | apply Kd.R_alloc | apply Kd.R_drewN | apply Kd.R_drew)); exact HO_9.out))) (g := gb166) (o := .cells #[.int .i64 a0_0, .int .i64 a0_1] 23 (0, 0)) (bf0 BK166.out)) (below_size (bw1 HB.out GE166.out))); have n3_ := Bx0 BK166 hb; have n4_ := Bs1 HB hb GE166.out; clear HO_7; clear HO_9; clear BK166; clear HB; have HO_7 := n0_; have HO_9 := n1_; have HO192 := n2_; have BK166 := n3_; have HB := n4_; clear n0_ n1_ n2_ n3_ n4_; (try clear hb); (try clear hb2); (try clear hk); (try clear hi); (try clear ho0); obtain ⟨Ao48, co48, eo48⟩ := Kd.R_slice HO_9.out; subst eo48) | (go_at_call 7; (with_reducible refine (ivl_And.calls k2 _ _ t168 _ _ x9_2 t194 t195 _ ?side1 ?side2 ?side3 ?side4 A41.out).mono ?_); (case side1 => repeat (first | exact (Kd.R_reads' HO_7.out).2.2 | (with_reducible refine Kd.C_alloc ?_ _) | (with_reducible refine Kd.C_drewN ?_ _) | (with_reducible refine Kd.C_drew ?_))); (case side2 => exact (Kd.R_reads' HO_7.out).2.1); (case side3 => repeat (first | exact (Kd.R_reads' HO_9.out).2.2 | (with_reducible refine Kd.C_alloc ?_ _) | (with_reducible refine Kd.C_drewN ?_ _) | (with_reducible refine Kd.C_drew ?_))); (case side4 => exact (Kd.R_reads' HO_9.out).2.1); rintro e w49 ⟨v196, rfl, ho0, hb⟩; have n0_ := Ax (Kd.R_elder' (by (with_reducible repeat (first | apply Kd.R_alloc | apply Kd.R_drewN | apply Kd.R_drew)); exact HO_7.out) (Kd.R_base ho0) hb); have n1_ := Ax (Kd.R_elder' (by (with_reducible repeat (first | apply Kd.R_alloc | apply Kd.R_drewN | apply Kd.R_drew)); exact HO_9.out) (Kd.R_base ho0) hb); have n2_ := Ax (Kd.R_elder' (by (with_reducible repeat (first | apply Kd.R_alloc | apply Kd.R_drewN | apply Kd.R_drew)); exact HO192.out) (Kd.R_base ho0) hb); have n3_ := Ax (Kd.R_lower (Kd.R_newB (Kd.R_new' (Kd.R_new' (Kd.R_new' ho0 (Kd.R_lt (by (with_reducible repeat (first | apply Kd.R_alloc | apply Kd.R_drewN | apply Kd.R_drew)); exact HO_7.out))) (Kd.R_lt (by (with_reducible repeat (first | apply Kd.R_alloc | apply Kd.R_drewN | apply Kd.R_drew)); exact HO_9.out))) (Kd.R_lt (by (with_reducible repeat (first | apply Kd.R_alloc | apply Kd.R_drewN | apply Kd.R_drew)); exact HO192.out))) (g := gb166) (o := .cells #[.int .i64 a0_0, .int .i64 a0_1] 23 (0, 0)) (bf0 BK166.out)) (below_size (bw1 HB.out GE166.out))); have n4_ := Bx0 BK166 hb; have n5_ := Bs1 HB hb GE166.out; clear HO_7; clear HO_9; clear HO192; clear BK166; clear HB; have HO_7 := n0_; have HO_9 := n1_; have HO192 := n2_; have HO197 := n3_; have BK166 := n4_; have HB := n5_; clear n0_ n1_ n2_ n3_ n4_ n5_; (try clear hb); (try clear hb2); (try clear hk); (try clear hi); (try clear ho0)) | (go_at_call 10; (with_reducible refine (ivl_Long.calls k2 _ _ t168 t198 t199 _ ?side1 ?side2 A42.out).mono ?_); (case side1 => repeat (first | exact (Kd.R_reads' HO_7.out).2.2 | (with_reducible refine Kd.C_alloc ?_ _) | (with_reducible refine Kd.C_drewN ?_ _) | (with_reducible refine Kd.C_drew ?_))); (case side2 => exact (Kd.R_reads' HO_7.out).2.1); rintro e w50 ⟨rfl, hb⟩; have n0_ := Ax (Kd.R_below (by (with_reducible repeat (first | apply Kd.R_alloc | apply Kd.R_drewN | apply Kd.R_drew)); exact HO_7.out) hb); have n1_ := Ax (Kd.R_below (by (with_reducible repeat (first | apply Kd.R_alloc | apply Kd.R_drewN | apply Kd.R_drew)); exact HO_9.out) hb); have n2_ := Ax (Kd.R_below (by (with_reducible repeat (first | apply Kd.R_alloc | apply Kd.R_drewN | apply Kd.R_drew)); exact HO192.out) hb); have n3_ := Ax (Kd.R_below (by (with_reducible repeat (first | apply Kd.R_alloc | apply Kd.R_drewN | apply Kd.R_drew)); exact HO197.out) hb); have n4_ := Bx0 BK166 hb; have n5_ := Bs1 HB hb GE166.out; clear HO_7; clear HO_9; clear HO192; clear HO197; clear BK166; clear HB; have HO_7 := n0_; have HO_9 := n1_; have HO192 := n2_; have HO197 := n3_; have BK166 := n4_; have HB := n5_; clear n0_ n1_ n2_ n3_ n4_ n5_; (try clear hb); (try clear hb2); (try clear hk); (try clear hi)) | (go_at_call 10; (with_reducible refine (ivl_Long.calls k2 _ _ x9_2 t200 t201 _ ?side1 ?side2 A43.out).mono ?_); (case side1 => repeat (first | exact (Kd.R_reads' HO_9.out).2.2 | (with_reducible refine Kd.C_alloc ?_ _) | (with_reducible refine Kd.C_drewN ?_ _) | (with_reducible refine Kd.C_drew ?_))); (case side2 => exact (Kd.R_reads' HO_9.out).2.1); rintro e w51 ⟨rfl, hb⟩; have n0_ := Ax (Kd.R_below (by (with_reducible repeat (first | apply Kd.R_alloc | apply Kd.R_drewN | apply Kd.R_drew)); exact HO_7.out) hb); have n1_ := Ax (Kd.R_below (by (with_reducible repeat (first | apply Kd.R_alloc | apply Kd.R_drewN | apply Kd.R_drew)); exact HO_9.out) hb); have n2_ := Ax (Kd.R_below (by (with_reducible repeat (first | apply Kd.R_alloc | apply Kd.R_drewN | apply Kd.R_drew)); exact HO192.out) hb); have n3_ := Ax (Kd.R_below (by (with_reducible repeat (first | apply Kd.R_alloc | apply Kd.R_drewN | apply Kd.R_drew)); exact HO197.out) hb); have n4_ := Bx0 BK166 hb; have n5_ := Bs1 HB hb GE166.out; clear HO_7; clear HO_9; clear HO192; clear HO197; clear BK166; clear HB; have HO_7 := n0_; have HO_9 := n1_; have HO192 := n2_; have HO197 := n3_; have BK166 := n4_; have HB := n5_; clear n0_ n1_ n2_ n3_ n4_ n5_; (try clear hb); (try clear hb2); (try clear hk); (try clear hi)))
        repeat (go_quiet (first | (go_at_call 9; (with_reducible refine (ivl_Not.calls k2 _ _ t168 a0_0 a0_1 t190 t193 _ ?side1 ?side2 A40.out).mono ?_); (case side1 => repeat (first | exact (Kd.R_reads' HO_7.out).2.2 | (with_reducible refine Kd.C_alloc ?_ _) | (with_reducible refine Kd.C_drewN ?_ _) | (with_reducible refine Kd.C_drew ?_))); (case side2 => exact (Kd.R_reads' HO_7.out).2.1); rintro e w47 ⟨v191, rfl, ho0, hb⟩; have n0_ := Ax (Kd.R_elder' (by (with_reducible repeat (first | apply Kd.R_alloc | apply Kd.R_drewN | apply Kd.R_drew)); exact HO_7.out) (Kd.R_base ho0) hb); have n1_ := Ax (Kd.R_elder' (by (with_reducible repeat (first | apply Kd.R_alloc | apply Kd.R_drewN | apply Kd.R_drew)); exact HO_9.out) (Kd.R_base ho0) hb); have n2_ := Ax (Kd.R_lower (Kd.R_newB (Kd.R_new' (Kd.R_new' ho0 (Kd.R_lt (by (with_reducible repeat (first | apply Kd.R_alloc | apply Kd.R_drewN | apply Kd.R_drew)); exact HO_7.out))) (Kd.R_lt (by (with_reducible repeat (first | apply Kd.R_alloc | apply Kd.R_drewN | apply Kd.R_drew)); exact HO_9.out))) (g := gb166) (o := .cells #[.int .i64 a0_0, .int .i64 a0_1] 23 (0, 0)) (bf0 BK166.out)) (below_size (bw1 HB.out GE166.out))); have n3_ := Bx0 BK166 hb; have n4_ := Bs1 HB hb GE166.out; clear HO_7; clear HO_9; clear BK166; clear HB; have HO_7 := n0_; have HO_9 := n1_; have HO192 := n2_; have BK166 := n3_; have HB := n4_; clear n0_ n1_ n2_ n3_ n4_; (try clear hb); (try clear hb2); (try clear hk); (try clear hi); (try clear ho0); obtain ⟨Ao48, co48, eo48⟩ := Kd.R_slice HO_9.out; subst eo48) | (go_at_call 7; (with_reducible refine (ivl_And.calls k2 _ _ t168 _ _ x9_2 t194 t195 _ ?side1 ?side2 ?side3 ?side4 A41.out).mono ?_); (case side1 => repeat (first | exact (Kd.R_reads' HO_7.out).2.2 | (with_reducible refine Kd.C_alloc ?_ _) | (with_reducible refine Kd.C_drewN ?_ _) | (with_reducible refine Kd.C_drew ?_))); (case side2 => exact (Kd.R_reads' HO_7.out).2.1); (case side3 => repeat (first | exact (Kd.R_reads' HO_9.out).2.2 | (with_reducible refine Kd.C_alloc ?_ _) | (with_reducible refine Kd.C_drewN ?_ _) | (with_reducible refine Kd.C_drew ?_))); (case side4 => exact (Kd.R_reads' HO_9.out).2.1); rintro e w49 ⟨v196, rfl, ho0, hb⟩; have n0_ := Ax (Kd.R_elder' (by (with_reducible repeat (first | apply Kd.R_alloc | apply Kd.R_drewN | apply Kd.R_drew)); exact HO_7.out) (Kd.R_base ho0) hb); have n1_ := Ax (Kd.R_elder' (by (with_reducible repeat (first | apply Kd.R_alloc | apply Kd.R_drewN | apply Kd.R_drew)); exact HO_9.out) (Kd.R_base ho0) hb); have n2_ := Ax (Kd.R_elder' (by (with_reducible repeat (first | apply Kd.R_alloc | apply Kd.R_drewN | apply Kd.R_drew)); exact HO192.out) (Kd.R_base ho0) hb); have n3_ := Ax (Kd.R_lower (Kd.R_newB (Kd.R_new' (Kd.R_new' (Kd.R_new' ho0 (Kd.R_lt (by (with_reducible repeat (first | apply Kd.R_alloc | apply Kd.R_drewN | apply Kd.R_drew)); exact HO_7.out))) (Kd.R_lt (by (with_reducible repeat (first | apply Kd.R_alloc | apply Kd.R_drewN | apply Kd.R_drew)); exact HO_9.out))) (Kd.R_lt (by (with_reducible repeat (first | apply Kd.R_alloc | apply Kd.R_drewN | apply Kd.R_drew)); exact HO192.out))) (g := gb166) (o := .cells #[.int .i64 a0_0, .int .i64 a0_1] 23 (0, 0)) (bf0 BK166.out)) (below_size (bw1 HB.out GE166.out))); have n4_ := Bx0 BK166 hb; have n5_ := Bs1 HB hb GE166.out; clear HO_7; clear HO_9; clear HO192; clear BK166; clear HB; have HO_7 := n0_; have HO_9 := n1_; have HO192 := n2_; have HO197 := n3_; have BK166 := n4_; have HB := n5_; clear n0_ n1_ n2_ n3_ n4_ n5_; (try clear hb); (try clear hb2); (try clear hk); (try clear hi); (try clear ho0)) | (go_at_call 10; (with_reducible refine (ivl_Long.calls k2 _ _ t168 t198 t199 _ ?side1 ?side2 A42.out).mono ?_); (case side1 => repeat (first | exact (Kd.R_reads' HO_7.out).2.2 | (with_reducible refine Kd.C_alloc ?_ _) | (with_reducible refine Kd.C_drewN ?_ _) | (with_reducible refine Kd.C_drew ?_))); (case side2 => exact (Kd.R_reads' HO_7.out).2.1); rintro e w50 ⟨rfl, hb⟩; have n0_ := Ax (Kd.R_below (by (with_reducible repeat (first | apply Kd.R_alloc | apply Kd.R_drewN | apply Kd.R_drew)); exact HO_7.out) hb); have n1_ := Ax (Kd.R_below (by (with_reducible repeat (first | apply Kd.R_alloc | apply Kd.R_drewN | apply Kd.R_drew)); exact HO_9.out) hb); have n2_ := Ax (Kd.R_below (by (with_reducible repeat (first | apply Kd.R_alloc | apply Kd.R_drewN | apply Kd.R_drew)); exact HO192.out) hb); have n3_ := Ax (Kd.R_below (by (with_reducible repeat (first | apply Kd.R_alloc | apply Kd.R_drewN | apply Kd.R_drew)); exact HO197.out) hb); have n4_ := Bx0 BK166 hb; have n5_ := Bs1 HB hb GE166.out; clear HO_7; clear HO_9; clear HO192; clear HO197; clear BK166; clear HB; have HO_7 := n0_; have HO_9 := n1_; have HO192 := n2_; have HO197 := n3_; have BK166 := n4_; have HB := n5_; clear n0_ n1_ n2_ n3_ n4_ n5_; (try clear hb); (try clear hb2); (try clear hk); (try clear hi)) | (go_at_call 10; (with_reducible refine (ivl_Long.calls k2 _ _ x9_2 t200 t201 _ ?side1 ?side2 A43.out).mono ?_); (case side1 => repeat (first | exact (Kd.R_reads' HO_9.out).2.2 | (with_reducible refine Kd.C_alloc ?_ _) | (with_reducible refine Kd.C_drewN ?_ _) | (with_reducible refine Kd.C_drew ?_))); (case side2 => exact (Kd.R_reads' HO_9.out).2.1); rintro e w51 ⟨rfl, hb⟩; have n0_ := Ax (Kd.R_below (by (with_reducible repeat (first | apply Kd.R_alloc | apply Kd.R_drewN | apply Kd.R_drew)); exact HO_7.out) hb); have n1_ := Ax (Kd.R_below (by (with_reducible repeat (first | apply Kd.R_alloc | apply Kd.R_drewN | apply Kd.R_drew)); exact HO_9.out) hb); have n2_ := Ax (Kd.R_below (by (with_reducible repeat (first | apply Kd.R_alloc | apply Kd.R_drewN | apply Kd.R_drew)); exact HO192.out) hb); have n3_ := Ax (Kd.R_below (by (with_reducible repeat (first | apply Kd.R_alloc | apply Kd.R_drewN | apply Kd.R_drew)); exact HO197.out) hb); have n4_ := Bx0 BK166 hb; have n5_ := Bs1 HB hb GE166.out; clear HO_7; clear HO_9; clear HO192; clear HO197; clear BK166; clear HB; have HO_7 := n0_; have HO_9 := n1_; have HO192 := n2_; have HO197 := n3_; have BK166 := n4_; have HB := n5_; clear n0_ n1_ n2_ n3_ n4_ n5_; (try clear hb); (try clear hb2); (try clear hk); (try clear hi))); go_upto_region 22 with (first | (go_at_call 9; (with_reducible refine (ivl_Not.calls k2 _ _ t168 a0_0 a0_1 t190 t193 _ ?side1 ?side2 A40.out).mono ?_); (case side1 => repeat (first | exact (Kd.R_reads' HO_7.out).2.2 | (with_reducible refine Kd.C_alloc ?_ _) | (with_reducible refine Kd.C_drewN ?_ _) | (with_reducible refine Kd.C_drew ?_))); (case side2 => exact (Kd.R_reads' HO_7.out).2.1); rintro e w47 ⟨v191, rfl, ho0, hb⟩; have n0_ := Ax (Kd.R_elder' (by (with_reducible repeat (first | apply Kd.R_alloc | apply Kd.R_drewN | apply Kd.R_drew)); exact HO_7.out) (Kd.R_base ho0) hb); have n1_ := Ax (Kd.R_elder' (by (with_reducible repeat (first | apply Kd.R_alloc | apply Kd.R_drewN | apply Kd.R_drew)); exact HO_9.out) (Kd.R_base ho0) hb); have n2_ := Ax (Kd.R_lower (Kd.R_newB (Kd.R_new' (Kd.R_new' ho0 (Kd.R_lt (by (with_reducible repeat (first | apply Kd.R_alloc | apply Kd.R_drewN | apply Kd.R_drew)); exact HO_7.out))) (Kd.R_lt (by (with_reducible repeat (first | apply Kd.R_alloc | apply Kd.R_drewN | apply Kd.R_drew)); exact HO_9.out))) (g := gb166) (o := .cells #[.int .i64 a0_0, .int .i64 a0_1] 23 (0, 0)) (bf0 BK166.out)) (below_size (bw1 HB.out GE166.out))); have n3_ := Bx0 BK166 hb; have n4_ := Bs1 HB hb GE166.out; clear HO_7; clear HO_9; clear BK166; clear HB; have HO_7 := n0_; have HO_9 := n1_; have HO192 := n2_; have BK166 := n3_; have HB := n4_; clear n0_ n1_ n2_ n3_ n4_; (try clear hb); (try clear hb2); (try clear hk); (try clear hi); (try clear ho0); obtain ⟨Ao48, co48, eo48⟩ := Kd.R_slice HO_9.out; subst eo48) | (go_at_call 7; (with_reducible refine (ivl_And.calls k2 _ _ t168 _ _ x9_2 t194 t195 _ ?side1 ?side2 ?side3 ?side4 A41.out).mono ?_); (case side1 => repeat (first | exact (Kd.R_reads' HO_7.out).2.2 | (with_reducible refine Kd.C_alloc ?_ _) | (with_reducible refine Kd.C_drewN ?_ _) | (with_reducible refine Kd.C_drew ?_))); (case side2 => exact (Kd.R_reads' HO_7.out).2.1); (case side3 => repeat (first | exact (Kd.R_reads' HO_9.out).2.2 | (with_reducible refine Kd.C_alloc ?_ _) | (with_reducible refine Kd.C_drewN ?_ _) | (with_reducible refine Kd.C_drew ?_))); (case side4 => exact (Kd.R_reads' HO_9.out).2.1); rintro e w49 ⟨v196, rfl, ho0, hb⟩; have n0_ := Ax (Kd.R_elder' (by (with_reducible repeat (first | apply Kd.R_alloc | apply Kd.R_drewN | apply Kd.R_drew)); exact HO_7.out) (Kd.R_base ho0) hb); have n1_ := Ax (Kd.R_elder' (by (with_reducible repeat (first | apply Kd.R_alloc | apply Kd.R_drewN | apply Kd.R_drew)); exact HO_9.out) (Kd.R_base ho0) hb); have n2_ := Ax (Kd.R_elder' (by (with_reducible repeat (first | apply Kd.R_alloc | apply Kd.R_drewN | apply Kd.R_drew)); exact HO192.out) (Kd.R_base ho0) hb); have n3_ := Ax (Kd.R_lower (Kd.R_newB (Kd.R_new' (Kd.R_new' (Kd.R_new' ho0 (Kd.R_lt (by (with_reducible repeat (first | apply Kd.R_alloc | apply Kd.R_drewN | apply Kd.R_drew)); exact HO_7.out))) (Kd.R_lt (by (with_reducible repeat (first | apply Kd.R_alloc | apply Kd.R_drewN | apply Kd.R_drew)); exact HO_9.out))) (Kd.R_lt (by (with_reducible repeat (first | apply Kd.R_alloc | apply Kd.R_drewN | apply Kd.R_drew)); exact HO192.out))) (g := gb166) (o := .cells #[.int .i64 a0_0, .int .i64 a0_1] 23 (0, 0)) (bf0 BK166.out)) (below_size (bw1 HB.out GE166.out))); have n4_ := Bx0 BK166 hb; have n5_ := Bs1 HB hb GE166.out; clear HO_7; clear HO_9; clear HO192; clear BK166; clear HB; have HO_7 := n0_; have HO_9 := n1_; have HO192 := n2_; have HO197 := n3_; have BK166 := n4_; have HB := n5_; clear n0_ n1_ n2_ n3_ n4_ n5_; (try clear hb); (try clear hb2); (try clear hk); (try clear hi); (try clear ho0)) | (go_at_call 10; (with_reducible refine (ivl_Long.calls k2 _ _ t168 t198 t199 _ ?side1 ?side2 A42.out).mono ?_); (case side1 => repeat (first | exact (Kd.R_reads' HO_7.out).2.2 | (with_reducible refine Kd.C_alloc ?_ _) | (with_reducible refine Kd.C_drewN ?_ _) | (with_reducible refine Kd.C_drew ?_))); (case side2 => exact (Kd.R_reads' HO_7.out).2.1); rintro e w50 ⟨rfl, hb⟩; have n0_ := Ax (Kd.R_below (by (with_reducible repeat (first | apply Kd.R_alloc | apply Kd.R_drewN | apply Kd.R_drew)); exact HO_7.out) hb); have n1_ := Ax (Kd.R_below (by (with_reducible repeat (first | apply Kd.R_alloc | apply Kd.R_drewN | apply Kd.R_drew)); exact HO_9.out) hb); have n2_ := Ax (Kd.R_below (by (with_reducible repeat (first | apply Kd.R_alloc | apply Kd.R_drewN | apply Kd.R_drew)); exact HO192.out) hb); have n3_ := Ax (Kd.R_below (by (with_reducible repeat (first | apply Kd.R_alloc | apply Kd.R_drewN | apply Kd.R_drew)); exact HO197.out) hb); have n4_ := Bx0 BK166 hb; have n5_ := Bs1 HB hb GE166.out; clear HO_7; clear HO_9; clear HO192; clear HO197; clear BK166; clear HB; have HO_7 := n0_; have HO_9 := n1_; have HO192 := n2_; have HO197 := n3_; have BK166 := n4_; have HB := n5_; clear n0_ n1_ n2_ n3_ n4_ n5_; (try clear hb); (try clear hb2); (try clear hk); (try clear hi)) | (go_at_call 10; (with_reducible refine (ivl_Long.calls k2 _ _ x9_2 t200 t201 _ ?side1 ?side2 A43.out).mono ?_); (case side1 => repeat (first | exact (Kd.R_reads' HO_9.out).2.2 | (with_reducible refine Kd.C_alloc ?_ _) | (with_reducible refine Kd.C_drewN ?_ _) | (with_reducible refine Kd.C_drew ?_))); (case side2 => exact (Kd.R_reads' HO_9.out).2.1); rintro e w51 ⟨rfl, hb⟩; have n0_ := Ax (Kd.R_below (by (with_reducible repeat (first | apply Kd.R_alloc | apply Kd.R_drewN | apply Kd.R_drew)); exact HO_7.out) hb); have n1_ := Ax (Kd.R_below (by (with_reducible repeat (first | apply Kd.R_alloc | apply Kd.R_drewN | apply Kd.R_drew)); exact HO_9.out) hb); have n2_ := Ax (Kd.R_below (by (with_reducible repeat (first | apply Kd.R_alloc | apply Kd.R_drewN | apply Kd.R_drew)); exact HO192.out) hb); have n3_ := Ax (Kd.R_below (by (with_reducible repeat (first | apply Kd.R_alloc | apply Kd.R_drewN | apply Kd.R_drew)); exact HO197.out) hb); have n4_ := Bx0 BK166 hb; have n5_ := Bs1 HB hb GE166.out; clear HO_7; clear HO_9; clear HO192; clear HO197; clear BK166; clear HB; have HO_7 := n0_; have HO_9 := n1_; have HO192 := n2_; have HO197 := n3_; have BK166 := n4_; have HB := n5_; clear n0_ n1_ n2_ n3_ n4_ n5_; (try clear hb); (try clear hb2); (try clear hk); (try clear hi))))
        (try simp only [Act.put, List.setIfInBounds_toArray, List.set_cons_zero, List.set_cons_succ])
        go_cut [159] (fun v159 wc => ∃ (kq : Nat) (x159_43 : Bool), v159 = .bool x159_43 ∧ Aside0 (spoortop_TopAgree.j2 kq x9_2 t190 x159_43 = some r) ∧ Aside0 (kq ≤ k2) ∧ Aside0 (Kd.R k23 23 wc w.heap.size (fun k_ => some k_ ≠ (v191 : Value).ownBlock ∧ k_ ≠ gb166) (.slice Ao48 x9_2.length co48) x9_2) ∧ Aside0 (Kd.R k23 23 wc w.heap.size (fun k_ => some k_ ≠ ((.slice Ao48 x9_2.length co48) : Value).ownBlock ∧ k_ ≠ gb166) v191 t190) ∧ Aside0 (wc.heap[gb166]? = some (.cells #[.int .i64 a0_0, .int .i64 a0_1] 23 (0, 0))) ∧ Aside0 (Below w.heap.size w wc))
        case first =>
         have H := HC44.out
         clear HC44
         by_cases c52 : t193 = 0
         ·rw [if_pos c52] at H
          have c52b0 : (t193 == 0) = true := beq_iff_eq.mpr c52
          have c52b1 : (t193 != 0) = false := bne_eq_false_iff_eq.mpr c52
          clear c52
          (first | rw [c52b0] | (simp only [i64_w, i32_w]; rw [c52b0]) | skip)
          by_cases c53 : t195 = 0
          ·rw [if_pos c53] at H
           have c53b0 : (t195 == 0) = true := beq_iff_eq.mpr c53
           have c53b1 : (t195 != 0) = false := bne_eq_false_iff_eq.mpr c53
           clear c53
           by_cases c54 : t199 = 0
           ·rw [if_pos c54] at H
            have c54b0 : (t199 == 0) = true := beq_iff_eq.mpr c54
            have c54b1 : (t199 != 0) = false := bne_eq_false_iff_eq.mpr c54
            clear c54
            by_cases c55 : t201 = 0
            ·rw [if_pos c55] at H
             have c55b0 : (t201 == 0) = true := beq_iff_eq.mpr c55
             have c55b1 : (t201 != 0) = false := bne_eq_false_iff_eq.mpr c55
             clear c55
             by_cases c56 : (t194.length : Int) = 0
             ·rw [if_pos c56] at H
              have c56b0 : ((t194.length : Int) == 0) = true := beq_iff_eq.mpr c56
              have c56b1 : ((t194.length : Int) != 0) = false := bne_eq_false_iff_eq.mpr c56
              clear c56
              by_cases c57 : (t190.length : Int) = (x9_2.length : Int)
              ·rw [if_pos c57] at H
               have c57b0 : ((t190.length : Int) == (x9_2.length : Int)) = true := beq_iff_eq.mpr c57
               have c57b1 : ((t190.length : Int) != (x9_2.length : Int)) = false := bne_eq_false_iff_eq.mpr c57
               have c57b2 : (t190.length == x9_2.length) = true := by first | simpa using c57 | (simp at c57 ⊢; omega)
               clear c57
               have H' := Ax H
               clear H
               obtain ⟨Ao58, co58, eo58⟩ := Kd.R_slice HO197.out
               subst eo58
               obtain ⟨Ao59, co59, eo59⟩ := Kd.R_slice HO192.out
               subst eo59
               obtain ⟨hcz60_0, hcz60_1, hfz60_0, hfz60_1⟩ := cl2 BK166
               go_wp2
               repeat (go_quiet (fail); try go_wp2)
               go_meet
               case rel => exact ⟨_, (((wrap64 (t198 + t200)) != (wrap64 ((wrap64 (a0_1 - a0_0)) + 1)))), rS, H', ⟨by have := HJ6.out; have := HK2.out; first | omega | exact Nat.le_refl _⟩, ⟨by (with_reducible repeat (first | apply Kd.R_alloc | apply Kd.R_drewN | apply Kd.R_drew)); exact Kd.R_mono HO_9.out (fun _ hk => ⟨hk.1.2, hk.1.1.2⟩)⟩, ⟨by (with_reducible repeat (first | apply Kd.R_alloc | apply Kd.R_drewN | apply Kd.R_drew)); exact Kd.R_mono HO192.out (fun _ hk => ⟨hk.1.1.2, hk.1.2⟩)⟩, ⟨bf0 BK166.out⟩, ⟨bw1 HB.out GE166.out⟩⟩
              ·rw [if_neg c57] at H
               have c57b0 : ((t190.length : Int) == (x9_2.length : Int)) = false := beq_eq_false_iff_ne.mpr c57
               have c57b1 : ((t190.length : Int) != (x9_2.length : Int)) = true := bne_iff_ne.mpr c57
               have c57b2 : (t190.length == x9_2.length) = false := by first | simpa using c57 | (simp at c57 ⊢; omega)
               have H' := Ax H
               clear H
               obtain ⟨Ao61, co61, eo61⟩ := Kd.R_slice HO197.out
               subst eo61
               obtain ⟨Ao62, co62, eo62⟩ := Kd.R_slice HO192.out
               subst eo62
               go_wp2
               repeat (go_quiet (fail); try go_wp2)
               go_meet
               case rel => exact ⟨_, (true), rS, H', ⟨by have := HJ6.out; have := HK2.out; first | omega | exact Nat.le_refl _⟩, ⟨by (with_reducible repeat (first | apply Kd.R_alloc | apply Kd.R_drewN | apply Kd.R_drew)); exact Kd.R_mono HO_9.out (fun _ hk => ⟨hk.1.2, hk.1.1.2⟩)⟩, ⟨by (with_reducible repeat (first | apply Kd.R_alloc | apply Kd.R_drewN | apply Kd.R_drew)); exact Kd.R_mono HO192.out (fun _ hk => ⟨hk.1.1.2, hk.1.2⟩)⟩, ⟨bf0 BK166.out⟩, ⟨bw1 HB.out GE166.out⟩⟩
             ·rw [if_neg c56] at H
              have c56b0 : ((t194.length : Int) == 0) = false := beq_eq_false_iff_ne.mpr c56
              have c56b1 : ((t194.length : Int) != 0) = true := bne_iff_ne.mpr c56
              have c56b2 : ¬ (t194 = []) := fun h_ => c56 (by rw [h_]; rfl)
              have H' := Ax H
              clear H
              obtain ⟨Ao63, co63, eo63⟩ := Kd.R_slice HO197.out
              subst eo63
              go_wp2
              repeat (go_quiet (fail); try go_wp2)
              go_meet
              case rel => exact ⟨_, (true), rS, H', ⟨by have := HJ6.out; have := HK2.out; first | omega | exact Nat.le_refl _⟩, ⟨by (with_reducible repeat (first | apply Kd.R_alloc | apply Kd.R_drewN | apply Kd.R_drew)); exact Kd.R_mono HO_9.out (fun _ hk => ⟨hk.1.2, hk.1.1.2⟩)⟩, ⟨by (with_reducible repeat (first | apply Kd.R_alloc | apply Kd.R_drewN | apply Kd.R_drew)); exact Kd.R_mono HO192.out (fun _ hk => ⟨hk.1.1.2, hk.1.2⟩)⟩, ⟨bf0 BK166.out⟩, ⟨bw1 HB.out GE166.out⟩⟩
            ·rw [if_neg c55] at H
             have c55b0 : (t201 == 0) = false := beq_eq_false_iff_ne.mpr c55
             have c55b1 : (t201 != 0) = true := bne_iff_ne.mpr c55
             have H' := Ax H
             clear H
             go_wp2
             repeat (go_quiet (fail); try go_wp2)
             go_meet
             case rel => exact ⟨_, (true), rS, H', ⟨by have := HJ6.out; have := HK2.out; first | omega | exact Nat.le_refl _⟩, ⟨by (with_reducible repeat (first | apply Kd.R_alloc | apply Kd.R_drewN | apply Kd.R_drew)); exact Kd.R_mono HO_9.out (fun _ hk => ⟨hk.1.2, hk.1.1.2⟩)⟩, ⟨by (with_reducible repeat (first | apply Kd.R_alloc | apply Kd.R_drewN | apply Kd.R_drew)); exact Kd.R_mono HO192.out (fun _ hk => ⟨hk.1.1.2, hk.1.2⟩)⟩, ⟨bf0 BK166.out⟩, ⟨bw1 HB.out GE166.out⟩⟩
           ·rw [if_neg c54] at H
            have c54b0 : (t199 == 0) = false := beq_eq_false_iff_ne.mpr c54
            have c54b1 : (t199 != 0) = true := bne_iff_ne.mpr c54
            have H' := Ax H
            clear H
            go_wp2
            repeat (go_quiet (fail); try go_wp2)
            go_meet
            case rel => exact ⟨_, (true), rS, H', ⟨by have := HJ6.out; have := HK2.out; first | omega | exact Nat.le_refl _⟩, ⟨by (with_reducible repeat (first | apply Kd.R_alloc | apply Kd.R_drewN | apply Kd.R_drew)); exact Kd.R_mono HO_9.out (fun _ hk => ⟨hk.1.2, hk.1.1.2⟩)⟩, ⟨by (with_reducible repeat (first | apply Kd.R_alloc | apply Kd.R_drewN | apply Kd.R_drew)); exact Kd.R_mono HO192.out (fun _ hk => ⟨hk.1.1.2, hk.1.2⟩)⟩, ⟨bf0 BK166.out⟩, ⟨bw1 HB.out GE166.out⟩⟩
          ·rw [if_neg c53] at H
           have c53b0 : (t195 == 0) = false := beq_eq_false_iff_ne.mpr c53
           have c53b1 : (t195 != 0) = true := bne_iff_ne.mpr c53
           have H' := Ax H
           clear H
           go_wp2
           repeat (go_quiet (fail); try go_wp2)
           go_meet
           case rel => exact ⟨_, (true), rS, H', ⟨by have := HJ6.out; have := HK2.out; first | omega | exact Nat.le_refl _⟩, ⟨by (with_reducible repeat (first | apply Kd.R_alloc | apply Kd.R_drewN | apply Kd.R_drew)); exact Kd.R_mono HO_9.out (fun _ hk => ⟨hk.1.2, hk.1.1.2⟩)⟩, ⟨by (with_reducible repeat (first | apply Kd.R_alloc | apply Kd.R_drewN | apply Kd.R_drew)); exact Kd.R_mono HO192.out (fun _ hk => ⟨hk.1.1.2, hk.1.2⟩)⟩, ⟨bf0 BK166.out⟩, ⟨bw1 HB.out GE166.out⟩⟩
         ·rw [if_neg c52] at H
          have c52b0 : (t193 == 0) = false := beq_eq_false_iff_ne.mpr c52
          have c52b1 : (t193 != 0) = true := bne_iff_ne.mpr c52
          (first | rw [c52b0] | (simp only [i64_w, i32_w]; rw [c52b0]) | skip)
          have H' := Ax H
          clear H
          go_wp2
          repeat (go_quiet (fail); try go_wp2)
          go_meet
          case rel => exact ⟨_, (true), rS, H', ⟨by have := HJ6.out; have := HK2.out; first | omega | exact Nat.le_refl _⟩, ⟨by (with_reducible repeat (first | apply Kd.R_alloc | apply Kd.R_drewN | apply Kd.R_drew)); exact Kd.R_mono HO_9.out (fun _ hk => ⟨hk.1.2, hk.1.1.2⟩)⟩, ⟨by (with_reducible repeat (first | apply Kd.R_alloc | apply Kd.R_drewN | apply Kd.R_drew)); exact Kd.R_mono HO192.out (fun _ hk => ⟨hk.1.1.2, hk.1.2⟩)⟩, ⟨bf0 BK166.out⟩, ⟨bw1 HB.out GE166.out⟩⟩
        case rest =>
         clear HC44
         try clear c1
         try clear p1
         try clear q1
         try clear hx1
         try clear c2
         try clear p2
         try clear c3
         try clear c5
         try clear p6
         try clear c12
         try clear c12b0
         try clear c12b1
         try clear c13
         try clear c13b0
         try clear c13b1
         try clear c14
         try clear c15
         try clear c15b0
         try clear c16
         try clear c16b0
         try clear c17
         try clear c17b0
         try clear p17
         try clear q17
         try clear hx17
         try clear c22
         try clear c22b0
         try clear c22b1
         try clear c23
         try clear c23b0
         try clear c23b1
         try clear c24
         try clear c24b0
         try clear c24b1
         try clear c25
         try clear c25b0
         try clear c25b1
         try clear c27
         try clear c52
         try clear c52b0
         try clear c52b1
         try clear c53
         try clear c53b0
         try clear c53b1
         try clear c54
         try clear c54b0
         try clear c54b1
         try clear c55
         try clear c55b0
         try clear c55b1
         try clear c56
         try clear c56b0
         try clear c56b1
         try clear c56b2
         try clear c57
         try clear c57b0
         try clear c57b1
         try clear c57b2
         try clear hcz10_0
         try clear hcz10_1
         try clear hcz28_0
         try clear hcz28_1
         try clear hcz28_2
         try clear hcz28_3
         try clear hcz29_0
         try clear hcz29_1
         try clear hcz31_0
         try clear hcz31_1
         try clear hcz32_0
         try clear hcz32_1
         try clear hcz32_2
         try clear hcz32_3
         try clear hcz45_0
         try clear hcz45_1
         try clear hcz60_0
         try clear hcz60_1
         try clear hfz10_0
         try clear hfz10_1
         try clear hfz28_0
         try clear hfz28_1
         try clear hfz28_2
         try clear hfz28_3
         try clear hfz29_0
         try clear hfz29_1
         try clear hfz31_0
         try clear hfz31_1
         try clear hfz32_0
         try clear hfz32_1
         try clear hfz32_2
         try clear hfz32_3
         try clear hfz45_0
         try clear hfz45_1
         try clear hfz60_0
         try clear hfz60_1
         try clear hx172_0
         try clear hx172_1
         try clear hx172_2
         try clear hx172_3
         try clear p172
         try clear p2
         try clear q172
         obtain ⟨kq, x159_43, rfl, HA, HJ43, HO_9, HO_20, BK166, HB⟩ := hcut
         cases kq with
         | zero => exact absurd HA.out (by simp [spoortop_TopAgree.j2])
         | succ kj43 =>
          have H := HA.out
          clear HA
          simp only [spoortop_TopAgree.j2] at H
          by_cases c64 : x159_43 = true
          ·subst c64
           have H1 : (none) = some r := by rw [if_pos rfl] at H; exact H
           clear H
           have H := H1
           clear H1
           exact absurd H (by simp)
          ·replace c64 := Bool.eq_false_iff.mpr c64
           subst c64
           have H1 : (spoortop_TopAgree.l1 kj43 x9_2 t190 (t190.length : Int) 0) = some r := by rw [if_neg (show ¬ (false = true) by decide)] at H; exact H
           clear H
           have H := H1
           clear H1
           have H' := Ax H
           clear H
           obtain ⟨Ao65, co65, eo65⟩ := Kd.R_slice HO_20.out
           subst eo65
           go_wp2
           repeat (go_quiet (fail); try go_wp2)
           go_loopg [162] kj43 (fun kq v162 w' => ∃ (x162_4 : Int), v162 = .int .i64 x162_4 ∧ Aside0 (spoortop_TopAgree.l1 kq x9_2 t190 (t190.length : Int) x162_4 = some r) ∧ Aside0 (kq ≤ kj43) ∧ Aside0 (Kd.R k23 23 w' w.heap.size (fun k_ => some k_ ≠ ((.slice Ao65 t190.length co65) : Value).ownBlock ∧ k_ ≠ gb166) (.slice Ao48 x9_2.length co48) x9_2) ∧ Aside0 (Kd.R k23 23 w' w.heap.size (fun k_ => some k_ ≠ ((.slice Ao48 x9_2.length co48) : Value).ownBlock ∧ k_ ≠ gb166) (.slice Ao65 t190.length co65) t190) ∧ Aside0 (w'.heap[gb166]? = some (.cells #[.int .i64 a0_0, .int .i64 a0_1] 23 (0, 0))) ∧ Aside0 (Below w.heap.size w w'))
           case atStart => exact ⟨(0), rS, H', ⟨Nat.le_refl _⟩, ⟨by (with_reducible repeat (first | apply Kd.R_alloc | apply Kd.R_drewN | apply Kd.R_drew)); exact HO_9.out⟩, ⟨by (with_reducible repeat (first | apply Kd.R_alloc | apply Kd.R_drewN | apply Kd.R_drew)); exact HO_20.out⟩, ⟨bf0 BK166.out⟩, ⟨bw1 HB.out GE166.out⟩⟩
           case round =>
            clear H'
            try clear c1
            try clear p1
            try clear q1
            try clear hx1
            try clear c2
            try clear p2
            try clear c3
            try clear c5
            try clear c6
            try clear p6
            try clear c12
            try clear c12b0
            try clear c12b1
            try clear c13
            try clear c13b0
            try clear c13b1
            try clear c14
            try clear c15
            try clear c15b0
            try clear c16
            try clear c16b0
            try clear c17
            try clear c17b0
            try clear p17
            try clear q17
            try clear hx17
            try clear c22
            try clear c22b0
            try clear c22b1
            try clear c23
            try clear c23b0
            try clear c23b1
            try clear c24
            try clear c24b0
            try clear c24b1
            try clear c25
            try clear c25b0
            try clear c25b1
            try clear c27
            try clear c52
            try clear c52b0
            try clear c52b1
            try clear c53
            try clear c53b0
            try clear c53b1
            try clear c54
            try clear c54b0
            try clear c54b1
            try clear c55
            try clear c55b0
            try clear c55b1
            try clear c56
            try clear c56b0
            try clear c56b1
            try clear c56b2
            try clear c57
            try clear c57b0
            try clear c57b1
            try clear c57b2
            try clear c64
            try clear p64
            try clear hcz10_0
            try clear hcz10_1
            try clear hcz28_0
            try clear hcz28_1
            try clear hcz28_2
            try clear hcz28_3
            try clear hcz29_0
            try clear hcz29_1
            try clear hcz31_0
            try clear hcz31_1
            try clear hcz32_0
            try clear hcz32_1
            try clear hcz32_2
            try clear hcz32_3
            try clear hcz45_0
            try clear hcz45_1
            try clear hcz60_0
            try clear hcz60_1
            try clear hfz10_0
            try clear hfz10_1
            try clear hfz28_0
            try clear hfz28_1
            try clear hfz28_2
            try clear hfz28_3
            try clear hfz29_0
            try clear hfz29_1
            try clear hfz31_0
            try clear hfz31_1
            try clear hfz32_0
            try clear hfz32_1
            try clear hfz32_2
            try clear hfz32_3
            try clear hfz45_0
            try clear hfz45_1
            try clear hfz60_0
            try clear hfz60_1
            try clear hx172_0
            try clear hx172_1
            try clear hx172_2
            try clear hx172_3
            try clear p1
            try clear p17
            try clear p172
            try clear p2
            try clear p6
            try clear q1
            try clear q17
            try clear q172
            obtain ⟨x162_4, rfl, HA, HK4, HO_9, HO_20, BK166, HB⟩ := hrel
            cases gk with
            | zero => exact absurd HA.out (by simp [spoortop_TopAgree.l1])
            | succ k4 =>
             have H := HA.out
             clear HA
             simp only [spoortop_TopAgree.l1] at H
             by_cases c66 : x162_4 < (t190.length : Int)
             ·rw [if_pos c66] at H
              have c66b0 : decide (x162_4 < (t190.length : Int)) = true := decide_eq_true c66
              clear c66
              by_cases c67 : 0 ≤ x162_4
              ·rw [if_pos c67] at H
               have c67b0 : decide (0 ≤ x162_4) = true := decide_eq_true c67
               clear c67
               by_cases c68 : x162_4 < (t190.length : Int)
               ·rw [if_pos c68] at H
                have c68b0 : decide (x162_4 < (t190.length : Int)) = true := decide_eq_true c68
                clear c68
                by_cases c69 : x162_4 < (x9_2.length : Int)
                ·rw [if_pos c69] at H
                 have c69b0 : decide (x162_4 < (x9_2.length : Int)) = true := decide_eq_true c69
                 clear c69
                 by_cases c70 : (!(((rd_T23 t190 x162_4).f0) == ((rd_T23 x9_2 x162_4).f0)) || (!(((rd_T23 t190 x162_4).f1) == ((rd_T23 x9_2 x162_4).f1)))) = true
                 ·rw [if_pos c70] at H
                  exact absurd H (by simp)
                 ·rw [if_neg c70] at H
                  have c70b0 : (!(((rd_T23 t190 x162_4).f0) == ((rd_T23 x9_2 x162_4).f0)) || (!(((rd_T23 t190 x162_4).f1) == ((rd_T23 x9_2 x162_4).f1)))) = false := by simpa using c70
                  clear c70
                  have H' := Ax H
                  clear H
                  have p202 : 0 ≤ (x162_4 : Int) := of_decide_eq_true (by first | (with_reducible assumption) | assumption)
                  have q202 : x162_4 < (t190.length : Int) := of_decide_eq_true (by first | (with_reducible assumption) | assumption)
                  obtain ⟨ad202, e202, hx202_0, hx202_1⟩ := at_T23 (Kd.R_reads' HO_20.out).2.2 x162_4 p202 q202
                  cases e202
                  replace p202 := eq_true p202
                  replace q202 := eq_true q202
                  have p203 : 0 ≤ (x162_4 : Int) := of_decide_eq_true (by first | (with_reducible assumption) | assumption)
                  have q203 : x162_4 < (x9_2.length : Int) := of_decide_eq_true (by first | (with_reducible assumption) | assumption)
                  obtain ⟨ad203, e203, hx203_0, hx203_1⟩ := at_T23 (Kd.R_reads' HO_9.out).2.2 x162_4 p203 q203
                  cases e203
                  replace p203 := eq_true p203
                  replace q203 := eq_true q203
                  go_wp2
                  repeat (go_quiet (fail); try go_wp2)
                  go_roundg k4
                  case measure => have := HJ6.out; have := HK2.out; have := HJ43.out; have := HK4.out; omega
                  case rel => exact ⟨(wrap64 (x162_4 + 1)), rS, H', ⟨by have := HJ6.out; have := HK2.out; have := HJ43.out; have := HK4.out; omega⟩, ⟨by (with_reducible repeat (first | apply Kd.R_alloc | apply Kd.R_drewN | apply Kd.R_drew)); exact HO_9.out⟩, ⟨by (with_reducible repeat (first | apply Kd.R_alloc | apply Kd.R_drewN | apply Kd.R_drew)); exact HO_20.out⟩, ⟨bf0 BK166.out⟩, ⟨bw1 HB.out GE166.out⟩⟩
                ·rw [if_neg c69] at H
                 exact absurd H (by simp)
               ·rw [if_neg c68] at H
                exact absurd H (by simp)
              ·rw [if_neg c67] at H
               exact absurd H (by simp)
             ·rw [if_neg c66] at H
              have c66b0 : decide (x162_4 < (t190.length : Int)) = false := decide_eq_false c66
              clear c66
              obtain rfl := Option.some.inj H
              go_wp2
              repeat (go_quiet (fail); try go_wp2)
              go_ret
              exact ⟨eS, bw1 HB.out GE166.out⟩
 ·replace c5 := Bool.eq_false_iff.mpr c5
  subst c5
  have H1 : (none) = some r := by rw [if_neg (show ¬ (false = true) by decide)] at H; exact H
  clear H
  have H := H1
  clear H1
  exact absurd H (by simp)
end Go.Proofs.Ytoheongejamapaa.Q
end
section
namespace Go.Proofs.Ytoheongejamapaa.Open
set_option linter.unusedVariables false
open Go.RowKit Go.WideShapes Go.Proofs.YtoheongejamapaaW.PrintWords Go.Proofs.YtoheongejamapaaW.PrintLast Go.Proofs.YtoheongejamapaaW.PrintMore
open Go.Proofs.Ytoheongejamapaa.Rows (uptoBulk uptoBulkAll)
def Opens {α : Type} (P : Program) (t : TypeId) (K : Kd α) (wf : α → Prop) (mu : α → Nat) : Prop :=
  ∀ {H : Type} (enc : TypeId × Value → H) (W : World) (spare : Nat → Bool) (held : Bool) (n : Nat) (cs : List Value) (x : DataW H × List MemPlace),
    DataW.trod enc P W 0 spare held n t cs = some x → ∃ a, K.K W a cs ∧ wf a ∧ mu a ≤ uptoBulk x.1
def wfInt (k : IntKind) (n : Int) : Prop := (Lit.int k n).wf = true
def wfAll {α : Type} (wf : α → Prop) (l : List α) : Prop := ∀ a ∈ l, wf a
def mu1 {α : Type} (_ : α) : Nat := 1
def muAll {α : Type} (mu : α → Nat) : List α → Nat
  | [] => 1
  | a :: l => mu a + muAll mu l
theorem wfAll_nil {α : Type} (wf : α → Prop) : wfAll wf [] := fun _ h => by cases h
theorem opens_int {P : Program} {t : TypeId} {k : IntKind} (hu : P.underlying t = some (.int k)) : Opens P t (Kd.int k) (wfInt k) mu1 := by
  intro H enc W spare held n cs x h
  obtain ⟨a, rfl, rfl, hw⟩ := DataW.trod_int hu h
  exact ⟨a, rfl, hw, by simp [mu1, uptoBulk]⟩
theorem opens_list {α H : Type} {P : Program} {e : TypeId} {K : Kd α} {wf : α → Prop} {mu : α → Nat} (he : Opens P e K wf mu) (enc : TypeId × Value → H) (W : World) (spare : Nat → Bool) (held : Bool) (n : Nat) (rd : Nat → Option (List Value)) :
    ∀ (elems : List (DataW H × List MemPlace)) (off : Nat), (∀ i, i < elems.length → (rd (off + i)).bind (DataW.trod enc P W 0 spare held n e) = elems[i]?) →
      ∃ l : List α, l.length = elems.length ∧ (∀ i a, l[i]? = some a → ∃ cs, rd (off + i) = some cs ∧ K.K W a cs) ∧ wfAll wf l ∧ muAll mu l ≤ uptoBulkAll (elems.map (·.1)) + 1
  | [], off, _ => ⟨[], rfl, (fun i a h => by simp at h), wfAll_nil _, by simp [muAll, uptoBulkAll]⟩
  | x :: elems, off, h => by
    have h0 := h 0 (by simp)
    simp only [Nat.add_zero, List.getElem?_cons_zero] at h0
    obtain ⟨cs, hc, ht⟩ := Option.bind_eq_some_iff.1 h0
    obtain ⟨a, hK, hw, hm⟩ := he enc W spare held n cs x ht
    obtain ⟨l, hl, hr, hwf, hmu⟩ := opens_list he enc W spare held n rd elems (off + 1) (fun i hi => by
      have := h (i + 1) (by simp; omega)
      rw [List.getElem?_cons_succ] at this
      rwa [show off + 1 + i = off + (i + 1) by omega])
    refine ⟨a :: l, by simp [hl], ?_, ?_, ?_⟩
    · intro i b hb
      cases i with
      | zero =>
        obtain rfl : a = b := by simpa using hb
        exact ⟨cs, hc, hK⟩
      | succ i =>
        rw [List.getElem?_cons_succ] at hb
        obtain ⟨cs', h1, h2⟩ := hr i b hb
        exact ⟨cs', by rwa [show off + (i + 1) = off + 1 + i by omega], h2⟩
    · intro b hb
      rcases List.mem_cons.1 hb with rfl | hb
      · exact hw
      · exact hwf b hb
    · simp only [muAll, List.map_cons, uptoBulkAll]
      omega
theorem cells_some {W : World} {ad : Addr} {n : Nat} {cs : List Value} (h : W.cells? 0 ad n = some cs) : cs.length = n ∧ ∀ i u, cs[i]? = some u → W.cell? (ad.add i) = some u := by
  obtain ⟨_, hl, hc⟩ := World.cells?_some h
  refine ⟨hl, fun i u hi => ?_⟩
  rw [hc i (by rw [← hl]; exact (List.getElem?_eq_some_iff.1 hi).1)]
  exact hi
theorem opens_slice {α : Type} {P : Program} {t e : TypeId} {K : Kd α} {wf : α → Prop} {mu : α → Nat} (he : Opens P e K wf mu) (hu : P.underlying t = some (.slice e)) (hsz : P.cellsOf e = K.sz) (e' : Nat) :
    Opens P t (Kd.slice e' K) (fun l => wfAll wf l ∧ l.length ≤ maxLen) (muAll mu) := by
  intro H enc W spare held n cs x h
  rcases DataW.trod_slice hu h with ⟨rfl, rfl⟩ | ⟨a, len, cap, elems, rest, m, rfl, rfl, rfl, _, hlc, hcm, hel, hrd, _, _⟩
  · exact ⟨[], ⟨none, 0, rfl, Nat.le_refl _, rfl, Nat.zero_le _, fun h => absurd h (Nat.lt_irrefl _)⟩, ⟨wfAll_nil _, by simp⟩, by simp [muAll, uptoBulk]⟩
  · obtain ⟨l, hl, hr, hw, hm⟩ := opens_list he enc W spare held m (fun i => W.cells? 0 (a.add (i * P.cellsOf e)) (P.cellsOf e)) elems 0 (fun i hi => by
      rw [Nat.zero_add]
      exact hrd i (by omega))
    refine ⟨l, ⟨some a, cap, by rw [hl, hel], by omega, ?_⟩, ⟨hw, by omega⟩, ?_⟩
    · refine ⟨rfl, by simp only [maxLen] at hcm; omega, fun _ => ⟨a, rfl, fun j p hp => ?_⟩⟩
      obtain ⟨cs, hc, hK⟩ := hr j p hp
      rw [Nat.zero_add] at hc
      obtain ⟨h1, h2⟩ := cells_some hc
      refine ⟨cs, by rw [h1, hsz], hK, fun i u hi => ?_⟩
      have := h2 i u hi
      rwa [Addr.add_add, hsz] at this
    · simp only [uptoBulk]
      omega
theorem sized_row {H : Type} {enc : TypeId × Value → H} {P : Program} {W : World} {base : Nat} {spare : Nat → Bool} {held : Bool} {t e : TypeId} {a : Option Addr} {len cap : Nat} {d : DataW H} {ps : List MemPlace} {ts : List TypeId} {ds : List (DataW H)} {j : Nat}
    (hsz : (DataW.weightsEach P ts ds).all (· ≤ reachBytes) = true) (ht : ts[j]? = some t) (hd : ds[j]? = some d) (hu : P.underlying t = some (.slice e)) {B : Nat} (hB : P.bytesOf e = B)
    (h : DataW.Trod enc P W base spare held t (.slice a len cap) d ps) : len * B ≤ 140737488351232 := by
  obtain ⟨fuel, hf⟩ := h
  rcases DataW.trod_slice hu hf with ⟨hcs, _⟩ | ⟨a', len', cap', elems, rest, m, _, hcs, hx, _, hlc, hcm, hel, hrd, _, _⟩
  · simp [Value.cells] at hcs
    obtain ⟨rfl, rfl, rfl⟩ := hcs
    simp
  · simp [Value.cells] at hcs
    obtain ⟨rfl, rfl, rfl⟩ := hcs
    obtain ⟨hx, _⟩ := Prod.mk.inj hx
    subst hx
    have z := sized_slice hsz ht hd hu
    rw [hB] at z
    exact Nat.le_trans (Nat.mul_le_mul_right _ (by simp only [List.length_map]; omega)) z
end Go.Proofs.Ytoheongejamapaa.Open
end
section
namespace Go.Proofs.Ytoheongejamapaa.Q
set_option linter.unusedVariables false
set_option linter.unusedSimpArgs false
open Go.RowKit Go.Proofs.YtoheongejamapaaW.PrintWords Go.Proofs.YtoheongejamapaaW.PrintLast Go.Proofs.YtoheongejamapaaW.PrintMore Go.Proofs.Ytoheongejamapaa.Open
open Go.Proofs.Ytoheongejamapaa.Rows (uptoBulk uptoBulkAll)
def wf23 (x : S23) : Prop := (wfInt .i64) x.f0 ∧ (wfInt .i64) x.f1
def mu23 (x : S23) : Nat := mu1 x.f0 + mu1 x.f1 + 1
set_option maxRecDepth 100000 in
theorem opn23 : Opens Try.prog 23 k23 wf23 mu23 := by
  intro H enc W spare held n cs x h
  obtain ⟨xs, m, rfl, rfl, hl, hs, hf⟩ := DataW.trod_struct Try.underlying23 h
  have hc : cs.length = 2 := hl.trans (by kernel_rfl)
  have hx : xs.length = 2 := hs
  clear hl hs h
  match cs, hc, xs, hx, hf with
  | [c0, c1], _, [y0, y1], _, hf =>
    have e0 : Try.prog.cellsOf 2 = 1 := by kernel_rfl
    have e1 : Try.prog.cellsOf 2 = 1 := by kernel_rfl
    have g0 := hf 0 _ rfl
    simp only [List.getElem_toArray, List.getElem_cons_zero, List.getElem_cons_succ, e0] at g0
    obtain ⟨a0, K0, w0, m0⟩ := (opens_int Try.underlying2) enc W spare held m [c0] y0 g0
    have g1 := hf 1 _ rfl
    simp only [List.getElem_toArray, List.getElem_cons_zero, List.getElem_cons_succ, e1] at g1
    obtain ⟨a1, K1, w1, m1⟩ := (opens_int Try.underlying2) enc W spare held m [c1] y1 g1
    exact ⟨⟨a0, a1⟩, ⟨[c0], [c1], rfl, K0, K1⟩, ⟨w0, w1⟩, by simp only [mu23, List.map_cons, List.map_nil, uptoBulk, uptoBulkAll]; omega⟩
def wf32 (x : S32) : Prop := (wfInt .u8) x.f0 ∧ (wfInt .i64) x.f1
def mu32 (x : S32) : Nat := mu1 x.f0 + mu1 x.f1 + 1
set_option maxRecDepth 100000 in
theorem opn32 : Opens Try.prog 32 k32 wf32 mu32 := by
  intro H enc W spare held n cs x h
  obtain ⟨xs, m, rfl, rfl, hl, hs, hf⟩ := DataW.trod_struct Try.underlying32 h
  have hc : cs.length = 2 := hl.trans (by kernel_rfl)
  have hx : xs.length = 2 := hs
  clear hl hs h
  match cs, hc, xs, hx, hf with
  | [c0, c1], _, [y0, y1], _, hf =>
    have e0 : Try.prog.cellsOf 30 = 1 := by kernel_rfl
    have e1 : Try.prog.cellsOf 3 = 1 := by kernel_rfl
    have g0 := hf 0 _ rfl
    simp only [List.getElem_toArray, List.getElem_cons_zero, List.getElem_cons_succ, e0] at g0
    obtain ⟨a0, K0, w0, m0⟩ := (opens_int Try.underlying30) enc W spare held m [c0] y0 g0
    have g1 := hf 1 _ rfl
    simp only [List.getElem_toArray, List.getElem_cons_zero, List.getElem_cons_succ, e1] at g1
    obtain ⟨a1, K1, w1, m1⟩ := (opens_int Try.underlying3) enc W spare held m [c1] y1 g1
    exact ⟨⟨a0, a1⟩, ⟨[c0], [c1], rfl, K0, K1⟩, ⟨w0, w1⟩, by simp only [mu32, List.map_cons, List.map_nil, uptoBulk, uptoBulkAll]; omega⟩
def wf34 (x : S34) : Prop := wf23 x.f0 ∧ wf32 x.f1
def mu34 (x : S34) : Nat := mu23 x.f0 + mu32 x.f1 + 1
set_option maxRecDepth 100000 in
theorem opn34 : Opens Try.prog 34 k34 wf34 mu34 := by
  intro H enc W spare held n cs x h
  obtain ⟨xs, m, rfl, rfl, hl, hs, hf⟩ := DataW.trod_struct Try.underlying34 h
  have hc : cs.length = 4 := hl.trans (by kernel_rfl)
  have hx : xs.length = 2 := hs
  clear hl hs h
  match cs, hc, xs, hx, hf with
  | [c0, c1, c2, c3], _, [y0, y1], _, hf =>
    have e0 : Try.prog.cellsOf 23 = 2 := by kernel_rfl
    have e1 : Try.prog.cellsOf 32 = 2 := by kernel_rfl
    have g0 := hf 0 _ rfl
    simp only [List.getElem_toArray, List.getElem_cons_zero, List.getElem_cons_succ, e0] at g0
    obtain ⟨a0, K0, w0, m0⟩ := opn23 enc W spare held m [c0, c1] y0 g0
    have g1 := hf 1 _ rfl
    simp only [List.getElem_toArray, List.getElem_cons_zero, List.getElem_cons_succ, e1] at g1
    obtain ⟨a1, K1, w1, m1⟩ := opn32 enc W spare held m [c2, c3] y1 g1
    exact ⟨⟨a0, a1⟩, ⟨[c0, c1], [c2, c3], rfl, K0, K1⟩, ⟨w0, w1⟩, by simp only [mu34, List.map_cons, List.map_nil, uptoBulk, uptoBulkAll]; omega⟩
end Go.Proofs.Ytoheongejamapaa.Q
end
section
namespace Go.Proofs.Ytoheongejamapaa.Q
set_option linter.unusedVariables false
open Go.RowKit Go.Proofs.YtoheongejamapaaW.PrintWords Go.Proofs.YtoheongejamapaaW.PrintLast Go.Proofs.YtoheongejamapaaW.PrintMore Go.Proofs.Ytoheongejamapaa.Open
def spoortop_TopAgree.Pure : Prop := ∀ (a0_0 : Int) (a0_1 : Int) (l1 : List (S34)) (l2 : List (S34)), wf23 (⟨a0_0, a0_1⟩ : S23) → (fun l => wfAll wf34 l ∧ l.length ≤ maxLen) l1 → (fun l => wfAll wf34 l ∧ l.length ≤ maxLen) l2 → l1.length * 32 ≤ 140737488351232 → l2.length * 32 ≤ 140737488351232 → ∃ k, spoortop_TopAgree.f k a0_0 a0_1 l1 l2 = some true
end Go.Proofs.Ytoheongejamapaa.Q
end
section
namespace Go.Proofs.Ytoheongejamapaa.Base
set_option linter.unusedVariables false
open Go.RowKit Go.Proofs.YtoheongejamapaaW.PrintWords Go.Proofs.YtoheongejamapaaW.PrintLast Go.Proofs.YtoheongejamapaaW.PrintMore
theorem Ev.pos {α : Type} {c : Prop} [Decidable c] {f g : Nat → Option α} {r : α} (h : c) (k : Ev f r) : Ev (fun n => if c then f n else g n) r := Ev.congr (fun _ => if_pos h) k
theorem Ev.neg {α : Type} {c : Prop} [Decidable c] {f g : Nat → Option α} {r : α} (h : ¬ c) (k : Ev g r) : Ev (fun n => if c then f n else g n) r := Ev.congr (fun _ => if_neg h) k
theorem Ev.const {α : Type} {o : Option α} {r : α} (h : o = some r) : Ev (fun _ => o) r := ⟨0, fun _ _ => h⟩
theorem Ev.succ {α : Type} {g : Nat → Option α} {r : α} (h : Ev (fun k => g (k + 1)) r) : Ev g r := Ev.step (fun _ => rfl) h
theorem Ev.to {α : Type} {g : Nat → Option α} {r q : α} (h : Ev g r) (e : r = q) : Ev g q := e ▸ h
theorem w64 {n : Int} (h0 : -9223372036854775808 ≤ n) (h1 : n ≤ 9223372036854775807) : wrap64 n = n := by unfold wrap64; omega
theorem wf_i64 {n : Int} (h : (Lit.int .i64 n).wf = true) : -9223372036854775808 ≤ n ∧ n ≤ 9223372036854775807 := by
  have h1 : IntKind.i64.min ≤ n ∧ n ≤ IntKind.i64.max := by simpa [Lit.wf] using h
  have a : IntKind.i64.min = -9223372036854775808 := by decide
  have b : IntKind.i64.max = 9223372036854775807 := by decide
  omega
def Bytes (l : List Int) : Prop := ∀ x ∈ l, 0 ≤ x ∧ x < 256
theorem Bytes.nil : Bytes [] := fun _ h => by cases h
theorem Bytes.cons {x : Int} {l : List Int} (h0 : 0 ≤ x) (h1 : x < 256) (h : Bytes l) : Bytes (x :: l) := fun y hy => by
  rcases List.mem_cons.1 hy with rfl | hy
  · exact ⟨h0, h1⟩
  · exact h y hy
theorem Bytes.head {x : Int} {l : List Int} (h : Bytes (x :: l)) : 0 ≤ x ∧ x < 256 := h x (by simp)
theorem Bytes.tail {x : Int} {l : List Int} (h : Bytes (x :: l)) : Bytes l := fun y hy => h y (by simp [hy])
theorem Bytes.append {a b : List Int} (ha : Bytes a) (hb : Bytes b) : Bytes (a ++ b) := fun x hx => (List.mem_append.1 hx).elim (ha x) (hb x)
theorem Bytes.left {a b : List Int} (h : Bytes (a ++ b)) : Bytes a := fun x hx => h x (by simp [hx])
theorem Bytes.right {a b : List Int} (h : Bytes (a ++ b)) : Bytes b := fun x hx => h x (by simp [hx])
theorem Bytes.drop {l : List Int} (h : Bytes l) (n : Nat) : Bytes (l.drop n) := fun x hx => h x (List.mem_of_mem_drop hx)
theorem Bytes.take {l : List Int} (h : Bytes l) (n : Nat) : Bytes (l.take n) := fun x hx => h x (List.mem_of_mem_take hx)
end Go.Proofs.Ytoheongejamapaa.Base
end
section
namespace Go.Proofs.Ytoheongejamapaa.TopA
set_option linter.unusedVariables false
open Go.RowKit Go.Proofs.Ytoheongejamapaa.Q Go.Proofs.YtoheongejamapaaW.PrintWords Go.Proofs.YtoheongejamapaaW.PrintLast Go.Proofs.YtoheongejamapaaW.PrintMore Go.Proofs.Ytoheongejamapaa.Base Go.Proofs.Ytoheongejamapaa.Open
theorem inN_nil (t : Int) : ¬ inN t [] := fun ⟨z, hz, _⟩ => by simp at hz
theorem meetN_nl (n : Nat) (b : List RnM) : meetN n [] b = [] := by cases n <;> cases b <;> rfl
theorem meetN_nr (n : Nat) (a : List RnM) : meetN n a [] = [] := by cases n <;> cases a <;> rfl
def aft (t : Int) (l : List RnM) : Prop := ∀ y ∈ l, t + 1 < y.f0
theorem meetN_ok : ∀ (n : Nat) (a b : List RnM), a.length + b.length ≤ n → Snd a → Snd b →
    Snd (meetN n a b) ∧ (∀ t, inN t (meetN n a b) ↔ inN t a ∧ inN t b) ∧ ∀ z, (aft z a ∨ aft z b) → aft z (meetN n a b)
  | 0, a, b, hn, ha, hb => by
    obtain rfl : a = [] := List.length_eq_zero_iff.1 (by omega)
    rw [meetN_nl]
    exact ⟨⟨fun y hy => by simp at hy, List.Pairwise.nil⟩, fun t => ⟨fun h => (inN_nil t h).elim, fun h => h.1⟩, fun z _ y hy => by simp at hy⟩
  | n + 1, [], b, hn, ha, hb => by
    rw [meetN_nl]
    exact ⟨⟨fun y hy => by simp at hy, List.Pairwise.nil⟩, fun t => ⟨fun h => (inN_nil t h).elim, fun h => h.1⟩, fun z _ y hy => by simp at hy⟩
  | n + 1, a, [], hn, ha, hb => by
    rw [meetN_nr]
    exact ⟨⟨fun y hy => by simp at hy, List.Pairwise.nil⟩, fun t => ⟨fun h => (inN_nil t h).elim, fun h => h.2⟩, fun z _ y hy => by simp at hy⟩
  | n + 1, x :: xs, y :: ys, hn, ha, hb => by
    have hx := ha.1 x (by simp)
    have hy := hb.1 y (by simp)
    have hxl : ∀ u ∈ xs, x.f1 + 1 < u.f0 := (List.pairwise_cons.1 ha.2).1
    have hyl : ∀ u ∈ ys, y.f1 + 1 < u.f0 := (List.pairwise_cons.1 hb.2).1
    have hc0 : (cutR x y).f0 = if x.f0 < y.f0 then y.f0 else x.f0 := rfl
    have hc1 : (cutR x y).f1 = if y.f1 < x.f1 then y.f1 else x.f1 := rfl
    unfold okR at hx hy
    -- what is left, and its meeting
    obtain ⟨R, hR, hRs, hRi, hRa, hle⟩ : ∃ R, (if x.f1 ≤ y.f1 then meetN n xs (y :: ys) else meetN n (x :: xs) ys) = R ∧ Snd R ∧ (∀ t, inN t R ↔ if x.f1 ≤ y.f1 then inN t xs ∧ inN t (y :: ys) else inN t (x :: xs) ∧ inN t ys) ∧ aft (cutR x y).f1 R ∧ (∀ z, (aft z (x :: xs) ∨ aft z (y :: ys)) → aft z R) := by
      by_cases c : x.f1 ≤ y.f1
      · obtain ⟨i1, i2, i3⟩ := meetN_ok n xs (y :: ys) (by simp only [List.length_cons] at *; omega) ha.tail hb
        refine ⟨_, if_pos c, i1, fun t => by rw [if_pos c]; exact i2 t, ?_, fun z h => i3 z (h.imp (fun h u hu => h u (List.mem_cons_of_mem _ hu)) id)⟩
        refine i3 _ (.inl fun u hu => ?_)
        have := hxl u hu
        rw [hc1]; split <;> omega
      · obtain ⟨i1, i2, i3⟩ := meetN_ok n (x :: xs) ys (by simp only [List.length_cons] at *; omega) ha hb.tail
        refine ⟨_, if_neg c, i1, fun t => by rw [if_neg c]; exact i2 t, ?_, fun z h => i3 z (h.imp id (fun h u hu => h u (List.mem_cons_of_mem _ hu)))⟩
        refine i3 _ (.inr fun u hu => ?_)
        have := hyl u hu
        rw [hc1]; split <;> omega
    have e : meetN (n + 1) (x :: xs) (y :: ys) = (if (cutR x y).f0 ≤ (cutR x y).f1 then [cutR x y] else []) ++ R := by rw [← hR]; rfl
    rw [e]
    have hin : ∀ t, ((cutR x y).f0 ≤ t ∧ t ≤ (cutR x y).f1) ↔ (x.f0 ≤ t ∧ t ≤ x.f1) ∧ (y.f0 ≤ t ∧ t ≤ y.f1) := fun t => by
      rw [hc0, hc1]
      split <;> split <;> omega
    have hall : ∀ t, (((cutR x y).f0 ≤ t ∧ t ≤ (cutR x y).f1) ∨ inN t R) ↔ inN t (x :: xs) ∧ inN t (y :: ys) := fun t => by
      rw [hin t, hRi t]
      by_cases c : x.f1 ≤ y.f1
      · rw [if_pos c]
        simp only [inN_cons]
        constructor
        · rintro (⟨h1, h2⟩ | ⟨h1, h2⟩)
          · exact ⟨.inl h1, .inl h2⟩
          · exact ⟨.inr h1, h2⟩
        · rintro ⟨h1 | h1, h2⟩
          · rcases h2 with h2 | h2
            · exact .inl ⟨h1, h2⟩
            · have := hb.low h2; omega
          · exact .inr ⟨h1, h2⟩
      · rw [if_neg c]
        simp only [inN_cons]
        constructor
        · rintro (⟨h1, h2⟩ | ⟨h1, h2⟩)
          · exact ⟨.inl h1, .inl h2⟩
          · exact ⟨h1, .inr h2⟩
        · rintro ⟨h1, h2 | h2⟩
          · rcases h1 with h1 | h1
            · exact .inl ⟨h1, h2⟩
            · have := ha.low h1; omega
          · exact .inr ⟨h1, h2⟩
    by_cases c : (cutR x y).f0 ≤ (cutR x y).f1
    · rw [if_pos c]
      refine ⟨⟨fun u hu => ?_, ?_⟩, fun t => ?_, fun z h u hu => ?_⟩
      · rcases List.mem_append.1 hu with h | h
        · rw [List.mem_singleton.1 h]
          refine ⟨?_, c, ?_⟩
          · rw [hc0]; split <;> omega
          · rw [hc1]; split <;> omega
        · exact hRs.1 u h
      · rw [List.singleton_append, List.pairwise_cons]
        exact ⟨fun u hu => hRa u hu, hRs.2⟩
      · rw [inN_app, inN_one]
        exact hall t
      · rcases List.mem_append.1 hu with hu | hu
        · rw [List.mem_singleton.1 hu, hc0]
          rcases h with h | h
          · have := h x (by simp)
            split <;> omega
          · have := h y (by simp)
            split <;> omega
        · exact hle z h u hu
    · rw [if_neg c, List.nil_append]
      refine ⟨hRs, fun t => ?_, hle⟩
      rw [← hall t]
      exact ⟨.inr, fun h => h.elim (fun h => by omega) id⟩
theorem gapsL_ok : ∀ (l : List RnM) (f : Int), 0 ≤ f → f ≤ 1099511627776 → Snd l → (∀ y ∈ l, f ≤ y.f0) →
    Snd (gapsL f l) ∧ (∀ t, inN t (gapsL f l) ↔ f ≤ t ∧ t ≤ 1099511627776 ∧ ¬ inN t l) ∧ ∀ y ∈ gapsL f l, f ≤ y.f0
  | [], f, h0, h1, hs, hl => by
    refine ⟨⟨fun y hy => ?_, List.pairwise_singleton _ _⟩, fun t => ?_, fun y hy => ?_⟩
    · rw [List.mem_singleton.1 hy]
      exact ⟨h0, h1, Int.le_refl _⟩
    · show inN t [⟨f, 1099511627776⟩] ↔ _
      rw [inN_one]
      exact ⟨fun h => ⟨h.1, h.2, inN_nil t⟩, fun h => ⟨h.1, h.2.1⟩⟩
    · rw [List.mem_singleton.1 hy]
      exact Int.le_refl _
  | x :: xs, f, h0, h1, hs, hl => by
    have hx := hs.1 x (by simp)
    have hxl : ∀ u ∈ xs, x.f1 + 1 < u.f0 := (List.pairwise_cons.1 hs.2).1
    have hfx := hl x (by simp)
    unfold okR at hx
    obtain ⟨R, hR, hRs, hRi, hRl⟩ : ∃ R, (if x.f1 = 1099511627776 then [] else gapsL (x.f1 + 1) xs) = R ∧ Snd R ∧ (∀ t, inN t R ↔ x.f1 < t ∧ t ≤ 1099511627776 ∧ ¬ inN t xs) ∧ ∀ y ∈ R, x.f1 + 1 ≤ y.f0 := by
      by_cases c : x.f1 = 1099511627776
      · exact ⟨[], if_pos c, ⟨fun y hy => by simp at hy, List.Pairwise.nil⟩, fun t => ⟨fun h => (inN_nil t h).elim, fun h => by omega⟩, fun y hy => by simp at hy⟩
      · obtain ⟨i1, i2, i3⟩ := gapsL_ok xs (x.f1 + 1) (by omega) (by omega) hs.tail (fun u hu => by have := hxl u hu; omega)
        exact ⟨_, if_neg c, i1, fun t => by rw [i2 t]; exact ⟨fun h => ⟨by omega, h.2⟩, fun h => ⟨by omega, h.2⟩⟩, i3⟩
    have e : gapsL f (x :: xs) = (if x.f0 = f then [] else [⟨f, x.f0 - 1⟩]) ++ R := by rw [← hR]; rfl
    have hall : ∀ t, ((f ≤ t ∧ t ≤ x.f0 - 1) ∨ inN t R) ↔ f ≤ t ∧ t ≤ 1099511627776 ∧ ¬ inN t (x :: xs) := fun t => by
      rw [hRi t, inN_cons]
      constructor
      · rintro (h | ⟨h1, h2, h3⟩)
        · refine ⟨h.1, by omega, fun hh => ?_⟩
          rcases hh with hh | hh
          · omega
          · have := hs.low hh; omega
        · exact ⟨by omega, h2, fun hh => hh.elim (fun hh => by omega) h3⟩
      · rintro ⟨h1, h2, h3⟩
        by_cases d : t ≤ x.f0 - 1
        · exact .inl ⟨h1, d⟩
        · refine .inr ⟨?_, h2, fun hh => h3 (.inr hh)⟩
          exact Int.not_le.1 (fun hh => h3 (.inl ⟨by omega, hh⟩))
    rw [e]
    by_cases c : x.f0 = f
    · rw [if_pos c, List.nil_append]
      refine ⟨hRs, fun t => ?_, fun y hy => by have := hRl y hy; omega⟩
      rw [← hall t]
      exact ⟨.inr, fun h => h.elim (fun h => by omega) id⟩
    · rw [if_neg c]
      refine ⟨⟨fun u hu => ?_, ?_⟩, fun t => ?_, fun u hu => ?_⟩
      · rcases List.mem_append.1 hu with h | h
        · rw [List.mem_singleton.1 h]
          exact ⟨h0, by show f ≤ x.f0 - 1; omega, by show x.f0 - 1 ≤ _; omega⟩
        · exact hRs.1 u h
      · rw [List.singleton_append, List.pairwise_cons]
        exact ⟨fun u hu => by have := hRl u hu; show x.f0 - 1 + 1 < u.f0; omega, hRs.2⟩
      · rw [inN_app, inN_one]
        exact hall t
      · rcases List.mem_append.1 hu with hu | hu
        · rw [List.mem_singleton.1 hu]
          exact Int.le_refl _
        · have := hRl u hu; omega
theorem meetN_one : ∀ (n : Nat) (a : List RnM) (y : RnM), (meetN n a [y]).length ≤ a.length
  | 0, a, y => by cases a <;> simp [meetN]
  | n + 1, [], y => by simp [meetN]
  | n + 1, x :: xs, y => by
    have e : meetN (n + 1) (x :: xs) [y] = (if (cutR x y).f0 ≤ (cutR x y).f1 then [cutR x y] else []) ++ if x.f1 ≤ y.f1 then meetN n xs [y] else meetN n (x :: xs) [] := rfl
    have ih := meetN_one n xs y
    rw [e, meetN_nr, List.length_append, List.length_cons]
    split <;> split <;> simp <;> omega
abbrev Iv := S23
abbrev Rn := S77
theorem dlt {α : Type} {l : List α} {i : Nat} {c : α} {m : List α} (h : l.drop i = c :: m) : i < l.length := by
  have := congrArg List.length h
  simp at this
  omega
theorem dnext {α : Type} {l : List α} {i : Nat} {x : α} {r : List α} (h : l.drop i = x :: r) : l.drop (i + 1) = r := by rw [← List.drop_drop, h]; rfl
theorem rdI {l : List Iv} {i : Nat} {x : Iv} {r : List Iv} (h : l.drop i = x :: r) : rd_T23 l (i : Int) = x := by
  have e : l[i]? = some x := by rw [← List.head?_drop, h]; rfl
  simp [rd_T23, List.getD_eq_getElem?_getD, e]
def runOf (x : Iv) : Rn := ⟨x.f0, x.f1⟩
theorem runs_l (l : List Iv) (hl : l.length ≤ 17592186044416) : ∀ (r : List Iv) (i : Nat) (a : List Rn), l.drop i = r → a.length = i → i ≤ l.length →
    Ev (fun k => ivl_runs.l0 k (a ++ List.replicate (l.length - i) z77) l (l.length : Int) (i : Int)) (a ++ r.map runOf)
  | [], i, a, hd, ha, hi => by
    have h1 : l.length ≤ i := List.drop_eq_nil_iff.1 hd
    refine Ev.succ ?_
    simp only [ivl_runs.l0]
    refine Ev.neg (by omega) (Ev.const ?_)
    rw [show l.length - i = 0 by omega]
    rfl
  | x :: r, i, a, hd, ha, hi => by
    have hlt := dlt hd
    refine Ev.succ ?_
    simp only [ivl_runs.l0, rdI hd]
    refine Ev.pos (by omega) (Ev.pos (by omega) (Ev.pos (by omega) (Ev.pos (by rw [List.length_append, List.length_replicate]; omega) ?_)))
    rw [w64 (by omega) (by omega), show ((i : Int) + 1) = ((i + 1 : Nat) : Int) by omega, Int.toNat_natCast]
    have e : (a ++ List.replicate (l.length - i) z77).set i (⟨x.f0, x.f1⟩ : Rn) = (a ++ [runOf x]) ++ List.replicate (l.length - (i + 1)) z77 := by
      rw [show l.length - i = (l.length - (i + 1)) + 1 by omega, List.replicate_succ, List.set_append_right _ _ (by omega), ha, Nat.sub_self, List.append_assoc]
      rfl
    rw [e]
    refine Ev.to (runs_l l hl r (i + 1) (a ++ [runOf x]) (dnext hd) (by simp [ha]) (by omega)) ?_
    rw [List.append_assoc]
    rfl
theorem runs_ev (l : List Iv) (hl : l.length ≤ 17592186044416) : Ev (fun k => ivl_runs.f k l) (l.map runOf) := by
  simp only [ivl_runs.f, Int.toNat_natCast]
  refine Ev.pos (by omega) (Ev.pos hl ?_)
  exact runs_l l hl l 0 [] rfl rfl (Nat.zero_le _)
theorem ivl_ev (l : List Iv) : Ev (fun k => ivl_Check.f k l) (if l.length ≤ 1024 ∧ soundL none (l.map runOf) = true then 0 else 2) := by
  simp only [ivl_Check.f]
  by_cases h : 1024 < (l.length : Int)
  · rw [if_neg (by omega)]
    exact Ev.pos h (Ev.const rfl)
  · refine Ev.neg h (Ev.bind (runs_ev l (by omega)) (Ev.const ?_))
    by_cases s : soundL none (l.map runOf) = true
    · rw [if_pos s, if_pos ⟨by omega, s⟩]
    · rw [if_neg s, if_neg (fun hh => s hh.2)]
def ivOf (x : Rn) : Iv := ⟨x.f0, x.f1⟩
theorem ivs_back (l : List Iv) : (l.map runOf).map ivOf = l := by
  rw [List.map_map]
  conv => rhs; rw [← List.map_id l]
  exact List.map_congr_left (fun x _ => rfl)
theorem runs_back (l : List Rn) : (l.map ivOf).map runOf = l := by
  rw [List.map_map]
  conv => rhs; rw [← List.map_id l]
  exact List.map_congr_left (fun x _ => rfl)
theorem sound_snd : ∀ (l : List Rn) (p : Option Int), (∀ u, p = some u → u ≤ 1099511627776) → (soundL p l = true ↔ Snd l ∧ ∀ u, p = some u → ∀ y ∈ l, u + 1 < y.f0)
  | [], p, _ => by
    have e : soundL p [] = true := by cases p <;> rfl
    exact ⟨fun _ => ⟨⟨fun y hy => by simp at hy, List.Pairwise.nil⟩, fun u _ y hy => by simp at hy⟩, fun _ => e⟩
  | x :: xs, p, hp => by
    have e : soundL p (x :: xs) = if x.f0 < 0 ∨ x.f1 < x.f0 ∨ 1099511627776 < x.f1 then false else
      match p with
      | none => soundL (some x.f1) xs
      | some t => if t = 1099511627776 ∨ x.f0 ≤ t + 1 then false else soundL (some x.f1) xs := by cases p <;> rfl
    rw [e]
    by_cases c : x.f0 < 0 ∨ x.f1 < x.f0 ∨ 1099511627776 < x.f1
    · rw [if_pos c]
      refine ⟨fun h => (by cases h), fun h => ?_⟩
      have := h.1.1 x (List.mem_cons_self ..)
      unfold okR at this
      omega
    rw [if_neg c]
    have ih := sound_snd xs (some x.f1) (fun u hu => by rw [← Option.some.inj hu]; omega)
    have hok : okR x := by unfold okR; omega
    have cons : (soundL (some x.f1) xs = true) ↔ Snd (x :: xs) := by
      rw [ih]
      constructor
      · rintro ⟨⟨h1, h2⟩, h3⟩
        refine ⟨fun y hy => ?_, List.pairwise_cons.2 ⟨fun y hy => h3 _ rfl y hy, h2⟩⟩
        rcases List.mem_cons.1 hy with e | m
        · rw [e]; exact hok
        · exact h1 y m
      · intro h
        exact ⟨h.tail, fun u hu y hy => by rw [← Option.some.inj hu]; exact (List.pairwise_cons.1 h.2).1 y hy⟩
    cases p with
    | none =>
      dsimp only
      rw [cons]
      exact ⟨fun h => ⟨h, fun u hu => (by cases hu)⟩, fun h => h.1⟩
    | some t =>
      have ht := hp t rfl
      dsimp only
      by_cases d : t = 1099511627776 ∨ x.f0 ≤ t + 1
      · rw [if_pos d]
        refine ⟨fun h => (by cases h), fun h => ?_⟩
        have := h.2 t rfl x (List.mem_cons_self ..)
        omega
      · rw [if_neg d, cons]
        refine ⟨fun h => ⟨h, fun u hu y hy => ?_⟩, fun h => h.1⟩
        obtain rfl := Option.some.inj hu
        rcases List.mem_cons.1 hy with e | m
        · rw [e]; omega
        · have := (List.pairwise_cons.1 h.2).1 y m; omega
theorem sound_none (l : List Rn) : soundL none l = true ↔ Snd l := by
  rw [sound_snd l none (fun u hu => by cases hu)]
  exact ⟨fun h => h.1, fun h => ⟨h, fun u hu => by cases hu⟩⟩
def SndI (l : List Iv) : Prop := Snd (l.map runOf)
theorem check_ok {l : List Iv} (hl : l.length ≤ 1024) (hs : SndI l) : Ev (fun k => ivl_Check.f k l) 0 := Ev.to (ivl_ev l) (if_pos ⟨hl, (sound_none _).2 hs⟩)
theorem rows_ev {a b : List Iv} (ha : a.length ≤ 1024) (hb : b.length ≤ 1024) (sa : SndI a) (sb : SndI b) : Ev (fun k => ivl_rows.f k [a, b]) 0 := by
  have e1 : wrap64 ((0 : Int) + 1) = 1 := w64 (by omega) (by omega)
  have e2 : wrap64 ((1 : Int) + 1) = 2 := w64 (by omega) (by omega)
  simp only [ivl_rows.f, List.length_cons, List.length_nil]
  refine Ev.succ ?_
  simp only [ivl_rows.l0, List.length_cons, List.length_nil, e1]
  refine Ev.pos (by omega) (Ev.pos (by omega) (Ev.pos (by omega) (Ev.bind (check_ok (l := a) ha sa) (Ev.pos rfl ?_))))
  refine Ev.succ ?_
  simp only [ivl_rows.l0, List.length_cons, List.length_nil, e2]
  refine Ev.pos (by omega) (Ev.pos (by omega) (Ev.pos (by omega) (Ev.bind (check_ok (l := b) hb sb) (Ev.pos rfl ?_))))
  refine Ev.succ ?_
  simp only [ivl_rows.l0, List.length_cons, List.length_nil]
  exact Ev.neg (by omega) (Ev.const rfl)
theorem rdR {l : List Rn} {i : Nat} {x : Rn} {r : List Rn} (h : l.drop i = x :: r) : rd_T77 l (i : Int) = x := by
  have := dlt h
  rw [List.drop_eq_getElem_cons this] at h
  simp only [rd_T77, Int.toNat_natCast, List.getD_eq_getElem?_getD, List.getElem?_eq_getElem this, Option.getD_some]
  exact (List.cons.inj h).1
theorem told_l (l : List Rn) (hl : l.length ≤ 1024) : ∀ (r : List Rn) (i : Nat) (a : List Iv), l.drop i = r → a.length = i → Ev (fun k => ivl_told.l0 k a l (l.length : Int) (i : Int)) (a ++ r.map ivOf, 0)
  | [], i, a, hd, ha => by
    have h1 : l.length ≤ i := List.drop_eq_nil_iff.1 hd
    refine Ev.succ ?_
    simp only [ivl_told.l0]
    exact Ev.neg (by omega) (Ev.const (by simp))
  | x :: r, i, a, hd, ha => by
    have hlt := dlt hd
    refine Ev.succ ?_
    simp only [ivl_told.l0, rdR hd]
    refine Ev.pos (by omega) (Ev.pos (by omega) (Ev.pos (by omega) (Ev.pos (by omega) ?_)))
    rw [w64 (by omega) (by omega), show ((i : Int) + 1) = ((i + 1 : Nat) : Int) by omega]
    have ih := told_l l hl r (i + 1) (a ++ [ivOf x]) (dnext hd) (by simp [ha])
    rw [List.append_assoc] at ih
    exact ih
theorem told_ev (l : List Rn) (hl : l.length ≤ 1024) : Ev (fun k => ivl_told.f k l) (l.map ivOf, 0) := by
  simp only [ivl_told.f]
  exact Ev.neg (by omega) (told_l l hl l 0 [] rfl rfl)
theorem or_ev {a b : List Iv} (hab : a.length + b.length ≤ 1024) (sa : SndI a) (sb : SndI b) : Ev (fun k => ivl_Or.f k a b) ((joinR ((a ++ b).map runOf)).map ivOf, 0) := by
  have hok : ∀ x ∈ (a ++ b).map runOf, okR x := fun x hx => by
    rw [List.map_append] at hx
    rcases List.mem_append.1 hx with h | h
    · exact sa.1 x h
    · exact sb.1 x h
  have hlen := joinR_len ((a ++ b).map runOf)
  rw [List.length_map, List.length_append] at hlen
  simp only [ivl_Or.f]
  refine Ev.bind (rows_ev (by omega) (by omega) sa sb) (Ev.neg (by decide) (Ev.bind (runs_ev (a ++ b) (by rw [List.length_append]; omega)) (Ev.pos ⟨by omega, by rw [List.length_map, List.length_append]; omega, ?_⟩ (told_ev _ (by omega)))))
  exact List.all_eq_true.2 (fun x hx => decide_eq_true (hok x hx))
theorem or_ok {a b : List Iv} (sa : SndI a) (sb : SndI b) : SndI ((joinR ((a ++ b).map runOf)).map ivOf) ∧ (∀ t, inN t (((joinR ((a ++ b).map runOf)).map ivOf).map runOf) ↔ inN t (a.map runOf) ∨ inN t (b.map runOf)) ∧ ((joinR ((a ++ b).map runOf)).map ivOf).length ≤ a.length + b.length := by
  have hok : ∀ x ∈ (a ++ b).map runOf, okR x := fun x hx => by
    rw [List.map_append] at hx
    rcases List.mem_append.1 hx with h | h
    · exact sa.1 x h
    · exact sb.1 x h
  obtain ⟨h1, h2⟩ := joinR_ok hok
  have hlen := joinR_len ((a ++ b).map runOf)
  rw [List.length_map, List.length_append] at hlen
  unfold SndI
  rw [runs_back]
  refine ⟨h1, fun t => ?_, by rw [List.length_map]; exact hlen⟩
  rw [h2, List.map_append, inN_app]
def lenI (x : Iv) : Int := x.f1 - x.f0 + 1
def sumI (l : List Iv) : Int := (l.map lenI).sum
theorem long_l (l : List Iv) (hl : l.length ≤ 1024) (M : Int) (hM : M = 1099511627777) (hb : ∀ x ∈ l, 0 ≤ x.f0 ∧ x.f0 ≤ x.f1 ∧ x.f1 ≤ 1099511627776) (r : List Iv) : ∀ (i : Nat) (s : Int), l.drop i = r → 0 ≤ s → s ≤ (i : Int) * M → Ev (fun k => ivl_Long.l0 k s l (l.length : Int) (i : Int)) (s + sumI r, 0) := by
  induction r with
  | nil =>
    intro i s hd h0 h1
    have h1 : l.length ≤ i := List.drop_eq_nil_iff.1 hd
    refine Ev.succ ?_
    simp only [ivl_Long.l0]
    exact Ev.neg (by omega) (Ev.const (by simp [sumI]))
  | cons x r ih =>
    intro i s hd h0 h1
    have hlt := dlt hd
    have hx : x ∈ l := by
      have : x ∈ l.drop i := by rw [hd]; exact List.mem_cons_self ..
      exact List.mem_of_mem_drop this
    obtain ⟨b1, b2, b3⟩ := hb x hx
    refine Ev.succ ?_
    simp only [ivl_Long.l0, rdI hd]
    refine Ev.pos (by omega) (Ev.pos (by omega) (Ev.pos (by omega) ?_))
    have hi : (i : Int) ≤ 1024 := by omega
    have hs2 : s ≤ 1125899906843648 := by subst hM; omega
    rw [w64 (n := x.f1 - x.f0) (by omega) (by omega), w64 (n := x.f1 - x.f0 + 1) (by omega) (by omega), w64 (n := s + (x.f1 - x.f0 + 1)) (by omega) (by omega), w64 (n := (i : Int) + 1) (by omega) (by omega), show ((i : Int) + 1) = ((i + 1 : Nat) : Int) by omega]
    refine Ev.to (ih (i + 1) (s + (x.f1 - x.f0 + 1)) (dnext hd) (by omega) (by subst hM; omega)) ?_
    simp only [sumI, List.map_cons, List.sum_cons, lenI]
    rw [Int.add_assoc]
theorem long_ev {l : List Iv} (hl : l.length ≤ 1024) (hs : SndI l) : Ev (fun k => ivl_Long.f k l) (sumI l, 0) := by
  simp only [ivl_Long.f]
  refine Ev.bind (check_ok hl hs) (Ev.pos rfl ?_)
  refine Ev.to (long_l l hl _ rfl (fun x hx => hs.1 (runOf x) (List.mem_map_of_mem hx)) l 0 0 rfl (Int.le_refl _) (by omega)) ?_
  rw [Int.zero_add]
theorem sndI_nil : SndI [] := ⟨fun y hy => by simp at hy, List.Pairwise.nil⟩
def okI (l : List Iv) : Prop := l.length ≤ 1024 ∧ SndI l
instance (l : List Iv) : Decidable (okI l) := decidable_of_iff (l.length ≤ 1024 ∧ soundL none (l.map runOf) = true) (and_congr Iff.rfl (sound_none _))
theorem chk_ev (l : List Iv) : Ev (fun k => ivl_Check.f k l) (if okI l then 0 else 2) := Ev.to (ivl_ev l) (by
  by_cases h : okI l
  · rw [if_pos h, if_pos ⟨h.1, (sound_none _).2 h.2⟩]
  · rw [if_neg h, if_neg (fun hh => h ⟨hh.1, (sound_none _).1 hh.2⟩)])
theorem rows2_ev (a b : List Iv) : Ev (fun k => ivl_rows.f k [a, b]) (if okI a ∧ okI b then 0 else 2) := by
  have e1 : wrap64 ((0 : Int) + 1) = 1 := w64 (by omega) (by omega)
  have e2 : wrap64 ((1 : Int) + 1) = 2 := w64 (by omega) (by omega)
  by_cases ha : okI a
  · by_cases hb : okI b
    · rw [if_pos ⟨ha, hb⟩]
      exact rows_ev ha.1 hb.1 ha.2 hb.2
    · rw [if_neg (fun h => hb h.2)]
      simp only [ivl_rows.f, List.length_cons, List.length_nil]
      refine Ev.succ ?_
      simp only [ivl_rows.l0, List.length_cons, List.length_nil, e1]
      refine Ev.pos (by omega) (Ev.pos (by omega) (Ev.pos (by omega) (Ev.bind (Ev.to (chk_ev a) (if_pos ha)) (Ev.pos rfl ?_))))
      refine Ev.succ ?_
      simp only [ivl_rows.l0, List.length_cons, List.length_nil, e2]
      exact Ev.pos (by omega) (Ev.pos (by omega) (Ev.pos (by omega) (Ev.bind (Ev.to (chk_ev b) (if_neg hb)) (Ev.neg (by decide) (Ev.const rfl)))))
  · rw [if_neg (fun h => ha h.1)]
    simp only [ivl_rows.f, List.length_cons, List.length_nil]
    refine Ev.succ ?_
    simp only [ivl_rows.l0, List.length_cons, List.length_nil, e1]
    exact Ev.pos (by omega) (Ev.pos (by omega) (Ev.pos (by omega) (Ev.bind (Ev.to (chk_ev a) (if_neg ha)) (Ev.neg (by decide) (Ev.const rfl)))))
def finR (l : List Rn) : List Iv × Int := if 1024 < l.length then ([], 11) else (l.map ivOf, 0)
theorem toldR_ev (l : List Rn) : Ev (fun k => ivl_told.f k l) (finR l) := by
  unfold finR
  by_cases h : 1024 < l.length
  · rw [if_pos h]
    simp only [ivl_told.f]
    exact Ev.pos (by omega) (Ev.const rfl)
  · rw [if_neg h]
    exact told_ev l (by omega)
def andV (a b : List Iv) : List Iv × Int := if okI a ∧ okI b then finR (meetN (a.length + b.length) (a.map runOf) (b.map runOf)) else ([], 2)
theorem and_ev (a b : List Iv) : Ev (fun k => ivl_And.f k a b) (andV a b) := by
  simp only [ivl_And.f]
  refine Ev.bind (rows2_ev a b) ?_
  unfold andV
  by_cases h : okI a ∧ okI b
  · rw [if_pos h, if_pos h]
    have h1 := h.1.1
    have h2 := h.2.1
    refine Ev.neg (by decide) (Ev.bind (runs_ev a (by omega)) (Ev.bind (runs_ev b (by omega)) (Ev.pos (by simp only [List.length_map]; omega) ?_)))
    simp only [List.length_map]
    exact toldR_ev _
  · rw [if_neg h, if_neg h]
    exact Ev.pos (by decide) (Ev.const rfl)
def notV (a : List Iv) (x : Iv) : List Iv × Int := if okI a ∧ okI [x] then finR (meetN ((gapsL 0 (a.map runOf)).length + 1) (gapsL 0 (a.map runOf)) [runOf x]) else ([], 2)
theorem not_ev (a : List Iv) (x0 x1 : Int) : Ev (fun k => ivl_Not.f k a x0 x1) (notV a ⟨x0, x1⟩) := by
  simp only [ivl_Not.f]
  refine Ev.bind (rows2_ev a [⟨x0, x1⟩]) ?_
  unfold notV
  by_cases h : okI a ∧ okI [⟨x0, x1⟩]
  · rw [if_pos h, if_pos h]
    have h1 := h.1.1
    refine Ev.neg (by decide) (Ev.bind (runs_ev a (by omega)) (Ev.bind (runs_ev [⟨x0, x1⟩] (by simp)) (Ev.pos ⟨by simp only [List.length_map, List.length_cons, List.length_nil]; omega, List.all_eq_true.2 (fun y hy => decide_eq_true (h.1.2.1 y hy))⟩ ?_)))
    exact toldR_ev _
  · rw [if_neg h, if_neg h]
    exact Ev.pos (by decide) (Ev.const rfl)
theorem okI_map {N : List Rn} (h : N.length ≤ 1024) (s : Snd N) : okI (N.map ivOf) := ⟨by rw [List.length_map]; exact h, by unfold SndI; rw [runs_back]; exact s⟩
theorem and_ok {a b : List Iv} (ha : okI a) (hb : okI b) (hn : a.length + b.length ≤ 1024) :
    ∃ N, andV a b = (N, 0) ∧ okI N ∧ ∀ t, inN t (N.map runOf) ↔ inN t (a.map runOf) ∧ inN t (b.map runOf) := by
  obtain ⟨m1, m2, _⟩ := meetN_ok (a.length + b.length) (a.map runOf) (b.map runOf) (by simp) ha.2 hb.2
  have hl := meetN_len (a.length + b.length) (a.map runOf) (b.map runOf)
  refine ⟨_, ?_, okI_map (N := meetN (a.length + b.length) (a.map runOf) (b.map runOf)) (by omega) m1, fun t => by rw [runs_back]; exact m2 t⟩
  unfold andV finR
  rw [if_pos ⟨ha, hb⟩, if_neg (by omega)]
theorem not_ok {a : List Iv} {x : Iv} (ha : okI a) (hx : okI [x]) (hn : a.length < 1024) :
    ∃ N, notV a x = (N, 0) ∧ okI N ∧ ∀ t, inN t (N.map runOf) ↔ (x.f0 ≤ t ∧ t ≤ x.f1) ∧ ¬ inN t (a.map runOf) := by
  have hsl : Snd (a.map runOf) := ha.2
  have hsx : Snd [runOf x] := hx.2
  obtain ⟨g1, g2, g3⟩ := gapsL_ok (a.map runOf) 0 (Int.le_refl _) (by decide) hsl (fun y hy => (hsl.1 y hy).1)
  have gl := gapsL_len (a.map runOf) 0
  rw [List.length_map] at gl
  obtain ⟨m1, m2, _⟩ := meetN_ok ((gapsL 0 (a.map runOf)).length + 1) (gapsL 0 (a.map runOf)) [runOf x] (by simp) g1 hsx
  have hl := meetN_one ((gapsL 0 (a.map runOf)).length + 1) (gapsL 0 (a.map runOf)) (runOf x)
  refine ⟨_, ?_, okI_map (N := meetN ((gapsL 0 (a.map runOf)).length + 1) (gapsL 0 (a.map runOf)) [runOf x]) (by omega) m1, fun t => ?_⟩
  · unfold notV finR
    rw [if_pos ⟨ha, hx⟩, if_neg (by omega)]
  · rw [runs_back, m2 t, g2 t, inN_one]
    have h4 := hsx.1 (runOf x) (by simp)
    unfold okR at h4
    have e0 : (runOf x).f0 = x.f0 := rfl
    have e1 : (runOf x).f1 = x.f1 := rfl
    rw [e0, e1] at h4
    show (0 ≤ t ∧ t ≤ 1099511627776 ∧ ¬ inN t (a.map runOf)) ∧ x.f0 ≤ t ∧ t ≤ x.f1 ↔ _
    constructor
    · rintro ⟨⟨_, _, h3⟩, h⟩
      exact ⟨h, h3⟩
    · rintro ⟨h, h3⟩
      exact ⟨⟨by omega, by omega, h3⟩, h⟩
theorem or_ok2 {a b : List Iv} (ha : okI a) (hb : okI b) (hn : a.length + b.length ≤ 1024) :
    ∃ N, Ev (fun k => ivl_Or.f k a b) (N, 0) ∧ okI N ∧ ∀ t, inN t (N.map runOf) ↔ inN t (a.map runOf) ∨ inN t (b.map runOf) := by
  obtain ⟨h1, h2, h3⟩ := or_ok ha.2 hb.2
  exact ⟨_, or_ev hn ha.2 hb.2, ⟨by omega, h1⟩, h2⟩
theorem okI_one (x : Iv) : okI [x] ↔ 0 ≤ x.f0 ∧ x.f0 ≤ x.f1 ∧ x.f1 ≤ 1099511627776 := by
  constructor
  · intro h
    exact h.2.1 (runOf x) (by simp)
  · intro h
    exact ⟨by simp, fun y hy => by
      have e : y = runOf x := by simpa using hy
      rw [e]
      exact h, List.pairwise_singleton _ _⟩
open Classical in
noncomputable def cnt (p : Int → Prop) : Nat → Int
  | 0 => 0
  | n + 1 => cnt p n + if p (n : Int) then 1 else 0
theorem cnt_congr {p q : Int → Prop} (h : ∀ t, p t ↔ q t) : ∀ n, cnt p n = cnt q n
  | 0 => rfl
  | n + 1 => by
    have e : p = q := funext fun t => propext (h t)
    rw [e]
theorem cnt_sum (p q : Int → Prop) : ∀ n, cnt (fun t => p t ∨ q t) n + cnt (fun t => p t ∧ q t) n = cnt p n + cnt q n
  | 0 => rfl
  | n + 1 => by
    have ih := cnt_sum p q n
    simp only [cnt]
    by_cases h1 : p (n : Int) <;> by_cases h2 : q (n : Int) <;> simp [h1, h2] <;> omega
theorem cnt_none {p : Int → Prop} (h : ∀ t, ¬ p t) : ∀ n, cnt p n = 0
  | 0 => rfl
  | n + 1 => by
    simp only [cnt, cnt_none h n, if_neg (h _)]
    rfl
theorem cnt_ivl (a b : Int) (h0 : 0 ≤ a) (h1 : a ≤ b) : ∀ n : Nat, cnt (fun t => a ≤ t ∧ t ≤ b) n = if (n : Int) ≤ a then 0 else if (n : Int) ≤ b then n - a else b - a + 1
  | 0 => by rw [if_pos (by omega)]; rfl
  | n + 1 => by
    have ih := cnt_ivl a b h0 h1 n
    simp only [cnt, ih]
    repeat' split
    all_goals omega
theorem cnt_row (n : Nat) (hn : 1099511627777 ≤ n) : ∀ l : List Iv, SndI l → cnt (fun t => inN t (l.map runOf)) n = sumI l
  | [], _ => cnt_none (fun t => inN_nil t) n
  | x :: xs, h => by
    have hx := h.1 (runOf x) (by simp)
    unfold okR at hx
    have e0 : (runOf x).f0 = x.f0 := rfl
    have e1 : (runOf x).f1 = x.f1 := rfl
    rw [e0, e1] at hx
    have hs : Snd (runOf x :: xs.map runOf) := h
    have ih := cnt_row n hn xs hs.tail
    have a1 := cnt_sum (fun t => x.f0 ≤ t ∧ t ≤ x.f1) (fun t => inN t (xs.map runOf)) n
    have a0 : cnt (fun t => (x.f0 ≤ t ∧ t ≤ x.f1) ∧ inN t (xs.map runOf)) n = 0 := cnt_none (fun t ht => by have := hs.low ht.2; rw [e1] at this; have := ht.1.2; omega) n
    rw [a0, ih, cnt_ivl _ _ hx.1 hx.2.1 n, if_neg (by omega), if_neg (by omega)] at a1
    have e : cnt (fun t => inN t ((x :: xs).map runOf)) n = cnt (fun t => (x.f0 ≤ t ∧ t ≤ x.f1) ∨ inN t (xs.map runOf)) n := cnt_congr (fun t => inN_cons t (runOf x) (xs.map runOf)) n
    rw [e]
    simp only [sumI, List.map_cons, List.sum_cons, lenI] at *
    omega
theorem sum_two {a b o d : List Iv} (ha : okI a) (hb : okI b) (ho : okI o) (hd : okI d) (h1 : ∀ t, inN t (o.map runOf) ↔ inN t (a.map runOf) ∨ inN t (b.map runOf)) (h2 : ∀ t, inN t (d.map runOf) ↔ inN t (a.map runOf) ∧ inN t (b.map runOf)) : sumI o + sumI d = sumI a + sumI b := by
  have h := cnt_sum (fun t => inN t (a.map runOf)) (fun t => inN t (b.map runOf)) 1099511627777
  rw [← cnt_congr h1, ← cnt_congr h2] at h
  rw [cnt_row _ (Nat.le_refl _) _ ha.2, cnt_row _ (Nat.le_refl _) _ hb.2, cnt_row _ (Nat.le_refl _) _ ho.2, cnt_row _ (Nat.le_refl _) _ hd.2] at h
  exact h
theorem sum_in {a e : List Iv} {x : Iv} (ha : okI a) (he : okI e) (hx : okI [x]) (hin : ∀ t, inN t (a.map runOf) → x.f0 ≤ t ∧ t ≤ x.f1) (h1 : ∀ t, inN t (e.map runOf) ↔ (x.f0 ≤ t ∧ t ≤ x.f1) ∧ ¬ inN t (a.map runOf)) : sumI a + sumI e = x.f1 - x.f0 + 1 := by
  have h := sum_two (o := [x]) (d := []) ha he hx ⟨by simp, sndI_nil⟩ (fun t => by
    rw [h1 t]
    have e : inN t ([x].map runOf) ↔ (x.f0 ≤ t ∧ t ≤ x.f1) := inN_one t (runOf x)
    rw [e]
    constructor
    · intro h
      exact (Classical.em (inN t (a.map runOf))).imp id (fun c => ⟨h, c⟩)
    · exact fun h => h.elim (hin t) (fun h => h.1)) (fun t => by
    rw [h1 t]
    exact ⟨fun h => (inN_nil t h).elim, fun h => (h.2.2 h.1).elim⟩)
  simp only [sumI, lenI, List.map_cons, List.map_nil, List.sum_cons, List.sum_nil] at *
  omega
def rightB (x : S32) : Bool := (line_right.f x.f0 x.f1).getD false
theorem right_some (a b : Int) : line_right.f a b = some (rightB ⟨a, b⟩) := by unfold rightB line_right.f; (repeat' split) <;> rfl
abbrev Er := S34
abbrev Vd := S32
theorem rdV {l : List Er} {i : Nat} {x : Er} {r : List Er} (h : l.drop i = x :: r) : rd_T34 l (i : Int) = x := by
  have e : l[i]? = some x := by rw [← List.head?_drop, h]; rfl
  simp [rd_T34, List.getD_eq_getElem?_getD, e]
def winP (a b : Int) : Prop := 0 ≤ a ∧ a ≤ b ∧ b ≤ 1099511627776
instance (a b : Int) : Decidable (winP a b) := by unfold winP; infer_instance
theorem win_ev (a b : Int) : Ev (fun k => line_window.f k a b) (decide (winP a b)) := by
  simp only [line_window.f]
  refine Ev.bind (ivl_ev _) (Ev.const ?_)
  have e : soundL none (List.map runOf [(⟨a, b⟩ : Iv)]) = decide (winP a b) := by
    show (if a < 0 ∨ b < a ∨ 1099511627776 < b then false else true) = _
    by_cases h : winP a b
    · rw [if_neg (by unfold winP at h; omega), decide_eq_true h]
    · rw [if_pos (by unfold winP at h; omega), decide_eq_false h]
  rw [e]
  by_cases h : winP a b
  · rw [decide_eq_true h, if_pos ⟨by simp, rfl⟩]; rfl
  · rw [decide_eq_false h, if_neg (fun hh => by cases hh.2)]; rfl
def stepB (w1 : Int) (p : Option Er) (x : Er) : Bool := rightB x.f1 && decide (x.f0.f0 ≤ x.f0.f1) && decide (x.f0.f1 ≤ w1) && (match p with
  | none => true
  | some q => decide (x.f0.f0 - 1 = q.f0.f1) && !(x.f1.f0 == q.f1.f0 && x.f1.f1 == q.f1.f1))
def chkB (w1 : Int) : Option Er → List Er → Bool
  | _, [] => true
  | p, x :: xs => stepB w1 p x && chkB w1 (some x) xs
def prevOf (l : List Er) (i : Nat) : Option Er := if i = 0 then none else l[i - 1]?
def ec (b : Bool) : Int := if b = true then 0 else 2
theorem j2_no (l m : List Er) (i n j a b c d e f : Int) : Ev (fun k => line_Check.j2 k l i m n j true a b c d e f) 2 := by
  refine Ev.succ ?_
  simp only [line_Check.j2]
  exact Ev.pos trivial (Ev.const rfl)
def bndE (x : Er) : Prop := -9223372036854775808 ≤ x.f0.f0 ∧ x.f0.f0 ≤ 9223372036854775807 ∧ -9223372036854775808 ≤ x.f0.f1 ∧ x.f0.f1 ≤ 9223372036854775807
theorem wf_era {x : Er} (h : wf34 x) : bndE x := by
  unfold bndE
  obtain ⟨⟨h1, h2⟩, _⟩ := h
  have a := wf_i64 h1
  have b := wf_i64 h2
  omega
theorem chk_l (l : List Er) (hw : ∀ x ∈ l, bndE x) (hl : l.length ≤ 1024) (w0 w1 : Int) (hw1 : w1 ≤ 1099511627776) : ∀ (r : List Er) (i : Nat), l.drop i = r → (∀ q, prevOf l i = some q → q.f0.f1 ≤ w1) → Ev (fun k => line_Check.l0 k l l (l.length : Int) (i : Int) w0 w1) (ec (chkB w1 (prevOf l i) r))
  | [], i, hd, hpv => by
    have h1 : l.length ≤ i := List.drop_eq_nil_iff.1 hd
    refine Ev.succ ?_
    simp only [line_Check.l0]
    exact Ev.neg (by omega) (Ev.const rfl)
  | x :: r, i, hd, hpv => by
    have hlt := dlt hd
    have hxb := hw x (List.mem_of_mem_drop (i := i) (by rw [hd]; simp))
    unfold bndE at hxb
    have hp : prevOf l (i + 1) = some x := by
      unfold prevOf
      rw [if_neg (by omega), Nat.add_sub_cancel, ← List.head?_drop, hd]
      rfl
    have ih : x.f0.f1 ≤ w1 → Ev (fun k => line_Check.l0 k l l (l.length : Int) ((i + 1 : Nat) : Int) w0 w1) (ec (chkB w1 (some x) r)) := fun hx1 => by
      have := chk_l l hw hl w0 w1 hw1 r (i + 1) (dnext hd) (fun q hq => by rw [hp] at hq; cases hq; exact hx1)
      rwa [hp] at this
    refine Ev.succ ?_
    simp only [line_Check.l0, rdV hd]
    refine Ev.pos (by omega) (Ev.pos (by omega) (Ev.pos (by omega) ?_))
    rw [right_some]
    simp only [Option.bind_some, chkB]
    by_cases h1 : rightB x.f1 = true
    · refine Ev.pos h1 ?_
      by_cases h2 : x.f0.f1 < x.f0.f0
      · have e : stepB w1 (prevOf l i) x = false := by unfold stepB; rw [decide_eq_false (show ¬ x.f0.f0 ≤ x.f0.f1 by omega)]; simp
        rw [e]
        exact Ev.pos h2 (j2_no ..)
      · refine Ev.neg h2 ?_
        by_cases h3 : x.f0.f1 > w1
        · have e : stepB w1 (prevOf l i) x = false := by unfold stepB; rw [decide_eq_false (show ¬ x.f0.f1 ≤ w1 by omega)]; simp
          rw [e, decide_eq_true h3]
          exact j2_no ..
        · rw [decide_eq_false h3]
          refine Ev.succ ?_
          simp only [line_Check.j2]
          refine Ev.neg (by simp) ?_
          by_cases h4 : (i : Int) > 0
          · refine Ev.pos h4 ?_
            obtain ⟨q, hq⟩ : ∃ q, l[i - 1]? = some q := ⟨_, List.getElem?_eq_getElem (by omega)⟩
            have hpq : prevOf l i = some q := by unfold prevOf; rw [if_neg (by omega)]; exact hq
            have hqb := hw q (List.mem_of_getElem? hq)
            unfold bndE at hqb
            have hrd : rd_T34 l (wrap64 ((i : Int) - 1)) = q := by
              rw [w64 (by omega) (by omega), show ((i : Int) - 1) = ((i - 1 : Nat) : Int) by omega]
              simp [rd_T34, List.getD_eq_getElem?_getD, hq]
            rw [hpq, hrd]
            refine Ev.pos (by rw [w64 (by omega) (by omega)]; omega) (Ev.pos (by rw [w64 (by omega) (by omega)]; omega) ?_)
            have hs : stepB w1 (some q) x = (decide (x.f0.f0 - 1 = q.f0.f1) && !(x.f1.f0 == q.f1.f0 && x.f1.f1 == q.f1.f1)) := by
              unfold stepB
              rw [h1, decide_eq_true (show x.f0.f0 ≤ x.f0.f1 by omega), decide_eq_true (show x.f0.f1 ≤ w1 by omega)]
              simp
            rw [hs]
            by_cases h5 : x.f0.f0 - 1 = q.f0.f1
            · refine Ev.pos (by rw [w64 (by omega) (by omega)]; exact h5) ?_
              rw [decide_eq_true h5]
              by_cases h6 : (x.f1.f0 == q.f1.f0 && x.f1.f1 == q.f1.f1) = true
              · rw [h6]
                exact Ev.pos rfl (Ev.const rfl)
              · refine Ev.neg h6 ?_
                rw [Bool.eq_false_iff.2 h6, w64 (by omega) (by omega), show ((i : Int) + 1) = ((i + 1 : Nat) : Int) by omega]
                exact ih (by omega)
            · rw [decide_eq_false h5]
              refine Ev.neg (fun hh => ?_) (Ev.const rfl)
              rcases Int.lt_or_le x.f0.f0 (-9223372036854775807) with hm | hm
              · have e1 : x.f0.f0 = -9223372036854775808 := by omega
                rw [e1] at hh
                have e2 : wrap64 (-9223372036854775808 - 1) = 9223372036854775807 := by unfold wrap64; omega
                rw [e2] at hh
                have := hpv q hpq
                omega
              · rw [w64 (by omega) (by omega)] at hh
                exact h5 hh
          · refine Ev.neg h4 ?_
            obtain rfl : i = 0 := by omega
            have hs : stepB w1 (prevOf l 0) x = true := by
              unfold stepB prevOf
              rw [h1, decide_eq_true (show x.f0.f0 ≤ x.f0.f1 by omega), decide_eq_true (show x.f0.f1 ≤ w1 by omega)]
              rfl
            rw [hs, w64 (by omega) (by omega)]
            exact ih (by omega)
    · refine Ev.neg h1 ?_
      have e : stepB w1 (prevOf l i) x = false := by unfold stepB; rw [Bool.eq_false_iff.2 h1]; simp
      rw [e]
      exact j2_no ..
def lineB (w0 w1 : Int) (l : List Er) : Bool := decide (winP w0 w1) && decide (0 < l.length) && decide (l.length ≤ 1024) && decide ((rd_T34 l 0).f0.f0 = w0) && decide ((rd_T34 l ((l.length - 1 : Nat) : Int)).f0.f1 = w1) && chkB w1 none l
theorem j0_no (l : List Er) (a b : Int) : Ev (fun k => line_Check.j0 k l true a b) 2 := by
  refine Ev.succ ?_
  simp only [line_Check.j0]
  exact Ev.pos trivial (Ev.const rfl)
theorem check_ev (l : List Er) (hw : ∀ x ∈ l, bndE x) (w0 w1 : Int) : Ev (fun k => line_Check.f k w0 w1 l) (ec (lineB w0 w1 l)) := by
  simp only [line_Check.f]
  refine Ev.bind (win_ev w0 w1) ?_
  by_cases c0 : winP w0 w1
  case neg =>
    have e : lineB w0 w1 l = false := by unfold lineB; rw [decide_eq_false c0]; simp
    rw [e, decide_eq_false c0]
    exact Ev.neg (by simp) (j0_no ..)
  rw [decide_eq_true c0]
  refine Ev.pos rfl ?_
  by_cases c1 : l.length = 0
  · have e : lineB w0 w1 l = false := by unfold lineB; rw [decide_eq_false (show ¬ 0 < l.length by omega)]; simp
    rw [e]
    exact Ev.pos (by omega) (j0_no ..)
  refine Ev.neg (by omega) ?_
  by_cases c2 : l.length ≤ 1024
  case neg =>
    have e : lineB w0 w1 l = false := by unfold lineB; rw [decide_eq_false c2]; simp
    rw [e]
    exact Ev.pos (by omega) (j0_no ..)
  refine Ev.neg (by omega) (Ev.pos (by omega) ?_)
  by_cases c3 : (rd_T34 l 0).f0.f0 = w0
  case neg =>
    have e : lineB w0 w1 l = false := by unfold lineB; rw [decide_eq_false c3]; simp
    rw [e]
    exact Ev.neg c3 (j0_no ..)
  refine Ev.pos c3 ?_
  rw [w64 (by omega) (by omega), show ((l.length : Int) - 1) = ((l.length - 1 : Nat) : Int) by omega]
  refine Ev.pos (by omega) (Ev.pos (by omega) ?_)
  by_cases c4 : (rd_T34 l ((l.length - 1 : Nat) : Int)).f0.f1 = w1
  case neg =>
    have e : lineB w0 w1 l = false := by unfold lineB; rw [decide_eq_false c4]; simp
    rw [e, bne_iff_ne.mpr c4]
    exact j0_no ..
  have e : lineB w0 w1 l = chkB w1 none l := by
    unfold lineB
    rw [decide_eq_true c0, decide_eq_true (show 0 < l.length by omega), decide_eq_true c2, decide_eq_true c3, decide_eq_true c4]
    simp
  rw [e, c4, bne_self_eq_false]
  refine Ev.succ ?_
  simp only [line_Check.j0]
  refine Ev.neg (by simp) ?_
  exact chk_l l hw c2 w0 w1 (by unfold winP at c0; omega) l 0 rfl (fun q hq => by simp [prevOf] at hq)
def cont : Int → List Er → Option Int
  | f, [] => some f
  | f, x :: xs => if x.f0.f0 = f ∧ f ≤ x.f0.f1 ∧ rightB x.f1 = true then cont (x.f0.f1 + 1) xs else none
def sameV (a b : Vd) : Prop := a.f0 = b.f0 ∧ a.f1 = b.f1
theorem sameV_eq {a b : Vd} (h : sameV a b) : a = b := by
  obtain ⟨h1, h2⟩ := h
  cases a; cases b
  simp only at h1 h2
  rw [h1, h2]
def alt : Option Vd → List Er → Prop
  | _, [] => True
  | none, x :: xs => alt (some x.f1) xs
  | some v, x :: xs => ¬ sameV x.f1 v ∧ alt (some x.f1) xs
def val (t : Int) : List Er → Vd
  | [] => ⟨0, 0⟩
  | x :: xs => if t ≤ x.f0.f1 then x.f1 else val t xs
theorem cont_le : ∀ (l : List Er) (f a : Int), cont f l = some a → f ≤ a
  | [], f, a, h => by
    obtain rfl := Option.some.inj h
    omega
  | x :: xs, f, a, h => by
    unfold cont at h
    by_cases c : x.f0.f0 = f ∧ f ≤ x.f0.f1 ∧ rightB x.f1 = true
    · rw [if_pos c] at h
      have := cont_le xs _ a h
      omega
    · rw [if_neg c] at h
      cases h
theorem cont_snoc : ∀ (l : List Er) (f a : Int) (x : Er), cont f l = some a → cont f (l ++ [x]) = if x.f0.f0 = a ∧ a ≤ x.f0.f1 ∧ rightB x.f1 = true then some (x.f0.f1 + 1) else none
  | [], f, a, x, h => by
    obtain rfl := Option.some.inj h
    rfl
  | y :: ys, f, a, x, h => by
    unfold cont at h
    by_cases c : y.f0.f0 = f ∧ f ≤ y.f0.f1 ∧ rightB y.f1 = true
    · rw [if_pos c] at h
      rw [List.cons_append]
      unfold cont
      rw [if_pos c]
      exact cont_snoc ys _ a x h
    · rw [if_neg c] at h
      cases h
theorem cont_init : ∀ (l : List Er) (f a : Int) (x : Er), cont f (l ++ [x]) = some a → ∃ b, cont f l = some b ∧ x.f0.f0 = b ∧ b ≤ x.f0.f1 ∧ rightB x.f1 = true ∧ a = x.f0.f1 + 1
  | [], f, a, x, h => by
    simp only [List.nil_append, cont] at h
    by_cases c : x.f0.f0 = f ∧ f ≤ x.f0.f1 ∧ rightB x.f1 = true
    · rw [if_pos c] at h
      exact ⟨f, rfl, c.1, c.2.1, c.2.2, (Option.some.inj h).symm⟩
    · rw [if_neg c] at h
      cases h
  | y :: ys, f, a, x, h => by
    rw [List.cons_append] at h
    unfold cont at h
    by_cases c : y.f0.f0 = f ∧ f ≤ y.f0.f1 ∧ rightB y.f1 = true
    · rw [if_pos c] at h
      obtain ⟨b, h1, h2⟩ := cont_init ys _ a x h
      refine ⟨b, ?_, h2⟩
      unfold cont
      rw [if_pos c]
      exact h1
    · rw [if_neg c] at h
      cases h
theorem val_snoc (t : Int) : ∀ (l : List Er) (f a : Int) (x : Er), cont f l = some a → f ≤ t → val t (l ++ [x]) = if t < a then val t l else if t ≤ x.f0.f1 then x.f1 else ⟨0, 0⟩
  | [], f, a, x, h, hf => by
    obtain rfl := Option.some.inj h
    rw [if_neg (by omega)]
    rfl
  | y :: ys, f, a, x, h, hf => by
    unfold cont at h
    by_cases c : y.f0.f0 = f ∧ f ≤ y.f0.f1 ∧ rightB y.f1 = true
    · rw [if_pos c] at h
      have hle := cont_le _ _ _ h
      rw [List.cons_append]
      simp only [val]
      by_cases ct : t ≤ y.f0.f1
      · rw [if_pos ct, if_pos (by omega), if_pos ct]
      · rw [if_neg ct, if_neg ct]
        exact val_snoc t ys _ a x h (by omega)
    · rw [if_neg c] at h
      cases h
theorem alt_snoc : ∀ (l : List Er) (p : Option Vd) (x : Er), alt p (l ++ [x]) ↔ alt p l ∧ (∀ v, (l.getLast?.map (·.f1)).or p = some v → ¬ sameV x.f1 v)
  | [], none, x => by simp [alt]
  | [], some v, x => by simp [alt]
  | y :: ys, p, x => by
    have ih := alt_snoc ys (some y.f1) x
    have e : (((y :: ys).getLast?).map (·.f1)).or p = ((ys.getLast?).map (·.f1)).or (some y.f1) := by
      cases ys with
      | nil => simp
      | cons z zs => rw [List.getLast?_cons_cons]; cases h : (z :: zs).getLast? with
        | none => simp at h
        | some u => simp
    rw [e, List.cons_append]
    cases p with
    | none => simp only [alt]; exact ih
    | some v => simp only [alt]; rw [ih, and_assoc]
structure LineOk (w0 w1 : Int) (l : List Er) : Prop where
  win : winP w0 w1
  ne : l ≠ []
  len : l.length ≤ 1024
  cont : cont w0 l = some (w1 + 1)
  alt : alt none l
def afterE : Option Er → Int → Prop
  | none, _ => True
  | some q, f => f = q.f0.f1 + 1
theorem chk_iff (w1 : Int) : ∀ (l : List Er) (p : Option Er), chkB w1 p l = true ↔
    (l = [] ∨ ∃ x xs a, l = x :: xs ∧ afterE p x.f0.f0 ∧ cont x.f0.f0 l = some a ∧ alt (p.map (·.f1)) l ∧ a ≤ w1 + 1)
  | [], p => by simp [chkB]
  | x :: xs, p => by
    have ih := chk_iff w1 xs (some x)
    have e1 : cont x.f0.f0 (x :: xs) = if x.f0.f0 ≤ x.f0.f1 ∧ rightB x.f1 = true then cont (x.f0.f1 + 1) xs else none := by
      show (if x.f0.f0 = x.f0.f0 ∧ x.f0.f0 ≤ x.f0.f1 ∧ rightB x.f1 = true then cont (x.f0.f1 + 1) xs else none) = _
      simp
    simp only [chkB, Bool.and_eq_true, ih]
    constructor
    · rintro ⟨hs, hr⟩
      right
      unfold stepB at hs
      simp only [Bool.and_eq_true, decide_eq_true_eq] at hs
      obtain ⟨⟨⟨h1, h2⟩, h3⟩, h4⟩ := hs
      have hp : afterE p x.f0.f0 ∧ ∀ v, p.map (·.f1) = some v → ¬ sameV x.f1 v := by
        cases p with
        | none => exact ⟨trivial, fun v hv => by cases hv⟩
        | some q =>
          simp only [Bool.and_eq_true, decide_eq_true_eq, Bool.not_eq_true', Bool.and_eq_false_iff, beq_eq_false_iff_ne] at h4
          refine ⟨show x.f0.f0 = q.f0.f1 + 1 by omega, fun v hv => ?_⟩
          obtain rfl : q.f1 = v := Option.some.inj hv
          rintro ⟨g1, g2⟩
          rcases h4.2 with h | h
          · exact h g1
          · exact h g2
      have halt : ∀ ys, alt (some x.f1) ys → alt (p.map (·.f1)) (x :: ys) := fun ys hy => by
        cases hpm : p.map (·.f1) with
        | none => exact hy
        | some v => exact ⟨hp.2 v hpm, hy⟩
      rcases hr with rfl | ⟨y, ys, a, rfl, hy1, hy2, hy3, hy4⟩
      · exact ⟨x, [], x.f0.f1 + 1, rfl, hp.1, by rw [e1, if_pos ⟨h2, h1⟩]; rfl, halt _ trivial, by omega⟩
      · have hy1' : y.f0.f0 = x.f0.f1 + 1 := hy1
        exact ⟨x, y :: ys, a, rfl, hp.1, by rw [e1, if_pos ⟨h2, h1⟩, ← hy1']; exact hy2, halt _ hy3, hy4⟩
    · rintro (h | ⟨x', xs', a, h, hp, hc, ha, hle⟩)
      · cases h
      · obtain ⟨rfl, rfl⟩ := List.cons.inj h
        rw [e1] at hc
        by_cases c : x.f0.f0 ≤ x.f0.f1 ∧ rightB x.f1 = true
        case neg => rw [if_neg c] at hc; cases hc
        rw [if_pos c] at hc
        have h5 := cont_le _ _ _ hc
        have hsp : ∀ q, p = some q → x.f0.f0 - 1 = q.f0.f1 ∧ ¬ sameV x.f1 q.f1 := fun q hq => by
          subst hq
          have h6 : x.f0.f0 = q.f0.f1 + 1 := hp
          exact ⟨by omega, ha.1⟩
        have haxs : alt (some x.f1) xs := by
          cases p with
          | none => exact ha
          | some q => exact ha.2
        constructor
        · unfold stepB
          rw [c.2, decide_eq_true c.1, decide_eq_true (show x.f0.f1 ≤ w1 by omega)]
          cases p with
          | none => rfl
          | some q =>
            obtain ⟨h7, h8⟩ := hsp q rfl
            simp only [decide_eq_true h7, Bool.true_and, Bool.and_true, Bool.not_eq_true', Bool.and_eq_false_iff, beq_eq_false_iff_ne]
            by_cases g : x.f1.f0 = q.f1.f0
            · exact .inr (fun g2 => h8 ⟨g, g2⟩)
            · exact .inl g
        · cases xs with
          | nil => exact .inl rfl
          | cons y ys =>
            right
            have hy : y.f0.f0 = x.f0.f1 + 1 := by
              unfold cont at hc
              by_cases d : y.f0.f0 = x.f0.f1 + 1 ∧ x.f0.f1 + 1 ≤ y.f0.f1 ∧ rightB y.f1 = true
              · exact d.1
              · rw [if_neg d] at hc; cases hc
            exact ⟨y, ys, a, rfl, hy, by rw [hy]; exact hc, haxs, hle⟩
theorem cont_last : ∀ (l : List Er) (f a : Int) (x : Er), cont f l = some a → l.getLast? = some x → a = x.f0.f1 + 1 := by
  intro l f a x h hx
  obtain ⟨l', rfl⟩ := List.getLast?_eq_some_iff.1 hx
  obtain ⟨b, _, _, _, _, e⟩ := cont_init l' f a x h
  exact e
theorem rd_last (l : List Er) (h : l ≠ []) : l.getLast? = some (rd_T34 l ((l.length - 1 : Nat) : Int)) := by
  have hl : l.length - 1 < l.length := by have := List.length_pos_iff.2 h; omega
  rw [List.getLast?_eq_getElem?, List.getElem?_eq_getElem hl]
  simp [rd_T34, List.getD_eq_getElem?_getD, hl]
theorem line_iff (w0 w1 : Int) (l : List Er) : lineB w0 w1 l = true ↔ LineOk w0 w1 l := by
  unfold lineB
  simp only [Bool.and_eq_true, decide_eq_true_eq]
  constructor
  · rintro ⟨⟨⟨⟨⟨h1, h2⟩, h3⟩, h4⟩, h5⟩, h6⟩
    have hne : l ≠ [] := fun e => by subst e; cases h2
    rcases (chk_iff w1 l none).1 h6 with h | ⟨x, xs, a, rfl, _, hc, ha, _⟩
    · exact absurd h hne
    · have e4 : x.f0.f0 = w0 := h4
      rw [e4] at hc
      have := cont_last _ _ _ _ hc (rd_last _ hne)
      rw [h5] at this
      subst this
      exact ⟨h1, hne, h3, hc, ha⟩
  · rintro ⟨h1, h2, h3, h4, h5⟩
    have hlast := cont_last _ _ _ _ h4 (rd_last _ h2)
    have hlen := List.length_pos_iff.2 h2
    cases l with
    | nil => exact absurd rfl h2
    | cons x xs =>
      have e4 : x.f0.f0 = w0 := by
        unfold cont at h4
        by_cases d : x.f0.f0 = w0 ∧ w0 ≤ x.f0.f1 ∧ rightB x.f1 = true
        · exact d.1
        · rw [if_neg d] at h4; cases h4
      refine ⟨⟨⟨⟨⟨h1, hlen⟩, h3⟩, e4⟩, by omega⟩, (chk_iff w1 _ none).2 (.inr ⟨x, xs, w1 + 1, rfl, trivial, ?_, h5, Int.le_refl _⟩)⟩
      rw [e4]
      exact h4
theorem snoc_of {α : Type} {l : List α} (h : l ≠ []) : ∃ i x, l = i ++ [x] := ⟨l.dropLast, l.getLast h, (List.dropLast_concat_getLast h).symm⟩
theorem put_ok' (O O' : List Er) (w0 a z : Int) (v : Vd) (h : (∃ i l, O = i ++ [l] ∧ sameV l.f1 v ∧ O' = i ++ [⟨⟨l.f0.f0, z⟩, l.f1⟩]) ∨ ((∀ u, O.getLast?.map (·.f1) = some u → ¬ sameV v u) ∧ O' = O ++ [⟨⟨a, z⟩, v⟩]))
    (hc : cont w0 O = some a) (ha : alt none O) (hz : a ≤ z) (hv : rightB v = true) :
    cont w0 O' = some (z + 1) ∧ alt none O' ∧ O' ≠ [] ∧ ∀ t, w0 ≤ t → t ≤ z → val t O' = if t < a then val t O else v := by
  rcases h with ⟨i, l, e1, e2, e3⟩ | ⟨e1, e2⟩
  · rw [e3]
    rw [e1] at hc ha ⊢
    obtain ⟨b, h1, h2, h3, h4, h5⟩ := cont_init _ _ _ _ hc
    obtain ⟨g1, g2⟩ := (alt_snoc i none l).1 ha
    refine ⟨?_, (alt_snoc i none _).2 ⟨g1, g2⟩, by simp, fun t ht0 ht => ?_⟩
    · rw [cont_snoc _ _ _ _ h1, if_pos ⟨h2, show b ≤ z by omega, h4⟩]
    · rw [val_snoc t _ _ _ _ h1 ht0, val_snoc t _ _ _ _ h1 ht0]
      show (if t < b then val t i else if t ≤ z then l.f1 else ⟨0, 0⟩) = _
      by_cases c1 : t < a
      · rw [if_pos c1]
        by_cases c2 : t < b
        · rw [if_pos c2, if_pos c2]
        · rw [if_neg c2, if_neg c2, if_pos ht, if_pos (by omega)]
      · rw [if_neg c1, if_neg (by omega), if_pos ht]
        exact sameV_eq e2
  · rw [e2]
    refine ⟨?_, (alt_snoc _ none _).2 ⟨ha, fun u hu => e1 u (by simpa using hu)⟩, by simp, fun t ht0 ht => ?_⟩
    · rw [cont_snoc _ _ _ _ hc]
      exact if_pos ⟨rfl, hz, hv⟩
    · rw [val_snoc t _ _ _ _ hc ht0]
      by_cases c1 : t < a
      · rw [if_pos c1, if_pos c1]
      · rw [if_neg c1, if_neg c1]
        exact if_pos ht
theorem cont_bnd : ∀ (l : List Er) (f a : Int), cont f l = some a → ∀ x ∈ l, f ≤ x.f0.f0 ∧ x.f0.f0 ≤ x.f0.f1 ∧ x.f0.f1 < a
  | [], f, a, h, x, hx => by cases hx
  | y :: ys, f, a, h, x, hx => by
    unfold cont at h
    by_cases c : y.f0.f0 = f ∧ f ≤ y.f0.f1 ∧ rightB y.f1 = true
    · rw [if_pos c] at h
      have hle := cont_le _ _ _ h
      rcases List.mem_cons.1 hx with rfl | hx
      · omega
      · have := cont_bnd ys _ a h x hx
        omega
    · rw [if_neg c] at h; cases h
theorem LineOk.bnd {w0 w1 : Int} {l : List Er} (h : LineOk w0 w1 l) : ∀ x ∈ l, bndE x := fun x hx => by
  have := cont_bnd l _ _ h.cont x hx
  have hw := h.win
  unfold winP at hw
  unfold bndE
  omega
def inI (t : Int) (x : Iv) : Bool := if x.f0 ≤ t then decide (t ≤ x.f1) else false
abbrev Pb := S61
def bv (b : Bool) : Vd := ⟨if b = true then 1 else 2, 0⟩
def erB (p : Pb) : Er := ⟨p.f0, bv p.f1⟩
theorem bv_right (b : Bool) : rightB (bv b) = true := by cases b <;> rfl
theorem bv_same (a b : Bool) : sameV (bv a) (bv b) ↔ a = b := by cases a <;> cases b <;> simp [sameV, bv]
theorem rd_snocB (init : List Pb) (l : Pb) : rd_T61 (init ++ [l]) (((init ++ [l]).length - 1 : Nat) : Int) = l := by
  simp [rd_T61, List.getD_eq_getElem?_getD]
theorem addB_map (out : List Pb) (x : Pb) :
    (∃ i l, out.map erB = i ++ [l] ∧ sameV l.f1 (bv x.f1) ∧ (addB out x).map erB = i ++ [⟨⟨l.f0.f0, x.f0.f1⟩, l.f1⟩]) ∨
    ((∀ v, (out.map erB).getLast?.map (·.f1) = some v → ¬ sameV (bv x.f1) v) ∧ (addB out x).map erB = out.map erB ++ [erB x]) := by
  by_cases hn : out = []
  · subst hn
    right
    exact ⟨fun v hv => by simp at hv, by simp [addB]⟩
  · obtain ⟨i, l, rfl⟩ := snoc_of hn
    unfold addB
    rw [rd_snocB]
    by_cases c : l.f1 = x.f1
    · left
      refine ⟨i.map erB, erB l, by simp, (bv_same _ _).2 c, ?_⟩
      rw [if_pos ⟨by simp, c⟩]
      have e : (i ++ [l]).set ((i ++ [l]).length - 1) (⟨⟨l.f0.f0, x.f0.f1⟩, l.f1⟩ : Pb) = i ++ [⟨⟨l.f0.f0, x.f0.f1⟩, l.f1⟩] := by
        rw [List.length_append, List.length_singleton, Nat.add_sub_cancel, List.set_append_right _ _ (Nat.le_refl _), Nat.sub_self]
        rfl
      rw [e]
      simp [erB]
    · right
      rw [if_neg (fun h => c h.2)]
      refine ⟨fun v hv => ?_, by simp⟩
      simp only [List.map_append, List.map_cons, List.map_nil, List.getLast?_append, List.getLast?_singleton, Option.some_or, Option.map_some] at hv
      obtain rfl := Option.some.inj hv
      exact fun h => c ((bv_same _ _).1 h).symm
def contP : Int → List (PcV × PcV) → Option Int
  | p, [] => some p
  | p, x :: xs => if mxf x = p ∧ p ≤ mnt x then contP (mnt x + 1) xs else none
def valP (t : Int) : List (PcV × PcV) → Bool
  | [] => false
  | x :: xs => if t ≤ mnt x then (ofPair x).f1 else valP t xs
theorem fold_ok (w0 : Int) : ∀ (ps : List (PcV × PcV)) (p e : Int) (out : List Pb), contP p ps = some e → cont w0 (out.map erB) = some p → alt none (out.map erB) →
    cont w0 ((ps.foldl putP out).map erB) = some e ∧ alt none ((ps.foldl putP out).map erB) ∧ p ≤ e ∧ ∀ t, w0 ≤ t → t < e → val t ((ps.foldl putP out).map erB) = if t < p then val t (out.map erB) else bv (valP t ps)
  | [], p, e, out, h, hc, ha => by
    obtain rfl := Option.some.inj h
    exact ⟨hc, ha, Int.le_refl _, fun t t0 t1 => by rw [if_pos t1]; rfl⟩
  | x :: xs, p, e, out, h, hc, ha => by
    unfold contP at h
    by_cases c : mxf x = p ∧ p ≤ mnt x
    case neg => rw [if_neg c] at h; cases h
    rw [if_pos c] at h
    obtain ⟨c1, c2⟩ := c
    have hm := addB_map out (ofPair x)
    have e1 : erB (ofPair x) = (⟨⟨p, mnt x⟩, bv (ofPair x).f1⟩ : Er) := by rw [← c1]; rfl
    rw [e1] at hm
    obtain ⟨p1, p2, p3, p4⟩ := put_ok' (out.map erB) ((addB out (ofPair x)).map erB) w0 p (mnt x) (bv (ofPair x).f1) hm hc ha c2 (bv_right _)
    obtain ⟨i1, i2, i3, i4⟩ := fold_ok w0 xs (mnt x + 1) e (putP out x) h p1 p2
    refine ⟨i1, i2, by omega, fun t t0 t1 => ?_⟩
    rw [List.foldl_cons, i4 t t0 t1]
    simp only [valP]
    by_cases d : t < mnt x + 1
    · rw [if_pos d]
      have := p4 t t0 (by omega)
      rw [show (putP out x).map erB = (addB out (ofPair x)).map erB from rfl, this]
      by_cases d2 : t < p
      · rw [if_pos d2, if_pos d2]
      · rw [if_neg d2, if_neg d2, if_pos (by omega)]
    · rw [if_neg d, if_neg (by omega), if_neg (by omega)]
def Stand (p e : Int) : List PcV → List PcV → Prop
  | [], [] => p = e
  | x :: xs, y :: ys => mxf (x, y) = p ∧ p ≤ x.f0.f1 ∧ p ≤ y.f0.f1 ∧ cont (x.f0.f1 + 1) (xs.map eraOf) = some e ∧ cont (y.f0.f1 + 1) (ys.map eraOf) = some e
  | _, _ => False
theorem mxf_of {x y : PcV} {p : Int} (h1 : x.f0.f0 ≤ p) (h2 : y.f0.f0 ≤ p) (h : x.f0.f0 = p ∨ y.f0.f0 = p) : mxf (x, y) = p := by
  show (if x.f0.f0 < y.f0.f0 then y.f0.f0 else x.f0.f0) = p
  split <;> omega
theorem mxf_le {x y : PcV} {p : Int} (h : mxf (x, y) = p) : x.f0.f0 ≤ p ∧ y.f0.f0 ≤ p := by
  have h' : (if x.f0.f0 < y.f0.f0 then y.f0.f0 else x.f0.f0) = p := h
  split at h' <;> omega
theorem cont_head {x : Er} {xs : List Er} {f e : Int} (h : cont f (x :: xs) = some e) : x.f0.f0 = f ∧ f ≤ x.f0.f1 ∧ cont (x.f0.f1 + 1) xs = some e := by
  unfold cont at h
  by_cases c : x.f0.f0 = f ∧ f ≤ x.f0.f1 ∧ rightB x.f1 = true
  · rw [if_pos c] at h
    exact ⟨c.1, c.2.1, h⟩
  · rw [if_neg c] at h; cases h
def neqV (a b : Vd) : Bool := (!a.f0 == b.f0 || !a.f1 == b.f1)
theorem both_ok (e : Int) : ∀ (n : Nat) (a b : List PcV) (p : Int), a.length + b.length ≤ n → Stand p e a b →
    contP p (bothL n a b) = some e ∧ ∀ t, p ≤ t → t < e → valP t (bothL n a b) = neqV (val t (a.map eraOf)) (val t (b.map eraOf))
  | n, [], [], p, hn, h => by
    have h' : p = e := h
    subst h'
    rw [bothL_nl]
    exact ⟨rfl, fun t t0 t1 => by omega⟩
  | n, [], y :: ys, p, hn, h => h.elim
  | n, x :: xs, [], p, hn, h => h.elim
  | 0, x :: xs, y :: ys, p, hn, h => by simp at hn
  | n + 1, x :: xs, y :: ys, p, hn, h => by
    obtain ⟨h1, h2, h3, h4, h5⟩ := h
    obtain ⟨l1, l2⟩ := mxf_le h1
    have hx := cont_le _ _ _ h4
    have hy := cont_le _ _ _ h5
    rw [bothL_cons]
    have em : mnt (x, y) = if y.f0.f1 < x.f0.f1 then y.f0.f1 else x.f0.f1 := rfl
    rw [← em]
    simp only [List.length_cons] at hn
    have fin : ∀ (a' b' : List PcV), a'.length + b'.length ≤ n → Stand (mnt (x, y) + 1) e a' b' → p ≤ mnt (x, y) →
        (∀ t, mnt (x, y) < t → val t ((x :: xs).map eraOf) = val t (a'.map eraOf)) → (∀ t, mnt (x, y) < t → val t ((y :: ys).map eraOf) = val t (b'.map eraOf)) → mnt (x, y) ≤ x.f0.f1 → mnt (x, y) ≤ y.f0.f1 →
        contP p ((x, y) :: bothL n a' b') = some e ∧ ∀ t, p ≤ t → t < e → valP t ((x, y) :: bothL n a' b') = neqV (val t ((x :: xs).map eraOf)) (val t ((y :: ys).map eraOf)) := by
      intro a' b' hl hs hp ha hb hmx hmy
      obtain ⟨i1, i2⟩ := both_ok e n a' b' (mnt (x, y) + 1) hl hs
      refine ⟨?_, fun t t0 t1 => ?_⟩
      · rw [← i1]
        exact if_pos ⟨h1, hp⟩
      · simp only [valP]
        by_cases d : t ≤ mnt (x, y)
        · rw [if_pos d]
          have ex : val t ((x :: xs).map eraOf) = x.f1 := by
            show (if t ≤ x.f0.f1 then x.f1 else _) = _
            exact if_pos (by omega)
          have ey : val t ((y :: ys).map eraOf) = y.f1 := by
            show (if t ≤ y.f0.f1 then y.f1 else _) = _
            exact if_pos (by omega)
          rw [ex, ey]
          rfl
        · rw [if_neg d, i2 t (by omega) t1, ha t (by omega), hb t (by omega)]
    have vx : ∀ t, x.f0.f1 < t → val t ((x :: xs).map eraOf) = val t (xs.map eraOf) := fun t ht => by
      show (if t ≤ x.f0.f1 then x.f1 else _) = _
      exact if_neg (by omega)
    have vy : ∀ t, y.f0.f1 < t → val t ((y :: ys).map eraOf) = val t (ys.map eraOf) := fun t ht => by
      show (if t ≤ y.f0.f1 then y.f1 else _) = _
      exact if_neg (by omega)
    rcases Int.lt_trichotomy x.f0.f1 y.f0.f1 with g | g | g
    · have e2 : mnt (x, y) = x.f0.f1 := by rw [em, if_neg (by omega)]
      rw [e2] at fin ⊢
      rw [if_pos rfl, if_neg (by omega)]
      refine fin xs (y :: ys) (by simp only [List.length_cons]; omega) ?_ h2 vx (fun t _ => rfl) (Int.le_refl _) (by omega)
      cases xs with
      | nil =>
        have := Option.some.inj h4
        omega
      | cons z zs =>
        obtain ⟨k1, k2, k3⟩ := cont_head h4
        exact ⟨mxf_of (by show z.f0.f0 ≤ _; have : z.f0.f0 = _ := k1; omega) (by omega) (.inl k1), k2, by omega, k3, h5⟩
    · have e2 : mnt (x, y) = x.f0.f1 := by rw [em, if_neg (by omega)]
      rw [e2] at fin ⊢
      rw [if_pos rfl, if_pos g.symm]
      refine fin xs ys (by omega) ?_ h2 vx (fun t ht => vy t (by omega)) (Int.le_refl _) (by omega)
      cases xs with
      | nil =>
        have q1 := Option.some.inj h4
        cases ys with
        | nil => exact q1
        | cons z zs =>
          obtain ⟨k1, k2, k3⟩ := cont_head h5
          have := cont_le _ _ _ k3
          have k2' : y.f0.f1 + 1 ≤ (eraOf z).f0.f1 := k2
          omega
      | cons u us =>
        obtain ⟨k1, k2, k3⟩ := cont_head h4
        cases ys with
        | nil =>
          have q1 := Option.some.inj h5
          have := cont_le _ _ _ k3
          omega
        | cons z zs =>
          obtain ⟨m1, m2, m3⟩ := cont_head h5
          have k1' : u.f0.f0 = x.f0.f1 + 1 := k1
          have m1' : z.f0.f0 = y.f0.f1 + 1 := m1
          exact ⟨mxf_of (by omega) (by omega) (.inl k1'), k2, by rw [g]; exact m2, k3, m3⟩
    · have e2 : mnt (x, y) = y.f0.f1 := by rw [em, if_pos g]
      rw [e2] at fin ⊢
      rw [if_neg (by omega), if_pos rfl]
      refine fin (x :: xs) ys (by simp only [List.length_cons]; omega) ?_ h3 (fun t _ => rfl) vy (by omega) (Int.le_refl _)
      cases ys with
      | nil =>
        have := Option.some.inj h5
        omega
      | cons z zs =>
        obtain ⟨k1, k2, k3⟩ := cont_head h5
        have k1' : z.f0.f0 = y.f0.f1 + 1 := k1
        exact ⟨mxf_of (by omega) (by omega) (.inr k1'), by omega, k2, h4, k3⟩
theorem held_sound : ∀ (out : List Pb) (a e : Int) (pv : Option Vd) (u : Option Int), cont a (out.map erB) = some e → 0 ≤ a → e ≤ 1099511627777 → alt pv (out.map erB) →
    (∀ z, u = some z → z + 1 ≤ a ∧ (z + 1 = a → pv = some (bv true))) → soundL u ((out.filterMap heldB).map runOf) = true
  | [], a, e, pv, u, h, h0, he, ha, hu => by cases u <;> rfl
  | x :: xs, a, e, pv, u, h, h0, he, ha, hu => by
    obtain ⟨k1, k2, k3⟩ := cont_head h
    have k1' : x.f0.f0 = a := k1
    have k2' : a ≤ x.f0.f1 := k2
    have k3' : cont (x.f0.f1 + 1) (xs.map erB) = some e := k3
    have hle := cont_le _ _ _ k3'
    have haxs : alt (some (bv x.f1)) (xs.map erB) := by
      cases pv with
      | none => exact ha
      | some v => exact ha.2
    by_cases hx : x.f1 = true
    · have e1 : heldB x = some x.f0 := if_pos hx
      rw [List.filterMap_cons, e1]
      have ih := held_sound xs (x.f0.f1 + 1) e (some (bv x.f1)) (some x.f0.f1) k3' (by omega) he haxs (fun z hz => by
        obtain rfl := Option.some.inj hz
        exact ⟨Int.le_refl _, fun _ => by rw [hx]⟩)
      have hs : ¬ ((runOf x.f0).f0 < 0 ∨ (runOf x.f0).f1 < (runOf x.f0).f0 ∨ 1099511627776 < (runOf x.f0).f1) := by
        show ¬ (x.f0.f0 < 0 ∨ x.f0.f1 < x.f0.f0 ∨ 1099511627776 < x.f0.f1)
        omega
      cases u with
      | none =>
        show (if (runOf x.f0).f0 < 0 ∨ (runOf x.f0).f1 < (runOf x.f0).f0 ∨ 1099511627776 < (runOf x.f0).f1 then false else soundL (some (runOf x.f0).f1) _) = true
        rw [if_neg hs]
        exact ih
      | some z =>
        obtain ⟨g1, g2⟩ := hu z rfl
        have g3 : z + 1 ≠ a := fun hz => by
          have hp := g2 hz
          subst hp
          have h5 : ¬ sameV (bv x.f1) (bv true) := ha.1
          rw [hx] at h5
          exact h5 ⟨rfl, rfl⟩
        show (if (runOf x.f0).f0 < 0 ∨ (runOf x.f0).f1 < (runOf x.f0).f0 ∨ 1099511627776 < (runOf x.f0).f1 then false else if z = 1099511627776 ∨ (runOf x.f0).f0 ≤ z + 1 then false else soundL (some (runOf x.f0).f1) _) = true
        rw [if_neg hs, if_neg (by show ¬ (z = 1099511627776 ∨ x.f0.f0 ≤ z + 1); omega)]
        exact ih
    · have e1 : heldB x = none := if_neg hx
      rw [List.filterMap_cons, e1]
      exact held_sound xs (x.f0.f1 + 1) e (some (bv x.f1)) u k3' (by omega) he haxs (fun z hz => ⟨by have := (hu z hz).1; omega, fun hz2 => by have := (hu z hz).1; omega⟩)
theorem inI_iff (t : Int) (x : Iv) : inI t x = true ↔ x.f0 ≤ t ∧ t ≤ x.f1 := by
  unfold inI
  by_cases c : x.f0 ≤ t
  · rw [if_pos c]
    simp [c]
  · rw [if_neg c]
    simp [c]
theorem held_has (t : Int) : ∀ (out : List Pb) (a e : Int), cont a (out.map erB) = some e → ((∃ x ∈ out.filterMap heldB, inI t x = true) ↔ a ≤ t ∧ t < e ∧ val t (out.map erB) = bv true)
  | [], a, e, h => by
    obtain rfl := Option.some.inj h
    simp
    omega
  | x :: xs, a, e, h => by
    obtain ⟨k1, k2, k3⟩ := cont_head h
    have k1' : x.f0.f0 = a := k1
    have k2' : a ≤ x.f0.f1 := k2
    have k3' : cont (x.f0.f1 + 1) (xs.map erB) = some e := k3
    have hle := cont_le _ _ _ k3'
    have ih := held_has t xs _ e k3'
    have ev : val t ((x :: xs).map erB) = if t ≤ x.f0.f1 then bv x.f1 else val t (xs.map erB) := rfl
    rw [ev]
    by_cases hx : x.f1 = true
    · have e1 : heldB x = some x.f0 := if_pos hx
      rw [List.filterMap_cons, e1]
      simp only [List.mem_cons, exists_eq_or_imp]
      rw [ih, inI_iff, hx]
      by_cases d : t ≤ x.f0.f1
      · rw [if_pos d]
        constructor
        · rintro (h1 | h1)
          · exact ⟨by omega, by omega, rfl⟩
          · omega
        · rintro ⟨h1, h2, _⟩
          exact .inl ⟨by omega, d⟩
      · rw [if_neg d]
        constructor
        · rintro (h1 | h1)
          · omega
          · exact ⟨by omega, h1.2.1, h1.2.2⟩
        · rintro ⟨h1, h2, h3⟩
          exact .inr ⟨by omega, h2, h3⟩
    · have e1 : heldB x = none := if_neg hx
      rw [List.filterMap_cons, e1]
      rw [ih]
      have hxf : x.f1 = false := Bool.eq_false_iff.2 hx
      rw [hxf]
      by_cases d : t ≤ x.f0.f1
      · rw [if_pos d]
        constructor
        · rintro h1; omega
        · rintro ⟨h1, h2, h3⟩
          exact absurd ((bv_same _ _).1 (show sameV (bv false) (bv true) by rw [h3]; exact ⟨rfl, rfl⟩)) (by decide)
      · rw [if_neg d]
        constructor
        · rintro ⟨h1, h2, h3⟩; exact ⟨by omega, h2, h3⟩
        · rintro ⟨h1, h2, h3⟩; exact ⟨by omega, h2, h3⟩
theorem map_back (l : List Er) : (l.map pieceOf).map eraOf = l := by
  rw [List.map_map]
  conv => rhs; rw [← List.map_id l]
  rfl
theorem differ_len (l m : List Er) : ((differL l m).filterMap heldB).length ≤ l.length + m.length := by
  refine Nat.le_trans (List.length_filterMap_le _ _) ?_
  have h1 := puts_len (bothL ((l.map pieceOf).length + (m.map pieceOf).length) (l.map pieceOf) (m.map pieceOf)) []
  have h2 := bothL_len ((l.map pieceOf).length + (m.map pieceOf).length) (l.map pieceOf) (m.map pieceOf)
  rw [List.length_map, List.length_map] at h2
  unfold differL
  rw [List.length_map, List.length_map] at h1 ⊢
  rw [List.length_nil, Nat.zero_add] at h1
  exact Nat.le_trans h1 h2
def differV (w0 w1 : Int) (l m : List Er) : List Iv × Int := if lineB w0 w1 l = true ∧ lineB w0 w1 m = true then (if 1024 < ((differL l m).filterMap heldB).length then ([], 11) else ((differL l m).filterMap heldB, 0)) else ([], 2)
theorem differ_ev (w0 w1 : Int) (l m : List Er) (hb : ∀ x ∈ l, bndE x) (hb2 : ∀ x ∈ m, bndE x) : Ev (fun k => line_Differ.f k w0 w1 l m) (differV w0 w1 l m) := by
  simp only [line_Differ.f]
  refine Ev.bind (check_ev l hb w0 w1) ?_
  by_cases c : lineB w0 w1 l = true
  case neg =>
    have e : differV w0 w1 l m = ([], 2) := if_neg (fun h => c h.1)
    rw [e, Bool.eq_false_iff.2 c]
    exact Ev.pos (by decide) (Ev.const rfl)
  by_cases d : lineB w0 w1 m = true
  case neg =>
    have e : differV w0 w1 l m = ([], 2) := if_neg (fun h => d h.2)
    rw [e, c]
    refine Ev.neg (by decide) (Ev.bind (check_ev m hb2 w0 w1) ?_)
    rw [Bool.eq_false_iff.2 d]
    exact Ev.pos (by decide) (Ev.const rfl)
  have e : differV w0 w1 l m = if 1024 < ((differL l m).filterMap heldB).length then ([], 11) else ((differL l m).filterMap heldB, 0) := if_pos ⟨c, d⟩
  rw [e, c]
  refine Ev.neg (by decide) (Ev.bind (check_ev m hb2 w0 w1) ?_)
  rw [d]
  have h1 := ((line_iff w0 w1 l).1 c).len
  have h2 := ((line_iff w0 w1 m).1 d).len
  exact Ev.neg (by decide) (Ev.pos (Nat.le_trans (Nat.mul_le_mul_right 32 (show l.length + m.length + 1 ≤ 2049 by omega)) (by decide)) (Ev.const rfl))
theorem val_const (t x : Int) (htx : t ≤ x) : ∀ (l : List Er) (a e : Int), cont a l = some e → a ≤ t → x < e → (∀ y ∈ l, t < y.f0.f0 → x < y.f0.f0) → val t l = val x l
  | [], a, e, h, h0, h1, _ => rfl
  | y :: ys, a, e, h, h0, h1, hn => by
    obtain ⟨c1, c2, c3⟩ := cont_head h
    by_cases d : t ≤ y.f0.f1
    · have d2 : x ≤ y.f0.f1 := by
        cases ys with
        | nil => have := Option.some.inj c3; omega
        | cons z zs =>
          obtain ⟨g1, g2, g3⟩ := cont_head c3
          have := hn z (by simp) (by omega)
          omega
      have e1 : val t (y :: ys) = y.f1 := if_pos d
      have e2 : val x (y :: ys) = y.f1 := if_pos d2
      rw [e1, e2]
    · have e1 : val t (y :: ys) = val t ys := if_neg d
      have e2 : val x (y :: ys) = val x ys := if_neg (by omega)
      rw [e1, e2]
      exact val_const t x htx ys _ e c3 (by omega) h1 (fun z hz => hn z (by simp [hz]))
def whenE (v0 v1 : Int) (x : Er) : Option Iv := if x.f1.f0 = v0 ∧ x.f1.f1 = v1 then some ⟨x.f0.f0, x.f0.f1⟩ else none
def whenV (w0 w1 : Int) (l : List Er) (v0 v1 : Int) : List Iv × Int := if lineB w0 w1 l = true then (l.filterMap (whenE v0 v1), 0) else ([], 2)
theorem when_l (v0 v1 : Int) (l : List Er) (hl : l.length ≤ 1024) : ∀ (r : List Er) (i : Nat) (a : List Iv), l.drop i = r → a.length ≤ i → Ev (fun k => line_When.l0 k a l (l.length : Int) (i : Int) v0 v1) (a ++ r.filterMap (whenE v0 v1), 0)
  | [], i, a, hd, ha => by
    have h1 : l.length ≤ i := List.drop_eq_nil_iff.1 hd
    refine Ev.succ ?_
    simp only [line_When.l0]
    exact Ev.neg (by omega) (Ev.const (by simp))
  | x :: r, i, a, hd, ha => by
    have hlt := dlt hd
    refine Ev.succ ?_
    simp only [line_When.l0, rdV hd]
    refine Ev.pos (by omega) (Ev.pos (by omega) (Ev.pos (by omega) ?_))
    rw [w64 (by omega) (by omega), show ((i : Int) + 1) = ((i + 1 : Nat) : Int) by omega]
    by_cases c : x.f1.f0 = v0 ∧ x.f1.f1 = v1
    · have e : whenE v0 v1 x = some ⟨x.f0.f0, x.f0.f1⟩ := if_pos c
      rw [List.filterMap_cons, e]
      refine Ev.pos (by simp [c.1, c.2]) (Ev.pos (by omega) ?_)
      have ih := when_l v0 v1 l hl r (i + 1) (a ++ [⟨x.f0.f0, x.f0.f1⟩]) (dnext hd) (by simp; omega)
      rw [List.append_assoc] at ih
      exact ih
    · have e : whenE v0 v1 x = none := if_neg c
      rw [List.filterMap_cons, e]
      exact Ev.neg (by simpa using c) (when_l v0 v1 l hl r (i + 1) a (dnext hd) (by omega))
theorem when_ev (w0 w1 : Int) (l : List Er) (hb : ∀ x ∈ l, bndE x) (v0 v1 : Int) : Ev (fun k => line_When.f k w0 w1 l v0 v1) (whenV w0 w1 l v0 v1) := by
  simp only [line_When.f]
  refine Ev.bind (check_ev l hb w0 w1) ?_
  unfold whenV
  by_cases c : lineB w0 w1 l = true
  case neg =>
    rw [if_neg c, Bool.eq_false_iff.2 c]
    exact Ev.neg (by decide) (Ev.const rfl)
  rw [if_pos c, c]
  exact Ev.pos rfl (when_l v0 v1 l ((line_iff w0 w1 l).1 c).len l 0 [] rfl (Nat.le_refl _))
theorem when_snd (v0 v1 : Int) : ∀ (l : List Er) (a e : Int) (p : Option Vd) (u : Option Int), cont a l = some e → 0 ≤ a → e ≤ 1099511627777 → alt p l →
    (∀ z, u = some z → z + 1 ≤ a ∧ (z + 1 = a → ∃ q, p = some q ∧ q.f0 = v0 ∧ q.f1 = v1)) → Snd ((l.filterMap (whenE v0 v1)).map runOf) ∧ ∀ z, u = some z → ∀ y ∈ (l.filterMap (whenE v0 v1)).map runOf, z + 1 < y.f0
  | [], a, e, p, u, h, h0, he, ha, hu => ⟨⟨fun y hy => by simp at hy, List.Pairwise.nil⟩, fun z _ y hy => by simp at hy⟩
  | x :: xs, a, e, p, u, h, h0, he, ha, hu => by
    have hc : x.f0.f0 = a ∧ a ≤ x.f0.f1 ∧ cont (x.f0.f1 + 1) xs = some e := by
      unfold cont at h
      by_cases c : x.f0.f0 = a ∧ a ≤ x.f0.f1 ∧ rightB x.f1 = true
      · rw [if_pos c] at h; exact ⟨c.1, c.2.1, h⟩
      · rw [if_neg c] at h; cases h
    obtain ⟨k1, k2, k3⟩ := hc
    have hle := cont_le _ _ _ k3
    have haxs : alt (some x.f1) xs := by
      cases p with
      | none => exact ha
      | some v => exact ha.2
    by_cases c : x.f1.f0 = v0 ∧ x.f1.f1 = v1
    · have e1 : whenE v0 v1 x = some ⟨x.f0.f0, x.f0.f1⟩ := if_pos c
      rw [List.filterMap_cons, e1]
      obtain ⟨i1, i2⟩ := when_snd v0 v1 xs (x.f0.f1 + 1) e (some x.f1) (some x.f0.f1) k3 (by omega) he haxs (fun z hz => by
        obtain rfl := Option.some.inj hz
        exact ⟨Int.le_refl _, fun _ => ⟨x.f1, rfl, c.1, c.2⟩⟩)
      have i3 := i2 _ rfl
      have hst : ∀ z, u = some z → z + 1 < x.f0.f0 := fun z hz => by
        obtain ⟨g1, g2⟩ := hu z hz
        have g3 : z + 1 ≠ a := fun hza => by
          obtain ⟨q, hp, q1, q2⟩ := g2 hza
          subst hp
          exact ha.1 ⟨c.1.trans q1.symm, c.2.trans q2.symm⟩
        omega
      refine ⟨⟨fun y hy => ?_, List.pairwise_cons.2 ⟨fun y hy => i3 y hy, i1.2⟩⟩, fun z hz y hy => ?_⟩
      · rcases List.mem_cons.1 hy with e2 | m
        · rw [e2]
          show 0 ≤ x.f0.f0 ∧ x.f0.f0 ≤ x.f0.f1 ∧ x.f0.f1 ≤ 1099511627776
          omega
        · exact i1.1 y m
      · rcases List.mem_cons.1 hy with e2 | m
        · rw [e2]; exact hst z hz
        · have := i3 y m
          have := hst z hz
          omega
    · have e1 : whenE v0 v1 x = none := if_neg c
      rw [List.filterMap_cons, e1]
      exact when_snd v0 v1 xs (x.f0.f1 + 1) e (some x.f1) u k3 (by omega) he haxs (fun z hz => by
        have := (hu z hz).1
        exact ⟨by omega, fun h2 => by omega⟩)
theorem when_ok {w0 w1 : Int} {l : List Er} (h : LineOk w0 w1 l) (v0 v1 : Int) : SndI (l.filterMap (whenE v0 v1)) := by
  have hw := h.win
  unfold winP at hw
  exact (when_snd v0 v1 l w0 (w1 + 1) none none h.cont hw.1 (by omega) h.alt (fun z hz => by cases hz)).1
theorem when_in (v0 v1 t : Int) : ∀ (l : List Er), inN t ((l.filterMap (whenE v0 v1)).map runOf) ↔ ∃ y ∈ l, (y.f1.f0 = v0 ∧ y.f1.f1 = v1) ∧ y.f0.f0 ≤ t ∧ t ≤ y.f0.f1
  | [] => ⟨fun ⟨z, hz, _⟩ => by simp at hz, fun ⟨z, hz, _⟩ => by simp at hz⟩
  | x :: xs => by
    have ih := when_in v0 v1 t xs
    by_cases c : x.f1.f0 = v0 ∧ x.f1.f1 = v1
    · have e1 : whenE v0 v1 x = some ⟨x.f0.f0, x.f0.f1⟩ := if_pos c
      rw [List.filterMap_cons, e1, List.map_cons, inN_cons, ih]
      simp only [List.mem_cons, exists_eq_or_imp]
      exact or_congr ⟨fun h => ⟨c, h⟩, fun h => h.2⟩ Iff.rfl
    · have e1 : whenE v0 v1 x = none := if_neg c
      rw [List.filterMap_cons, e1, ih]
      simp only [List.mem_cons, exists_eq_or_imp]
      exact ⟨.inr, fun h => h.elim (fun h => absurd h.1 c) id⟩
def eqVB (a b : Vd) : Bool := a.f0 == b.f0 && a.f1 == b.f1
theorem eqVB_iff (a b : Vd) : eqVB a b = true ↔ a.f0 = b.f0 ∧ a.f1 = b.f1 := by
  unfold eqVB
  rw [Bool.and_eq_true, beq_iff_eq, beq_iff_eq]
def seenV (p : List Er) (v : Vd) : Bool := p.any (fun y => eqVB y.f1 v)
theorem seenV_snoc (p : List Er) (x : Er) (v : Vd) : seenV (p ++ [x]) v = (seenV p v || eqVB x.f1 v) := by
  unfold seenV
  rw [List.any_append]
  simp
theorem cont_in (t : Int) : ∀ (l : List Er) (a e : Int), cont a l = some e → ((∃ y ∈ l, y.f0.f0 ≤ t ∧ t ≤ y.f0.f1) ↔ a ≤ t ∧ t < e)
  | [], a, e, h => by
    obtain rfl := Option.some.inj h
    exact ⟨fun ⟨z, hz, _⟩ => by simp at hz, fun h => by omega⟩
  | x :: xs, a, e, h => by
    unfold cont at h
    by_cases c : x.f0.f0 = a ∧ a ≤ x.f0.f1 ∧ rightB x.f1 = true
    · rw [if_pos c] at h
      have ih := cont_in t xs _ _ h
      have hle := cont_le _ _ _ h
      simp only [List.mem_cons, exists_eq_or_imp]
      rw [ih]
      omega
    · rw [if_neg c] at h; cases h
end Go.Proofs.Ytoheongejamapaa.TopA
end
section
namespace Go.Proofs.Ytoheongejamapaa.TopA
set_option linter.unusedVariables false
open Go.RowKit Go.Proofs.Ytoheongejamapaa.Q Go.Proofs.YtoheongejamapaaW.PrintWords Go.Proofs.YtoheongejamapaaW.PrintLast Go.Proofs.YtoheongejamapaaW.PrintMore Go.Proofs.Ytoheongejamapaa.Base Go.Proofs.Ytoheongejamapaa.Open
theorem inI_N (t : Int) (l : List Iv) : (∃ x ∈ l, inI t x = true) ↔ inN t (l.map runOf) := by
  unfold inN
  constructor
  · rintro ⟨x, hx, h⟩
    exact ⟨runOf x, List.mem_map_of_mem hx, (inI_iff t x).1 h⟩
  · rintro ⟨y, hy, h⟩
    obtain ⟨x, hx, rfl⟩ := List.mem_map.1 hy
    exact ⟨x, hx, (inI_iff t x).2 h⟩
theorem differ_in (w0 w1 : Int) (l m : List Er) (hl : LineOk w0 w1 l) (hm : LineOk w0 w1 m) :
    SndI ((differL l m).filterMap heldB) ∧ ∀ t, (inN t (((differL l m).filterMap heldB).map runOf) ↔ w0 ≤ t ∧ t ≤ w1 ∧ neqV (val t l) (val t m) = true) := by
  have hw := hl.win
  obtain ⟨v1, v2, v3⟩ := hw
  have hs : Stand w0 (w1 + 1) (l.map pieceOf) (m.map pieceOf) := by
    have c1 := hl.cont
    have c2 := hm.cont
    cases l with
    | nil => exact absurd rfl hl.ne
    | cons x xs =>
      cases m with
      | nil => exact absurd rfl hm.ne
      | cons y ys =>
        obtain ⟨a1, a2, a3⟩ := cont_head c1
        obtain ⟨b1, b2, b3⟩ := cont_head c2
        refine ⟨mxf_of (x := pieceOf x) (y := pieceOf y) (show x.f0.f0 ≤ w0 by omega) (show y.f0.f0 ≤ w0 by omega) (.inl a1), a2, b2, ?_, ?_⟩
        · rw [map_back]; exact a3
        · rw [map_back]; exact b3
  obtain ⟨p1, p2⟩ := both_ok (w1 + 1) _ _ _ w0 (Nat.le_refl _) hs
  obtain ⟨f1, f2, f3, f4⟩ := fold_ok w0 _ w0 (w1 + 1) [] p1 rfl trivial
  have f1' : cont w0 ((differL l m).map erB) = some (w1 + 1) := f1
  refine ⟨(sound_none _).1 (held_sound (differL l m) w0 (w1 + 1) none none f1' v1 (by omega) f2 (fun z hz => by cases hz)), fun t => ?_⟩
  rw [← inI_N, held_has t (differL l m) w0 (w1 + 1) f1']
  constructor
  · rintro ⟨t0, t1, h⟩
    have g := f4 t t0 t1
    rw [if_neg (by omega), p2 t t0 t1, map_back, map_back] at g
    refine ⟨t0, by omega, ?_⟩
    have g' : bv (neqV (val t l) (val t m)) = bv true := g.symm.trans h
    exact (bv_same _ _).1 (by rw [g']; exact ⟨rfl, rfl⟩)
  · rintro ⟨t0, t1, h⟩
    have g := f4 t t0 (by omega)
    rw [if_neg (by omega), p2 t t0 (by omega), map_back, map_back, h] at g
    exact ⟨t0, by omega, g⟩
theorem neq_iff (a b : Vd) : neqV a b = true ↔ a ≠ b := by
  unfold neqV
  constructor
  · intro h e
    subst e
    simp at h
  · intro h
    by_cases c : a.f0 = b.f0
    · by_cases d : a.f1 = b.f1
      · exact absurd (sameV_eq ⟨c, d⟩) h
      · simp [d]
    · simp [c]
theorem val_at (t : Int) : ∀ (l : List Er) (a e : Int), cont a l = some e → ∀ y ∈ l, y.f0.f0 ≤ t → t ≤ y.f0.f1 → val t l = y.f1
  | [], _, _, _, y, hy, _, _ => by cases hy
  | x :: xs, a, e, h, y, hy, h0, h1 => by
    obtain ⟨c1, c2, c3⟩ := cont_head h
    rcases List.mem_cons.1 hy with rfl | hm
    · exact if_pos h1
    · have := cont_bnd xs _ _ c3 y hm
      have e1 : val t (x :: xs) = val t xs := if_neg (by omega)
      rw [e1]
      exact val_at t xs _ _ c3 y hm h0 h1
theorem when_val {w0 w1 : Int} {l : List Er} (h : LineOk w0 w1 l) (v : Vd) (t : Int) : inN t ((l.filterMap (whenE v.f0 v.f1)).map runOf) ↔ w0 ≤ t ∧ t ≤ w1 ∧ val t l = v := by
  rw [when_in]
  constructor
  · rintro ⟨y, hy, hv, h0, h1⟩
    have hb := (cont_in t l _ _ h.cont).1 ⟨y, hy, h0, h1⟩
    refine ⟨hb.1, by omega, ?_⟩
    rw [val_at t l _ _ h.cont y hy h0 h1]
    exact sameV_eq hv
  · rintro ⟨h0, h1, hv⟩
    obtain ⟨y, hy, g0, g1⟩ := (cont_in t l _ _ h.cont).2 ⟨h0, by omega⟩
    refine ⟨y, hy, ?_, g0, g1⟩
    have e := val_at t l _ _ h.cont y hy g0 g1
    rw [← hv, e]
    exact ⟨rfl, rfl⟩
theorem len_sub : ∀ (A B : List Int), A.Pairwise (· < ·) → (∀ x ∈ A, x ∈ B) → A.length ≤ B.length
  | [], _, _, _ => Nat.zero_le _
  | a :: A, B, hp, hs => by
    obtain ⟨h1, h2⟩ := List.pairwise_cons.1 hp
    have ha := hs a (by simp)
    have ih := len_sub A (B.erase a) h2 (fun x hx => (List.mem_erase_of_ne (by have := h1 x hx; omega)).2 (hs x (by simp [hx])))
    have hl := List.length_erase_of_mem ha
    have hpos := List.length_pos_of_mem ha
    rw [List.length_cons]
    omega
theorem runs_few {N : List Rn} (hN : Snd N) (B : List Int) (h : ∀ y ∈ N, y.f0 ∈ B) : N.length ≤ B.length := by
  have h2 := len_sub (N.map (·.f0)) B (by
    rw [List.pairwise_map]
    refine List.Pairwise.imp_of_mem (fun {a b} ha hb hab => ?_) hN.2
    have := hN.1 a ha
    unfold okR at this
    omega) (fun x hx => by
    obtain ⟨y, hy, rfl⟩ := List.mem_map.1 hx
    exact h y hy)
  rw [List.length_map] at h2
  exact h2
theorem run_first {N : List Rn} (hN : Snd N) {y : Rn} (hy : y ∈ N) : inN y.f0 N ∧ ¬ inN (y.f0 - 1) N := by
  have hk := hN.1 y hy
  unfold okR at hk
  refine ⟨⟨y, hy, Int.le_refl _, hk.2.1⟩, ?_⟩
  rintro ⟨z, hz, h0, h1⟩
  have hkz := hN.1 z hz
  unfold okR at hkz
  obtain ⟨i, hi, rfl⟩ := List.mem_iff_getElem.1 hy
  obtain ⟨j, hj, rfl⟩ := List.mem_iff_getElem.1 hz
  have hp := List.pairwise_iff_getElem.1 hN.2
  by_cases c : i = j
  · subst c; omega
  · by_cases d : i < j
    · have := hp i j hi hj d; omega
    · have := hp j i hj hi (by omega); omega
def sameT (w0 w1 : Int) (l m p : List Er) (t : Int) : Prop := w0 ≤ t ∧ t ≤ w1 ∧ val t l = val t m ∧ seenV p (val t l) = true
theorem same_len {w0 w1 : Int} {l m p : List Er} (hl : LineOk w0 w1 l) (hm : LineOk w0 w1 m) {s : List Iv} (hs : okI s) (h : ∀ t, inN t (s.map runOf) ↔ sameT w0 w1 l m p t) : s.length ≤ l.length + m.length := by
  have h2 := runs_few hs.2 ((l ++ m).map (fun x => x.f0.f0)) (fun y hy => by
    obtain ⟨f1, f2⟩ := run_first hs.2 hy
    obtain ⟨g1, g2, g3, g4⟩ := (h _).1 f1
    refine Classical.byContradiction fun hn => f2 ((h _).2 ?_)
    have key : ∀ z ∈ l ++ m, y.f0 ≠ z.f0.f0 := fun z hz e => hn (List.mem_map.2 ⟨z, hz, e.symm⟩)
    have h0 : w0 ≤ y.f0 - 1 := by
      have c := hl.cont
      cases l with
      | nil => exact absurd rfl hl.ne
      | cons x xs =>
        have := (cont_head c).1
        have := key x (by simp)
        omega
    have e1 : val (y.f0 - 1) l = val y.f0 l := val_const _ _ (by omega) l _ _ hl.cont h0 (by omega) (fun z hz hlt => by have := key z (List.mem_append.2 (.inl hz)); omega)
    have e2 : val (y.f0 - 1) m = val y.f0 m := val_const _ _ (by omega) m _ _ hm.cont h0 (by omega) (fun z hz hlt => by have := key z (List.mem_append.2 (.inr hz)); omega)
    exact ⟨h0, by omega, by rw [e1, e2]; exact g3, by rw [e1]; exact g4⟩)
  rw [List.length_map, List.length_map, List.length_append] at h2
  exact h2
theorem seenV_of {p : List Er} {y : Er} (h : y ∈ p) : seenV p y.f1 = true := List.any_eq_true.2 ⟨y, h, (eqVB_iff _ _).2 ⟨rfl, rfl⟩⟩
theorem val_seen {w0 w1 : Int} {l : List Er} (h : LineOk w0 w1 l) {t : Int} (h0 : w0 ≤ t) (h1 : t ≤ w1) : seenV l (val t l) = true := by
  obtain ⟨y, hy, g0, g1⟩ := (cont_in t l _ _ h.cont).2 ⟨h0, by omega⟩
  rw [val_at t l _ _ h.cont y hy g0 g1]
  exact seenV_of hy
theorem when_line {w0 w1 : Int} {l : List Er} (h : LineOk w0 w1 l) (v : Vd) : okI (l.filterMap (whenE v.f0 v.f1)) := ⟨Nat.le_trans (List.length_filterMap_le _ _) h.len, when_ok h v.f0 v.f1⟩
theorem empty_of {s : List Iv} (hs : okI s) (h : ∀ t, ¬ inN t (s.map runOf)) : s = [] := by
  cases s with
  | nil => rfl
  | cons x xs =>
    have hk := hs.2.1 (runOf x) (by simp)
    unfold okR at hk
    exact absurd ⟨runOf x, by simp, Int.le_refl _, hk.2.1⟩ (h x.f0)
theorem one_row {s u : List Iv} (hs : okI s) (hu : okI u) (h : ∀ t, inN t (s.map runOf) ↔ inN t (u.map runOf)) : s = u := by
  rw [← ivs_back s, Snd.one _ _ hs.2 hu.2 h, ivs_back]
end Go.Proofs.Ytoheongejamapaa.TopA
end
section
namespace Go.Proofs.Ytoheongejamapaa.Pure
set_option linter.unusedVariables false
open Go.RowKit Go.Proofs.Ytoheongejamapaa.Q Go.Proofs.YtoheongejamapaaW.PrintWords Go.Proofs.YtoheongejamapaaW.PrintLast Go.Proofs.Ytoheongejamapaa.Base Go.Proofs.Ytoheongejamapaa.Open Go.Proofs.Ytoheongejamapaa.TopA
theorem begins_evA : Ev spoortop_begins.f true := Ev.of spoortop_begins.mono (k := 200) (by decide +kernel)
theorem eq_l (s : List Iv) (hl : s.length ≤ 4194304) : ∀ (r : List Iv) (i : Nat), s.drop i = r → Ev (fun k => spoortop_TopAgree.l1 k s s (s.length : Int) (i : Int)) true
  | [], i, hd => by
    have h1 : s.length ≤ i := List.drop_eq_nil_iff.1 hd
    refine Ev.succ ?_
    simp only [spoortop_TopAgree.l1]
    exact Ev.neg (by omega) (Ev.const rfl)
  | x :: r, i, hd => by
    have hlt := dlt hd
    refine Ev.succ ?_
    simp only [spoortop_TopAgree.l1, rdI hd]
    refine Ev.pos (by omega) (Ev.pos (by omega) (Ev.pos (by omega) (Ev.pos (by omega) (Ev.neg (by simp) ?_))))
    rw [w64 (by omega) (by omega), show ((i : Int) + 1) = ((i + 1 : Nat) : Int) by omega]
    exact eq_l s hl r (i + 1) (dnext hd)
theorem whenV_ok {w0 w1 : Int} {l : List Er} (h : LineOk w0 w1 l) (v0 v1 : Int) : Ev (fun k => line_When.f k w0 w1 l v0 v1) (l.filterMap (whenE v0 v1), 0) :=
  Ev.to (when_ev w0 w1 l h.bnd v0 v1) (if_pos ((line_iff w0 w1 l).2 h))
theorem agree_l {w0 w1 : Int} {l m : List Er} (hl : LineOk w0 w1 l) (hm : LineOk w0 w1 m) (n1 : l.length ≤ 100) (n2 : m.length ≤ 100) (d : List Iv) (hd0 : okI d) (hdn : d.length ≤ 200) (hd1 : ∀ t, inN t (d.map runOf) ↔ w0 ≤ t ∧ t ≤ w1 ∧ neqV (val t l) (val t m) = true) : ∀ (r : List Er) (i : Nat) (s : List Iv), l.drop i = r → okI s → (∀ t, inN t (s.map runOf) ↔ sameT w0 w1 l m (l.take i) t) →
    Ev (fun k => spoortop_TopAgree.l0 k l m d s l (l.length : Int) (i : Int) w0 w1) true
  | [], i, s, hd, h1, h2 => by
    have hi : l.length ≤ i := List.drop_eq_nil_iff.1 hd
    rw [List.take_of_length_le hi] at h2
    have hw := hl.win
    unfold winP at hw
    have hsl := same_len hl hm h1 h2
    have hx : okI [(⟨w0, w1⟩ : Iv)] := (okI_one _).2 hw
    have h3 : ∀ t, inN t (s.map runOf) ↔ (w0 ≤ t ∧ t ≤ w1) ∧ ¬ inN t (d.map runOf) := fun t => by
      rw [h2 t, hd1 t]
      unfold sameT
      constructor
      · rintro ⟨a, b, c, e⟩
        exact ⟨⟨a, b⟩, fun h => (neq_iff _ _).1 h.2.2 c⟩
      · rintro ⟨⟨a, b⟩, c⟩
        refine ⟨a, b, Classical.byContradiction fun hn => c ⟨a, b, (neq_iff _ _).2 hn⟩, val_seen hl a b⟩
    obtain ⟨N, q1, q2, q3⟩ := not_ok hd0 hx (by omega)
    have eN : N = s := one_row q2 h1 (fun t => (q3 t).trans (h3 t).symm)
    subst eN
    obtain ⟨A, a1, a2, a3⟩ := and_ok hd0 h1 (by omega)
    have eA : A = [] := empty_of a2 (fun t h => ((h3 t).1 ((a3 t).1 h).2).2 ((a3 t).1 h).1)
    subst eA
    have hsum := sum_in hd0 h1 hx (fun t ht => ⟨((hd1 t).1 ht).1, ((hd1 t).1 ht).2.1⟩) h3
    have hsum2 : sumI d + sumI N = w1 - w0 + 1 := hsum
    refine Ev.succ ?_
    simp only [spoortop_TopAgree.l0]
    refine Ev.neg (by omega) (Ev.bind (Ev.to (not_ev d w0 w1) q1) (Ev.bind (Ev.to (and_ev d N) a1) (Ev.bind (long_ev hd0.1 hd0.2) (Ev.bind (long_ev h1.1 h1.2) (Ev.pos rfl (Ev.pos rfl (Ev.pos rfl (Ev.pos rfl (Ev.pos rfl (Ev.pos rfl ?_))))))))))
    dsimp only
    rw [hsum2, w64 (n := w1 - w0) (by omega) (by omega), show (wrap64 (w1 - w0 + 1) != wrap64 (w1 - w0 + 1)) = false by simp]
    refine Ev.succ ?_
    simp only [spoortop_TopAgree.j2]
    exact Ev.neg (by decide) (eq_l N (by omega) N 0 rfl)
  | x :: r, i, s, hd, h1, h2 => by
    have hlt := dlt hd
    have hxi : l[i]? = some x := by rw [← List.head?_drop, hd]; rfl
    have htk : l.take (i + 1) = l.take i ++ [x] := by
      rw [List.take_add_one, hxi]
      rfl
    have hsl := same_len hl hm h1 h2
    have ha := when_line hl x.f1
    have hb := when_line hm x.f1
    have la : (l.filterMap (whenE x.f1.f0 x.f1.f1)).length ≤ 100 := Nat.le_trans (List.length_filterMap_le _ _) n1
    have lb : (m.filterMap (whenE x.f1.f0 x.f1.f1)).length ≤ 100 := Nat.le_trans (List.length_filterMap_le _ _) n2
    obtain ⟨A, a1, a2, a3⟩ := and_ok ha hb (by omega)
    have lA : A.length ≤ 200 := by
      have e : andV (l.filterMap (whenE x.f1.f0 x.f1.f1)) (m.filterMap (whenE x.f1.f0 x.f1.f1)) = finR (meetN ((l.filterMap (whenE x.f1.f0 x.f1.f1)).length + (m.filterMap (whenE x.f1.f0 x.f1.f1)).length) ((l.filterMap (whenE x.f1.f0 x.f1.f1)).map runOf) ((m.filterMap (whenE x.f1.f0 x.f1.f1)).map runOf)) := if_pos ⟨ha, hb⟩
      have h3 := meetN_len ((l.filterMap (whenE x.f1.f0 x.f1.f1)).length + (m.filterMap (whenE x.f1.f0 x.f1.f1)).length) ((l.filterMap (whenE x.f1.f0 x.f1.f1)).map runOf) ((m.filterMap (whenE x.f1.f0 x.f1.f1)).map runOf)
      rw [e] at a1
      unfold finR at a1
      rw [if_neg (by omega)] at a1
      rw [← (Prod.mk.inj a1).1, List.length_map]
      omega
    obtain ⟨O, o1, o2, o3⟩ := or_ok2 h1 a2 (by omega)
    refine Ev.succ ?_
    simp only [spoortop_TopAgree.l0, rdV hd]
    refine Ev.pos (by omega) (Ev.pos (by omega) (Ev.pos (by omega) (Ev.bind (whenV_ok hl _ _) (Ev.bind (whenV_ok hm _ _) (Ev.bind (Ev.to (and_ev _ _) a1) (Ev.bind o1 (Ev.pos rfl (Ev.pos rfl (Ev.pos rfl (Ev.pos rfl ?_))))))))))
    dsimp only
    rw [w64 (n := (i : Int) + 1) (by omega) (by omega), show ((i : Int) + 1) = ((i + 1 : Nat) : Int) by omega]
    refine agree_l hl hm n1 n2 d hd0 hdn hd1 r (i + 1) O (dnext hd) o2 (fun t => ?_)
    rw [o3 t, h2 t, a3 t, when_val hl, when_val hm]
    unfold sameT
    rw [htk, seenV_snoc, Bool.or_eq_true, eqVB_iff]
    constructor
    · rintro (⟨a, b, c, e⟩ | ⟨⟨a, b, c⟩, _, _, e⟩)
      · exact ⟨a, b, c, .inl e⟩
      · exact ⟨a, b, c.trans e.symm, .inr (by rw [c]; exact ⟨rfl, rfl⟩)⟩
    · rintro ⟨a, b, c, e | e⟩
      · exact .inl ⟨a, b, c, e⟩
      · have ev : x.f1 = val t l := sameV_eq e
        exact .inr ⟨⟨a, b, ev.symm⟩, a, b, by rw [← c]; exact ev.symm⟩
theorem TopAgree : spoortop_TopAgree.Pure := by
  intro w0 w1 l m hw h0 h1 hB hC
  have hwl : ∀ x ∈ l, bndE x := fun x hx => wf_era (h0.1 x hx)
  have hwm : ∀ x ∈ m, bndE x := fun x hx => wf_era (h1.1 x hx)
  clear hw h0 h1 hB hC
  refine Ev.rounds (g := fun k => spoortop_TopAgree.f k w0 w1 l m) (r := true) ?_
  simp only [spoortop_TopAgree.f]
  have big : ∀ d, Ev (fun k => spoortop_TopAgree.j0 k l m d true w0 w1) true := fun d => by
    refine Ev.succ ?_
    simp only [spoortop_TopAgree.j0]
    exact Ev.pos trivial (Ev.const rfl)
  refine Ev.bind begins_evA (Ev.pos rfl (Ev.bind (differ_ev w0 w1 l m hwl hwm) ?_))
  by_cases c : (differV w0 w1 l m).2 = 0
  case neg => exact Ev.neg c (big _)
  refine Ev.pos c ?_
  by_cases n1 : (l.length : Int) > 100
  · exact Ev.pos n1 (big _)
  refine Ev.neg n1 ?_
  by_cases n2 : (m.length : Int) > 100
  · rw [decide_eq_true n2]
    exact big _
  rw [decide_eq_false n2]
  unfold differV at c ⊢
  by_cases g : lineB w0 w1 l = true ∧ lineB w0 w1 m = true
  case neg =>
    rw [if_neg g] at c
    exact absurd c (by decide)
  have hl := (line_iff w0 w1 l).1 g.1
  have hm := (line_iff w0 w1 m).1 g.2
  have hdl := differ_len l m
  rw [if_pos g, if_neg (by omega)]
  obtain ⟨d1, d2⟩ := differ_in w0 w1 l m hl hm
  refine Ev.succ ?_
  simp only [spoortop_TopAgree.j0]
  refine Ev.neg (by decide) ?_
  exact agree_l hl hm (by omega) (by omega) _ ⟨by omega, d1⟩ (by omega) d2 l 0 [] rfl ⟨Nat.zero_le _, sndI_nil⟩ (fun t => ⟨fun h => (inN_nil t h).elim, fun h => by
    have := h.2.2.2
    simp [seenV] at this⟩)
end Go.Proofs.Ytoheongejamapaa.Pure
end
section
namespace Go.Proofs.Ytoheongejamapaa.topAgree
open Go.ChangeShapes Go.WideShapes Go.ChangeAt Go.RowKit Go.Proofs.Ytoheongejamapaa.Open Go.Proofs.Ytoheongejamapaa.Q
open Go.ChangeMaps (open_string shut_string)
set_option linter.unusedVariables false
theorem own : ownKnob Try.prog.godebug = none := by kernel_rfl
theorem laidOut : laidOutB Try.prog = true := by kernel_rfl
set_option maxRecDepth 100000 in
theorem contract (H : Type) (enc : TypeId × Value → H) (W : World) (base : Nat) (args : Array Value) (ds gs : List (DataW H)) (before : List MemPlace)
    (hval : ∀ (j : Nat) t v, Try.f3.params[j]? = some t → args[j]? = some v → Value.okWide Try.prog W .any base t v)
    (hW : DataW.Whole enc Try.prog Try.f3.params.toList Rows.topAgreeSpec.vars false W args.toList ds gs before) (hsz0 : (DataW.weightsEach Try.prog (Try.f3.params.toList ++ Rows.topAgreeSpec.plain.varTypes Try.prog) (ds ++ gs)).all (· ≤ reachBytes) = true) :
    Calls Try.prog 3 args W fun e W' => ∃ v, e = .returned v ∧ Rows.topAgreeSpec.post enc Try.prog Try.f3 false true false false W args v W' := by
  have hW' := hW
  obtain ⟨p, q, hA0, hV, rfl, hfz, hnd⟩ := hW
  have hA : DataW.TrodAll enc Try.prog W 0 (fun _ => true) true Try.f3.params.toList args.toList ds p := hA0
  have hsz : (DataW.weightsEach Try.prog (Try.f3.params.toList ++ Rows.topAgreeSpec.plain.varTypes Try.prog) (ds ++ gs)).all (· ≤ reachBytes) = true := hsz0
  rw [Try.params3] at hA hval hsz
  obtain ⟨v0, vs0, d0, ds0, p0, q0, hargs, rfl, rfl, h0, r0⟩ := trodAll_cons hA
  obtain ⟨v1, vs1, d1, ds1, p1, q1, rfl, rfl, rfl, h1, r1⟩ := trodAll_cons r0
  obtain ⟨v2, vs2, d2, ds2, p2, q2, rfl, rfl, rfl, h2, r2⟩ := trodAll_cons r1
  obtain ⟨rfl, rfl, rfl⟩ := trodAll_nil r2
  obtain rfl : args = #[v0, v1, v2] := by cases args; simp_all
  obtain ⟨rfl, rfl⟩ := trodVars_none hV
  have k0 := h0
  have lt0 : ∀ x ∈ p0, x.block < W.heap.size := by obtain ⟨m, hm⟩ := k0; exact DataW.trod_lt m _ _ _ hm
  obtain ⟨fu0, hf0⟩ := h0
  obtain ⟨b0, K0, o0, u0⟩ := opn23 enc W _ _ _ _ _ hf0
  have z0 := k23_open K0
  obtain rfl : v0 = .agg #[.int .i64 b0.f0, .int .i64 b0.f1] := by obtain ⟨x, rfl, _⟩ := okWide_struct Try.underlying23 (hval 0 23 v0 rfl rfl); exact congrArg Value.agg (Array.toList_inj.mp (show x.toList = [.int .i64 b0.f0, .int .i64 b0.f1] from z0))
  have k1 := h1
  have lt1 : ∀ x ∈ p1, x.block < W.heap.size := by obtain ⟨m, hm⟩ := k1; exact DataW.trod_lt m _ _ _ hm
  obtain ⟨fu1, hf1⟩ := h1
  obtain ⟨b1, K1, o1, u1⟩ := (opens_slice opn34 Try.underlying24 (by kernel_rfl) 34) enc W _ _ _ _ _ hf1
  obtain ⟨A1, c1, z1, lc1, C1⟩ := K1
  obtain rfl : v1 = .slice A1 b1.length c1 := by obtain ⟨x, y, z, rfl⟩ := okWide_slice Try.underlying24 (hval 1 24 v1 rfl rfl); exact (List.cons.inj (show [Value.slice x y z] = [Value.slice A1 b1.length c1] from z1)).1
  have k2 := h2
  have lt2 : ∀ x ∈ p2, x.block < W.heap.size := by obtain ⟨m, hm⟩ := k2; exact DataW.trod_lt m _ _ _ hm
  obtain ⟨fu2, hf2⟩ := h2
  obtain ⟨b2, K2, o2, u2⟩ := (opens_slice opn34 Try.underlying24 (by kernel_rfl) 34) enc W _ _ _ _ _ hf2
  obtain ⟨A2, c2, z2, lc2, C2⟩ := K2
  obtain rfl : v2 = .slice A2 b2.length c2 := by obtain ⟨x, y, z, rfl⟩ := okWide_slice Try.underlying24 (hval 2 24 v2 rfl rfl); exact (List.cons.inj (show [Value.slice x y z] = [Value.slice A2 b2.length c2] from z2)).1
  have sz1 : b1.length * 32 ≤ 140737488351232 := sized_row hsz (j := 1) (t := 24) rfl rfl Try.underlying24 (by kernel_rfl) k1
  have sz2 : b2.length * 32 ≤ 140737488351232 := sized_row hsz (j := 2) (t := 24) rfl rfl Try.underlying24 (by kernel_rfl) k2
  obtain ⟨k, h⟩ := Pure.TopAgree b0.f0 b0.f1 b1 b2 o0 o1 o2 sz1 sz2
  refine (spoortop_TopAgree.calls k b0.f0 b0.f1 A1 c1 b1 A2 c2 b2 true W C1 lc1 C2 lc2 h).mono fun e W' ⟨he, hd⟩ => ?_
  have bel := hd
  subst he
  exact ⟨_, rfl, _, _, _, [], _, [], hW', trodAll_mk1 (shut_bool Try.underlying4 _), (trodAll_cons_mk (Below.trod laidOut (by kernel_rfl) (of_decide_eq_true (by kernel_rfl)) k0 bel lt0) (trodAll_cons_mk (Below.trod laidOut (by kernel_rfl) (of_decide_eq_true (by kernel_rfl)) k1 bel lt1) (trodAll_cons_mk (Below.trod laidOut (by kernel_rfl) (of_decide_eq_true (by kernel_rfl)) k2 bel lt2) trodAll_mk0))), rfl, bel.frame _, fun h => by cases h⟩
set_option maxRecDepth 100000 in
theorem lifted (os : Os) (started : os.Started) (H : Type) (enc : TypeId × Value → H) :
    ReturnsInHanded {} Try.checked os 3 .any (Rows.topAgreeSpec.pre6 enc Try.prog Try.f3 Rows.topAgreeRow.domain false) (Rows.topAgreeSpec.post enc Try.prog Try.f3 false true false false) := by
  refine returnsInHanded_of_change_sized (C := Try.checked) own started (by kernel_rfl) Try.func3
    (ChangeSpec.witness6 (enc := enc) (C := Try.checked) false ⟨#[], #[.agg #[.int .i64 0, .int .i64 0], .slice none 0 0, .slice none 0 0], []⟩ 8 (by kernel_rfl) (by kernel_rfl) (by kernel_rfl) (by kernel_rfl)) ?_
  intro W base args ds gs before hval hW _ hsz _
  exact contract H enc W base args ds gs before hval hW hsz
theorem over : Rows.topAgreeRow.holds Try.pinned (OpenSpec.ofChange Rows.topAgreeSpec) :=
  OpenClaim.holds_of_wide 3 Try.f3 rfl rfl rfl rfl rfl rfl rfl ⟨rfl, rfl, rfl, rfl, rfl⟩ rfl rfl rfl rfl rfl (by kernel_rfl) Try.func3 (by kernel_rfl)
    (of_decide_eq_true (by kernel_rfl)) (by unfold Func.isWrapper; first | (rw [if_pos (by decide +kernel)]; kernel_rfl) | (rw [if_neg (by decide +kernel)]; exact ⟨rfl, rfl⟩))
    (fun os started H enc _ => lifted os started H enc)
theorem proved : Rows.TopAgreeSaid := over
#print axioms proved
end Go.Proofs.Ytoheongejamapaa.topAgree
namespace Go.Proofs.Ytoheongejamapaa
theorem topAgree_holds : Rows.TopAgreeSaid := topAgree.proved
end Go.Proofs.Ytoheongejamapaa
end
